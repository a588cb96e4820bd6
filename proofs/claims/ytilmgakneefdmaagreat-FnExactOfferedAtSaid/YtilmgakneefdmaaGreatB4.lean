/- Joined texts: Q1 Pt5 Pt6 Qe Qf Q8 M3 Qb X4 S1 G1 G2 G3 F1 F2 F5 F7 G4 G5 G6. -/
import Derived.Test.YtilmgakneefdmaaGreatB1
import Derived.Test.YtilmgakneefdmaaGreatB2
import Derived.Test.YtilmgakneefdmaaGreatB3
set_option linter.unusedVariables false
set_option linter.unusedSimpArgs false
/-! ### Q1 -/
set_option linter.unusedVariables false
set_option linter.unusedSimpArgs false
set_option maxHeartbeats 600000
set_option maxRecDepth 100000
namespace Go.AM
open Go.Proofs

/-- laws.markInt64S -/
theorem dc_laws_markInt64S (l : List Int) (k : Int) (hk : 0 ≤ k ∧ k + l.length ≤ 4611686018427387904) : DC Tryz.prog 111 [.osl 1 (l.map I1), .int .i64 k] (.int .i64 (k + l.length)) [(0, .osl 1 ((mkL (fun n : Int => n) l.length k).map I1))] := by
 refine DC.intro tiOk Tryz.func111 rfl rfl rfl rfl rfl rfl rfl (by simp [noW, noWo]) [] ?_
 refine rg [0,1] ?_
 intro k hk; simp -dsimp [go_sem, -decide_eq_true_eq, -decide_eq_false_iff_not]
 repeat' first | apply And.intro | refine hk _ ?_ | intro hg | omega | exact True.intro
 all_goals clear hk k
 refine AW.seq ?_
 refine rg [0,1,5] ?_
 intro k hk; simp -dsimp [go_sem, -decide_eq_true_eq, -decide_eq_false_iff_not]
 repeat' first | apply And.intro | refine hk _ ?_ | intro hg | omega | exact True.intro
 all_goals clear hk k
 refine AW.block ?_
 refine AW.loopI (fun i : Nat => ⟨19, [(0, .sl 1900 1 0 l.length), (1, .int .i64 (k + i)), (5, .int .i64 i)], [(1900, some ⟨1, (mkP (fun n : Int => n) l k i).map I1⟩)]⟩) (fun i => i ≤ l.length) (fun i => l.length - i) (0) (by simp) (Less.of rfl (by simp [go_sem]) (by simp [go_sem, mkP_zero])) ?_
 rintro i hi
 refine AW.seq ?_
 refine rg [0,1,5,9] ?_
 intro k hk; simp -dsimp [go_sem, -decide_eq_true_eq, -decide_eq_false_iff_not]
 repeat' first | apply And.intro | refine hk _ ?_ | intro hg | omega | exact True.intro
 all_goals clear hk k
 refine AW.cond rfl ?_ ?_
 ·intro hc; try simp at hc
  all_goals (
   have hlt : i < l.length := by assumption
   obtain ⟨x, hx⟩ := at_some hlt
   have hp := mkP_len (f := (fun n : Int => n)) (k := k) hi
   have hp2 := mkP_at (f := (fun n : Int => n)) (k := k) hx
   have hwk : IntKind.wrap .i64 (k + (i : Int) + 1) = k + (i : Int) + 1 := wrap64 (by omega) (by omega)
   have hwk2 : IntKind.wrap .i64 (k + (i : Int)) = k + (i : Int) := wrap64 (by omega) (by omega)
   refine AW.skipN (fun _ h => h) ?_
   refine AW.seq ?_
   refine AW.block ?_
   refine rg [0,1,5] ?_
   intro k hk; simp -dsimp [go_sem, -decide_eq_true_eq, -decide_eq_false_iff_not, hp, hp2, hwk, hwk2]
   repeat' first | apply And.intro | refine hk _ ?_ | intro hg | omega | exact True.intro
   all_goals clear hk k
   refine rgN [0,1,5] (fun _ h => h) ?_
   intro k hk; simp -dsimp [go_sem, -decide_eq_true_eq, -decide_eq_false_iff_not, hp, hp2, hwk, hwk2]
   repeat' first | apply And.intro | refine hk _ ?_ | intro hg | omega | exact True.intro
   all_goals clear hk k
   refine rgK ?_
   intro k hk; simp -dsimp [go_sem, -decide_eq_true_eq, -decide_eq_false_iff_not, hp, hp2, hwk, hwk2]
   repeat' first | apply And.intro | refine hk _ ?_ | intro hg | omega | exact True.intro
   all_goals clear hk k
   show ∃ _, _
   have hw := wrapi hlt (by omega)
   have hs := mkP_set (f := (fun n : Int => n)) (k := k) hlt
   refine ⟨i + 1, by omega, by omega, Less.of rfl (by simp [go_sem, hw]; omega) (by simp [go_sem, ← hs, List.map_set])⟩)
 ·intro hc; try simp at hc
  all_goals (
   refine AW.exitN (fun _ h => h) ?_
   refine rg [0,4] ?_
   intro k hk; simp -dsimp [go_sem, -decide_eq_true_eq, -decide_eq_false_iff_not]
   repeat' first | apply And.intro | refine hk _ ?_ | intro hg | omega | exact True.intro
   all_goals clear hk k
   refine rt ?_
   obtain rfl : i = l.length := by omega
   simp [go_sem, Tryz.results111, mkP_end, mkL_len])

/-- laws.markInt64S -/
theorem dc_laws_markInt64S_nil (k : Int) : DC Tryz.prog 111 [.isl 1 [], .int .i64 k] (.int .i64 k) [] := by
 refine DC.intro tiOk Tryz.func111 rfl rfl rfl rfl rfl rfl rfl rfl [] ?_
 refine rg [0,1] ?_
 intro k hk; simp -dsimp [go_sem, -decide_eq_true_eq, -decide_eq_false_iff_not]
 repeat' first | apply And.intro | refine hk _ ?_ | intro hg | omega | exact True.intro
 all_goals clear hk k
 refine AW.seq ?_
 refine rg [0,1,5] ?_
 intro k hk; simp -dsimp [go_sem, -decide_eq_true_eq, -decide_eq_false_iff_not]
 repeat' first | apply And.intro | refine hk _ ?_ | intro hg | omega | exact True.intro
 all_goals clear hk k
 refine AW.block ?_
 refine AW.loopI (fun _ : Nat => ⟨19, [(0, .isl 1 []), (1, .int .i64 k), (5, .int .i64 0)], []⟩) (fun _ => True) (fun _ => 0) (0) (trivial) (Less.of rfl (by simp [go_sem]) (by simp [go_sem])) ?_
 rintro i _
 refine AW.seq ?_
 refine rg [0,1,5,9] ?_
 intro k hk; simp -dsimp [go_sem, -decide_eq_true_eq, -decide_eq_false_iff_not]
 repeat' first | apply And.intro | refine hk _ ?_ | intro hg | omega | exact True.intro
 all_goals clear hk k
 refine AW.cond rfl ?_ ?_
 ·intro hc; try simp at hc
  all_goals (
   refine AW.skipN (fun _ h => h) ?_
   refine AW.seq ?_
   refine AW.block ?_
   refine rg [0,1,5] ?_
   intro k hk; simp -dsimp [go_sem, -decide_eq_true_eq, -decide_eq_false_iff_not]
   repeat' first | apply And.intro | refine hk _ ?_ | intro hg | omega | exact True.intro
   all_goals clear hk k
   refine rgN [0,1,5] (fun _ h => h) ?_
   intro k hk; simp -dsimp [go_sem, -decide_eq_true_eq, -decide_eq_false_iff_not]
   repeat' first | apply And.intro | refine hk _ ?_ | intro hg | omega | exact True.intro
   all_goals clear hk k
   refine rgK ?_
   intro k hk; simp -dsimp [go_sem, -decide_eq_true_eq, -decide_eq_false_iff_not]
   repeat' first | apply And.intro | refine hk _ ?_ | intro hg | omega | exact True.intro
   all_goals clear hk k
   show ∃ _, _
   exact absurd hc (by simp))
 ·intro hc; try simp at hc
  all_goals (
   refine AW.exitN (fun _ h => h) ?_
   refine rg [4] ?_
   intro k hk; simp -dsimp [go_sem, -decide_eq_true_eq, -decide_eq_false_iff_not]
   repeat' first | apply And.intro | refine hk _ ?_ | intro hg | omega | exact True.intro
   all_goals clear hk k
   refine rt ?_
   simp [go_sem, Tryz.results111])

end Go.AM

/-! ### Pt5 -/
set_option linter.unusedVariables false
set_option linter.unusedSimpArgs false
namespace Go.AM
end Go.AM

/-! ### Pt6 -/
set_option linter.unusedVariables false
set_option linter.unusedSimpArgs false
namespace Go.AM
def instM (k : Int) (x : TInst) : TInst := ⟨k, ⟨k + 1, k + 2, mkL (fun n : Int => n) x.chart.vars.length (k + 3), mkL (fun n : Int => n) x.chart.acts.length (k + 3 + (x.chart.vars.length : Int)), mkL (fun n : Int => n) x.chart.dues.length (k + 3 + (x.chart.vars.length : Int) + (x.chart.acts.length : Int))⟩⟩
def TInst.mn (x : TInst) : Nat := 3 + x.chart.vars.length + x.chart.acts.length + x.chart.dues.length
def mkI (l : List TInst) : Nat := (l.map TInst.mn).sum
theorem mkI_take {l : List TInst} {i : Nat} {x : TInst} (h : l[i]? = some x) : mkI (l.take (i + 1)) = mkI (l.take i) + x.mn := by
  unfold mkI; rw [List.map_take, List.map_take]; exact sum_take h
theorem mkI_le (l : List TInst) (i : Nat) : mkI (l.take i) ≤ mkI l := by
  unfold mkI; rw [List.map_take]; exact sum_le
theorem mkI_len (l : List TInst) : l.length ≤ mkI l := by
  unfold mkI
  induction l with
  | nil => simp
  | cons x l ih => simp only [List.map_cons, List.sum_cons, List.length_cons, TInst.mn] at *; omega
theorem mkI_sz (l : List TInst) : mkI l ≤ 3 * (l.length + (l.map TInst.sz).sum) := by
  unfold mkI
  induction l with
  | nil => simp
  | cons x l ih => simp only [List.map_cons, List.sum_cons, List.length_cons, TInst.mn, TInst.sz, TChart.sz] at *; omega
def mIn (k : Int) (l : List TInst) : List TInst := l.mapIdx fun j x => instM (k + (mkI (l.take j) : Int)) x
theorem mIn_len {k : Int} {l : List TInst} : (mIn k l).length = l.length := by simp [mIn]
theorem mIn_at {k : Int} {l : List TInst} {i : Nat} {x : TInst} (h : l[i]? = some x) : (mIn k l)[i]? = some (instM (k + (mkI (l.take i) : Int)) x) := by simp [mIn, h]
theorem icids (l : List TInst) : (l.map TInst.oc).flatMap idsL = [] := TInst_oc_idsL l
theorem icases (l : List Int) : (owc 1 (l.map I1) = .isl 1 [] ∧ (∀ K, owc 1 ((mkL (fun n : Int => n) l.length K).map I1) = .isl 1 []) ∧ l.length = 0) ∨
    (owc 1 (l.map I1) = .osl 1 (l.map I1) ∧ (∀ K, owc 1 ((mkL (fun n : Int => n) l.length K).map I1) = .osl 1 ((mkL (fun n : Int => n) l.length K).map I1)) ∧ 0 < l.length) := by
  cases l with
  | nil => exact Or.inl ⟨rfl, fun _ => rfl, rfl⟩
  | cons x r =>
    refine Or.inr ⟨rfl, fun K => ?_, by simp⟩
    have : (mkL (fun n : Int => n) (x :: r).length K).map I1 ≠ [] := by intro h; have := congrArg List.length h; simp [mkL] at this
    rcases owc_cases 1 ((mkL (fun n : Int => n) (x :: r).length K).map I1) with ⟨_, h⟩ | ⟨h, _⟩
    · exact absurd h this
    · exact h
/-! claims -/
def claimM (k : Int) : TClaim := ⟨k, k + 1, k + 2⟩
def mCl (n : Nat) (k : Int) : List TClaim := (List.range n).map fun (i : Nat) => claimM (k + 3 * (i : Int))
theorem mCl_len {n : Nat} {k : Int} : (mCl n k).length = n := by simp [mCl]
theorem mCl_at {n : Nat} {k : Int} {i : Nat} (h : i < n) : (mCl n k)[i]? = some (claimM (k + 3 * (i : Int))) := by simp [mCl, h]
def fC (k : Int) (x : Int) : List AV := [.int .i64 (k + 3 * x), .int .i64 (k + 3 * x + 1), .int .i64 (k + 3 * x + 2)]
theorem fC_eq (k : Int) (i : Nat) : fC k (0 + i) = [.int .i64 (k + 3 * (i : Int)), .int .i64 (k + 3 * (i : Int) + 1), .int .i64 (k + 3 * (i : Int) + 2)] := by simp [fC]
theorem mkC_end {l : List TClaim} {k : Int} : mkP (fC k) (l.map TClaim.ro) 0 l.length = (mCl l.length k).map TClaim.ro := by
  unfold mkP mCl
  rw [List.drop_eq_nil_of_le (by simp), List.append_nil, List.map_map]
  apply List.map_congr_left
  intro i _
  simp [fC, claimM, TClaim.ro]
@[go_sem] theorem take_mCl (g : TClaim → List AV) (n : Nat) (k : Int) : List.take n ((mCl n k).map g) = (mCl n k).map g := List.take_of_length_le (by simp [mCl])
@[go_sem high] theorem TClaim_compR : (fun x => List.map unown x) ∘ TClaim.ro = TClaim.ro := by funext x; simp [TClaim_ro_un]
end Go.AM

/-! ### Qe -/
set_option linter.unusedVariables false
set_option linter.unusedSimpArgs false
set_option maxHeartbeats 600000
set_option maxRecDepth 100000
namespace Go.AM
open Go.Proofs

set_option maxHeartbeats 8000000 in
/-- laws.markInstS -/
theorem dc_laws_markInstS_x (l : List TInst) (k : Int) (hk : 0 ≤ k ∧ k + (mkI l : Int) ≤ 4611686018427387904) : DC Tryz.prog 71 [.osl 6 (l.map TInst.oc), .int .i64 k] (.int .i64 (k + (mkI l : Int))) [(0, .osl 6 ((mIn k l).map TInst.oc))] := by
 have hlk := mkI_len l
 have hmm : (mIn k l).length = l.length := mIn_len
 refine DC.intro tiOk Tryz.func71 rfl rfl rfl rfl rfl rfl rfl (by simp [noW, noWo]) [] ?_
 refine rg [0,1] ?_
 intro k hk; simp -dsimp [go_sem, -decide_eq_true_eq, -decide_eq_false_iff_not]
 repeat' first | apply And.intro | refine hk _ ?_ | intro hg | omega | exact True.intro
 all_goals clear hk k
 refine AW.seq ?_
 refine rg [0,1,5] ?_
 intro k hk; simp -dsimp [go_sem, -decide_eq_true_eq, -decide_eq_false_iff_not]
 repeat' first | apply And.intro | refine hk _ ?_ | intro hg | omega | exact True.intro
 all_goals clear hk k
 refine AW.block ?_
 refine AW.loopI (fun i : Nat => ⟨60, [(0, .sl 1900 6 0 l.length), (1, .int .i64 (k + (mkI (l.take i) : Int))), (5, .int .i64 i)], [(1900, some ⟨6, (mix (mIn k l) l i).map TInst.oc⟩)]⟩) (fun i => i ≤ l.length) (fun i => l.length - i) (0) (by simp) (Less.of rfl (by simp [go_sem, mkI]) (by simp [go_sem, mix_zero])) ?_
 rintro i hi
 refine AW.seq ?_
 refine rg [0,1,5,9] ?_
 intro k hk; simp -dsimp [go_sem, -decide_eq_true_eq, -decide_eq_false_iff_not]
 repeat' first | apply And.intro | refine hk _ ?_ | intro hg | omega | exact True.intro
 all_goals clear hk k
 refine AW.cond rfl ?_ ?_
 ·intro hc; try simp at hc
  all_goals (
   have hlt : i < l.length := by assumption
   obtain ⟨x, hx⟩ := at_some hlt
   have hp : (mix (mIn k l) l i).length = l.length := mix_len hmm hi
   have hp2 : (mix (mIn k l) l i)[i]? = some x := mix_at hmm hx
   have hp3 : ∀ h, (mix (mIn k l) l i)[i]'h = x := fun h => by have h9 := hp2; rw [List.getElem?_eq_getElem h] at h9; exact Option.some.inj h9
   have idm := icids (mix (mIn k l) l i)
   have hpm : ((mix (mIn k l) l i).map TInst.oc).length = l.length := by rw [List.length_map, hp]
   have hmt := mkI_take hx
   have hml := mkI_le l i
   have hml2 := mkI_le l (i + 1)
   unfold TInst.mn at hmt
   have hwk0 : IntKind.wrap .i64 ((k + (mkI (l.take i) : Int)) + 1) = (k + (mkI (l.take i) : Int)) + 1 := (wrap64 (by omega) (by omega)).trans (by omega)
   have hwk1 : IntKind.wrap .i64 ((k + (mkI (l.take i) : Int)) + 1 + 1) = (k + (mkI (l.take i) : Int)) + 2 := (wrap64 (by omega) (by omega)).trans (by omega)
   have hwk2 : IntKind.wrap .i64 ((k + (mkI (l.take i) : Int)) + 2 + 1) = (k + (mkI (l.take i) : Int)) + 3 := (wrap64 (by omega) (by omega)).trans (by omega)
   have hwv0 : IntKind.wrap .i64 ((k + (mkI (l.take i) : Int))) = (k + (mkI (l.take i) : Int)) := wrap64 (by omega) (by omega)
   have hwv1 : IntKind.wrap .i64 ((k + (mkI (l.take i) : Int)) + 1) = (k + (mkI (l.take i) : Int)) + 1 := wrap64 (by omega) (by omega)
   have hwv2 : IntKind.wrap .i64 ((k + (mkI (l.take i) : Int)) + 2) = (k + (mkI (l.take i) : Int)) + 2 := wrap64 (by omega) (by omega)
   refine AW.skipN (fun _ h => h) ?_
   refine AW.seq ?_
   refine AW.block ?_
   rcases icases x.chart.vars with ⟨hov, hov2, hov0⟩ | ⟨hov, hov2, hov0⟩ <;> rcases icases x.chart.acts with ⟨hoa, hoa2, hoa0⟩ | ⟨hoa, hoa2, hoa0⟩ <;> rcases icases x.chart.dues with ⟨hod, hod2, hod0⟩ | ⟨hod, hod2, hod0⟩
   all_goals (
    refine rg [0,1,5] ?_
    intro k hk; simp -dsimp [go_sem, -decide_eq_true_eq, -decide_eq_false_iff_not, hp, hp2, hp3, hlt, idm, hov, hoa, hod, mkL_len, hwk0, hwk1, hwk2, hwv0, hwv1, hwv2]
    repeat' first | apply And.intro | refine hk _ ?_ | intro hg | omega | exact True.intro
    all_goals clear hk k
    refine rg [0,1,5] ?_
    intro k hk; simp -dsimp [go_sem, -decide_eq_true_eq, -decide_eq_false_iff_not, hp, hp2, hp3, hlt, idm, hov, hoa, hod, mkL_len, hwk0, hwk1, hwk2, hwv0, hwv1, hwv2]
    repeat' first | apply And.intro | refine hk _ ?_ | intro hg | omega | exact True.intro
    all_goals clear hk k
    refine rg [0,1,5] ?_
    intro k hk; simp -dsimp (maxSteps := 2000000) [go_sem, -decide_eq_true_eq, -decide_eq_false_iff_not, hp, hp2, hp3, hlt, idm, hov, hoa, hod, mkL_len, hwk0, hwk1, hwk2, hwv0, hwv1, hwv2]
    repeat' first | apply And.intro | refine hk _ ?_ | intro hg | omega | exact True.intro
    all_goals clear hk k
    refine rg [0,1,5] ?_
    intro k hk; simp -dsimp [go_sem, -decide_eq_true_eq, -decide_eq_false_iff_not, hp, hp2, hp3, hlt, idm, hov, hoa, hod, mkL_len, hwk0, hwk1, hwk2, hwv0, hwv1, hwv2]
    repeat' first | apply And.intro | refine hk _ ?_ | intro hg | omega | exact True.intro
    all_goals clear hk k
    refine rg [0,1,5] ?_
    intro k hk; simp -dsimp (maxSteps := 2000000) [go_sem, -decide_eq_true_eq, -decide_eq_false_iff_not, hp, hp2, hp3, hlt, idm, hov, hoa, hod, mkL_len, hwk0, hwk1, hwk2, hwv0, hwv1, hwv2]
    repeat' first | apply And.intro | refine hk _ ?_ | intro hg | omega | exact True.intro
    all_goals clear hk k
    refine rg [0,1,5] ?_
    intro k hk; simp -dsimp [go_sem, -decide_eq_true_eq, -decide_eq_false_iff_not, hp, hp2, hp3, hlt, idm, hov, hoa, hod, mkL_len, hwk0, hwk1, hwk2, hwv0, hwv1, hwv2]
    repeat' first | apply And.intro | refine hk _ ?_ | intro hg | omega | exact True.intro
    all_goals clear hk k
    try refine AW.thaw 1900 i 3 7003 rfl (node_here (by (repeat rw [List.length_set]); omega)) rfl (by simp [go_sem, idm, not_ids_set]) ?_
    refine AW.reg0 tiOk (fun i => if i = 7 then [0] else []) [0,1,5] ?_
    intro k hk; simp -dsimp (maxSteps := 2000000) [go_sem, -decide_eq_true_eq, -decide_eq_false_iff_not, hp, hp2, hp3, hlt, idm, hov, hoa, hod, mkL_len, hwk0, hwk1, hwk2, hwv0, hwv1, hwv2]
    repeat' first | apply And.intro | refine hk _ ?_ | intro hg | ((first | refine CallK.intro (dc_laws_markInt64S x.chart.vars _ (by constructor <;> omega)) ?_ | refine CallK.intro (dc_laws_markInt64S x.chart.acts _ (by constructor <;> omega)) ?_ | refine CallK.intro (dc_laws_markInt64S x.chart.dues _ (by constructor <;> omega)) ?_ | refine CallK.intro (dc_laws_markInt64S_nil _) ?_); simp -dsimp (maxSteps := 2000000) [go_sem, -decide_eq_true_eq, -decide_eq_false_iff_not, hp, hp2, hp3, hlt, idm, hov, hoa, hod, mkL_len, hwk0, hwk1, hwk2, hwv0, hwv1, hwv2]) | omega | exact True.intro
    all_goals clear hk k
    try (guard_hyp hov0 : 0 < x.chart.vars.length; refine AW.fold 1900 i 3 7003 rfl (node_here (by (repeat rw [List.length_set]); omega)) rfl rfl (by simp [mkL_len]) (by decide) (by simp [go_sem, mkL_len]) ?_)
    try refine AW.thaw 1900 i 4 7004 rfl (node_here (by (repeat rw [List.length_set]); omega)) rfl (by simp [go_sem, idm, not_ids_set]) ?_
    refine AW.reg0 tiOk (fun i => if i = 7 then [0] else []) [0,1,5] ?_
    intro k hk; simp -dsimp (maxSteps := 2000000) [go_sem, -decide_eq_true_eq, -decide_eq_false_iff_not, hp, hp2, hp3, hlt, idm, hov, hoa, hod, mkL_len, hwk0, hwk1, hwk2, hwv0, hwv1, hwv2]
    repeat' first | apply And.intro | refine hk _ ?_ | intro hg | ((first | refine CallK.intro (dc_laws_markInt64S x.chart.vars _ (by constructor <;> omega)) ?_ | refine CallK.intro (dc_laws_markInt64S x.chart.acts _ (by constructor <;> omega)) ?_ | refine CallK.intro (dc_laws_markInt64S x.chart.dues _ (by constructor <;> omega)) ?_ | refine CallK.intro (dc_laws_markInt64S_nil _) ?_); simp -dsimp (maxSteps := 2000000) [go_sem, -decide_eq_true_eq, -decide_eq_false_iff_not, hp, hp2, hp3, hlt, idm, hov, hoa, hod, mkL_len, hwk0, hwk1, hwk2, hwv0, hwv1, hwv2]) | omega | exact True.intro
    all_goals clear hk k
    try (guard_hyp hoa0 : 0 < x.chart.acts.length; refine AW.fold 1900 i 4 7004 rfl (node_here (by (repeat rw [List.length_set]); omega)) rfl rfl (by simp [mkL_len]) (by decide) (by simp [go_sem, mkL_len]) ?_)
    try refine AW.thaw 1900 i 5 7005 rfl (node_here (by (repeat rw [List.length_set]); omega)) rfl (by simp [go_sem, idm, not_ids_set]) ?_
    refine AW.regN0 tiOk (fun i => if i = 7 then [0] else []) [0,1,5] (fun _ h => h) ?_
    intro k hk; simp -dsimp (maxSteps := 2000000) [go_sem, -decide_eq_true_eq, -decide_eq_false_iff_not, hp, hp2, hp3, hlt, idm, hov, hoa, hod, mkL_len, hwk0, hwk1, hwk2, hwv0, hwv1, hwv2]
    repeat' first | apply And.intro | refine hk _ ?_ | intro hg | ((first | refine CallK.intro (dc_laws_markInt64S x.chart.vars _ (by constructor <;> omega)) ?_ | refine CallK.intro (dc_laws_markInt64S x.chart.acts _ (by constructor <;> omega)) ?_ | refine CallK.intro (dc_laws_markInt64S x.chart.dues _ (by constructor <;> omega)) ?_ | refine CallK.intro (dc_laws_markInt64S_nil _) ?_); simp -dsimp (maxSteps := 2000000) [go_sem, -decide_eq_true_eq, -decide_eq_false_iff_not, hp, hp2, hp3, hlt, idm, hov, hoa, hod, mkL_len, hwk0, hwk1, hwk2, hwv0, hwv1, hwv2]) | omega | exact True.intro
    all_goals clear hk k
    try (guard_hyp hod0 : 0 < x.chart.dues.length; refine AW.fold 1900 i 5 7005 rfl (node_here (by (repeat rw [List.length_set]); omega)) rfl rfl (by simp [mkL_len]) (by decide) (by simp [go_sem, mkL_len]) ?_)
    refine rgK ?_
    intro k hk; simp -dsimp [go_sem, -decide_eq_true_eq, -decide_eq_false_iff_not, hp, hp2, hp3, hlt, idm, hov, hoa, hod, mkL_len, hwk0, hwk1, hwk2, hwv0, hwv1, hwv2]
    repeat' first | apply And.intro | refine hk _ ?_ | intro hg | omega | exact True.intro
    all_goals clear hk k
    show ∃ _, _
    have hw := wrapi hlt (by omega)
    have hs := congrArg (List.map TInst.oc) (mix_set hmm (mIn_at hx))
    rw [List.map_set] at hs
    refine ⟨i + 1, by omega, by omega, Less.of rfl (by simp [go_sem, hw, hmt, hov0, hoa0, hod0] <;> omega) (by rw [← hs]; simp [go_sem, instM, TInst.oc, hov2, hoa2, hod2, List.set_set] <;> simp [hov0, hoa0, hod0])⟩))
 ·intro hc; try simp at hc
  all_goals (
   refine AW.exitN (fun _ h => h) ?_
   refine rg [0,4] ?_
   intro k hk; simp -dsimp [go_sem, -decide_eq_true_eq, -decide_eq_false_iff_not]
   repeat' first | apply And.intro | refine hk _ ?_ | intro hg | omega | exact True.intro
   all_goals clear hk k
   refine rt ?_
   obtain rfl : i = l.length := (by omega)
   simp [go_sem, Tryz.results71, mix_end hmm (Nat.le_refl _), hmm])

end Go.AM

/-! ### Qf -/
set_option linter.unusedVariables false
set_option linter.unusedSimpArgs false
set_option maxHeartbeats 600000
set_option maxRecDepth 100000
namespace Go.AM
open Go.Proofs

/-- laws.markClaimS -/
theorem dc_laws_markClaimS_x (l : List TClaim) (k : Int) (hk : 0 ≤ k ∧ k + 3 * l.length ≤ 4611686018427387904) : DC Tryz.prog 77 [.osl 3 (l.map TClaim.ro), .int .i64 k] (.int .i64 (k + 3 * (l.length : Int))) [(0, .osl 3 ((mCl l.length k).map TClaim.ro))] := by
 refine DC.intro tiOk Tryz.func77 rfl rfl rfl rfl rfl rfl rfl (by simp [noW, noWo]) [] ?_
 refine rg [0,1] ?_
 intro k hk; simp -dsimp [go_sem, -decide_eq_true_eq, -decide_eq_false_iff_not]
 repeat' first | apply And.intro | refine hk _ ?_ | intro hg | omega | exact True.intro
 all_goals clear hk k
 refine AW.seq ?_
 refine rg [0,1,5] ?_
 intro k hk; simp -dsimp [go_sem, -decide_eq_true_eq, -decide_eq_false_iff_not]
 repeat' first | apply And.intro | refine hk _ ?_ | intro hg | omega | exact True.intro
 all_goals clear hk k
 refine AW.block ?_
 refine AW.loopI (fun i : Nat => ⟨34, [(0, .sl 1900 3 0 l.length), (1, .int .i64 (k + 3 * (i : Int))), (5, .int .i64 i)], [(1900, some ⟨3, mkP (fC k) (l.map TClaim.ro) 0 i⟩)]⟩) (fun i => i ≤ l.length) (fun i => l.length - i) (0) (by simp) (Less.of rfl (by simp [go_sem]) (by simp [go_sem, mkP_zero])) ?_
 rintro i hi
 refine AW.seq ?_
 refine rg [0,1,5,9] ?_
 intro k hk; simp -dsimp [go_sem, -decide_eq_true_eq, -decide_eq_false_iff_not]
 repeat' first | apply And.intro | refine hk _ ?_ | intro hg | omega | exact True.intro
 all_goals clear hk k
 refine AW.cond rfl ?_ ?_
 ·intro hc; try simp at hc
  all_goals (
   have hlt : i < l.length := by assumption
   obtain ⟨x, hx⟩ := at_some hlt
   have hp : (mkP (fC k) (l.map TClaim.ro) 0 i).length = l.length := by rw [mkP_len (by simpa using hi)]; simp
   have hp2 : (mkP (fC k) (l.map TClaim.ro) 0 i)[i]? = some x.ro := mkP_at (by simp [hx])
   have hp3 : ∀ h, (mkP (fC k) (l.map TClaim.ro) 0 i)[i]'h = x.ro := fun h => by have h9 := hp2; rw [List.getElem?_eq_getElem h] at h9; exact Option.some.inj h9
   have hwk0 : IntKind.wrap .i64 (k + 3 * (i : Int) + 1) = k + 3 * (i : Int) + 1 := (wrap64 (by omega) (by omega)).trans (by omega)
   have hwk1 : IntKind.wrap .i64 (k + 3 * (i : Int) + 1 + 1) = k + 3 * (i : Int) + 2 := (wrap64 (by omega) (by omega)).trans (by omega)
   have hwk2 : IntKind.wrap .i64 (k + 3 * (i : Int) + 2 + 1) = k + 3 * (i : Int) + 3 := (wrap64 (by omega) (by omega)).trans (by omega)
   have hwv0 : IntKind.wrap .i64 (k + 3 * (i : Int)) = k + 3 * (i : Int) := wrap64 (by omega) (by omega)
   have hwv1 : IntKind.wrap .i64 (k + 3 * (i : Int) + 1) = k + 3 * (i : Int) + 1 := wrap64 (by omega) (by omega)
   have hwv2 : IntKind.wrap .i64 (k + 3 * (i : Int) + 2) = k + 3 * (i : Int) + 2 := wrap64 (by omega) (by omega)
   have hwv3 : IntKind.wrap .i64 (k + 3 * (i : Int) + 3) = k + 3 * (i : Int) + 3 := wrap64 (by omega) (by omega)
   refine AW.skipN (fun _ h => h) ?_
   refine AW.seq ?_
   refine AW.block ?_
   refine rg [0,1,5] ?_
   intro k hk; simp -dsimp [go_sem, -decide_eq_true_eq, -decide_eq_false_iff_not, hp, hp2, hp3, hlt, hwk0, hwk1, hwk2, hwv0, hwv1, hwv2, hwv3]
   repeat' first | apply And.intro | refine hk _ ?_ | intro hg | omega | exact True.intro
   all_goals clear hk k
   refine rg [0,1,5] ?_
   intro k hk; simp -dsimp [go_sem, -decide_eq_true_eq, -decide_eq_false_iff_not, hp, hp2, hp3, hlt, hwk0, hwk1, hwk2, hwv0, hwv1, hwv2, hwv3]
   repeat' first | apply And.intro | refine hk _ ?_ | intro hg | omega | exact True.intro
   all_goals clear hk k
   refine rg [0,1,5] ?_
   intro k hk; simp -dsimp [go_sem, -decide_eq_true_eq, -decide_eq_false_iff_not, hp, hp2, hp3, hlt, hwk0, hwk1, hwk2, hwv0, hwv1, hwv2, hwv3]
   repeat' first | apply And.intro | refine hk _ ?_ | intro hg | omega | exact True.intro
   all_goals clear hk k
   refine rg [0,1,5] ?_
   intro k hk; simp -dsimp [go_sem, -decide_eq_true_eq, -decide_eq_false_iff_not, hp, hp2, hp3, hlt, hwk0, hwk1, hwk2, hwv0, hwv1, hwv2, hwv3]
   repeat' first | apply And.intro | refine hk _ ?_ | intro hg | omega | exact True.intro
   all_goals clear hk k
   refine rg [0,1,5] ?_
   intro k hk; simp -dsimp [go_sem, -decide_eq_true_eq, -decide_eq_false_iff_not, hp, hp2, hp3, hlt, hwk0, hwk1, hwk2, hwv0, hwv1, hwv2, hwv3]
   repeat' first | apply And.intro | refine hk _ ?_ | intro hg | omega | exact True.intro
   all_goals clear hk k
   refine rgN [0,1,5] (fun _ h => h) ?_
   intro k hk; simp -dsimp [go_sem, -decide_eq_true_eq, -decide_eq_false_iff_not, hp, hp2, hp3, hlt, hwk0, hwk1, hwk2, hwv0, hwv1, hwv2, hwv3]
   repeat' first | apply And.intro | refine hk _ ?_ | intro hg | omega | exact True.intro
   all_goals clear hk k
   refine rgK ?_
   intro k hk; simp -dsimp [go_sem, -decide_eq_true_eq, -decide_eq_false_iff_not, hp, hp2, hp3, hlt, hwk0, hwk1, hwk2, hwv0, hwv1, hwv2, hwv3]
   repeat' first | apply And.intro | refine hk _ ?_ | intro hg | omega | exact True.intro
   all_goals clear hk k
   show ∃ _, _
   have hw := wrapi hlt (by omega)
   have hs := mkP_set (f := fC k) (l := l.map TClaim.ro) (k := 0) (i := i) (by simpa using hlt)
   rw [fC_eq] at hs
   refine ⟨i + 1, by omega, by omega, Less.of rfl (by simp [go_sem, hw]; omega) (by simp [go_sem, ← hs])⟩)
 ·intro hc; try simp at hc
  all_goals (
   refine AW.exitN (fun _ h => h) ?_
   refine rg [0,4] ?_
   intro k hk; simp -dsimp [go_sem, -decide_eq_true_eq, -decide_eq_false_iff_not]
   repeat' first | apply And.intro | refine hk _ ?_ | intro hg | omega | exact True.intro
   all_goals clear hk k
   refine rt ?_
   obtain rfl : i = l.length := (by omega)
   simp [go_sem, Tryz.results77, mkC_end, mCl_len])

/-- laws.heldClaimS -/
theorem dc_laws_heldClaimS (n : Nat) (k : Int) (hk : 0 ≤ k ∧ k + 3 * n ≤ 4611686018427387904) : DC Tryz.prog 78 [.isl 3 ((mCl n k).map TClaim.ro), .int .i64 k] (.int .i64 (k + 3 * (n : Int))) [] := by
 have hml := mCl_len (n := n) (k := k)
 refine DC.intro tiOk Tryz.func78 rfl rfl rfl rfl rfl rfl rfl rfl [] ?_
 refine rg [0,1] ?_
 intro k hk; simp -dsimp [go_sem, -decide_eq_true_eq, -decide_eq_false_iff_not, hml]
 repeat' first | apply And.intro | refine hk _ ?_ | intro hg | omega | exact True.intro
 all_goals clear hk k
 refine AW.seq ?_
 refine rg [0,1,5] ?_
 intro k hk; simp -dsimp [go_sem, -decide_eq_true_eq, -decide_eq_false_iff_not, hml]
 repeat' first | apply And.intro | refine hk _ ?_ | intro hg | omega | exact True.intro
 all_goals clear hk k
 refine AW.block ?_
 refine AW.loopI (fun i : Nat => ⟨40, [(0, .isl 3 ((mCl n k).map TClaim.ro)), (1, .int .i64 (k + 3 * (i : Int))), (5, .int .i64 i)], []⟩) (fun i => i ≤ n) (fun i => n - i) (0) (by simp) (Less.of rfl (by simp [go_sem]) (by simp [go_sem])) ?_
 rintro i hi
 refine AW.seq ?_
 refine rg [0,1,5,9] ?_
 intro k hk; simp -dsimp [go_sem, -decide_eq_true_eq, -decide_eq_false_iff_not, hml]
 repeat' first | apply And.intro | refine hk _ ?_ | intro hg | omega | exact True.intro
 all_goals clear hk k
 refine AW.cond rfl ?_ ?_
 ·intro hc; try simp at hc
  all_goals try (exfalso; omega; done)
  all_goals (
   have hlt : i < n := by assumption
   have hx := mCl_at (k := k) hlt
   have hwk0 : IntKind.wrap .i64 (k + 3 * (i : Int) + 1) = k + 3 * (i : Int) + 1 := (wrap64 (by omega) (by omega)).trans (by omega)
   have hwk1 : IntKind.wrap .i64 (k + 3 * (i : Int) + 1 + 1) = k + 3 * (i : Int) + 2 := (wrap64 (by omega) (by omega)).trans (by omega)
   have hwk2 : IntKind.wrap .i64 (k + 3 * (i : Int) + 2 + 1) = k + 3 * (i : Int) + 3 := (wrap64 (by omega) (by omega)).trans (by omega)
   have hwv0 : IntKind.wrap .i64 (k + 3 * (i : Int)) = k + 3 * (i : Int) := wrap64 (by omega) (by omega)
   have hwv1 : IntKind.wrap .i64 (k + 3 * (i : Int) + 1) = k + 3 * (i : Int) + 1 := wrap64 (by omega) (by omega)
   have hwv2 : IntKind.wrap .i64 (k + 3 * (i : Int) + 2) = k + 3 * (i : Int) + 2 := wrap64 (by omega) (by omega)
   have hwv3 : IntKind.wrap .i64 (k + 3 * (i : Int) + 3) = k + 3 * (i : Int) + 3 := wrap64 (by omega) (by omega)
   refine AW.skipN (fun _ h => h) ?_
   refine AW.seq ?_
   refine AW.block ?_
   refine AW.seq ?_
   refine rg [0,1,5,18] ?_
   intro k hk; simp -dsimp (maxSteps := 2000000) [go_sem, -decide_eq_true_eq, -decide_eq_false_iff_not, hml, hx, claimM, hwk0, hwk1, hwk2, hwv0, hwv1, hwv2, hwv3]
   repeat' first | apply And.intro | refine hk _ ?_ | intro hg | omega | exact True.intro
   all_goals clear hk k
   refine AW.cond rfl ?_ ?_
   ·intro hc; try simp at hc
    all_goals try (exfalso; omega; done)
    all_goals (
     refine rg [4] ?_
     intro k hk; simp -dsimp [go_sem, -decide_eq_true_eq, -decide_eq_false_iff_not, hml, hx, claimM, hwk0, hwk1, hwk2, hwv0, hwv1, hwv2, hwv3]
     repeat' first | apply And.intro | refine hk _ ?_ | intro hg | omega | exact True.intro
     all_goals clear hk k
     refine rt ?_
     obtain rfl : i = n := (by omega)
     simp [go_sem, Tryz.results78])
   ·intro hc; try simp at hc
    all_goals try (exfalso; omega; done)
    all_goals (
     refine AW.skipN (fun _ h => h) ?_
     refine rg [0,1,5] ?_
     intro k hk; simp -dsimp [go_sem, -decide_eq_true_eq, -decide_eq_false_iff_not, hml, hx, claimM, hwk0, hwk1, hwk2, hwv0, hwv1, hwv2, hwv3]
     repeat' first | apply And.intro | refine hk _ ?_ | intro hg | omega | exact True.intro
     all_goals clear hk k
     refine AW.seq ?_
     refine rg [0,1,5,27] ?_
     intro k hk; simp -dsimp (maxSteps := 2000000) [go_sem, -decide_eq_true_eq, -decide_eq_false_iff_not, hml, hx, claimM, hwk0, hwk1, hwk2, hwv0, hwv1, hwv2, hwv3]
     repeat' first | apply And.intro | refine hk _ ?_ | intro hg | omega | exact True.intro
     all_goals clear hk k
     refine AW.cond rfl ?_ ?_
     ·intro hc; try simp at hc
      all_goals try (exfalso; omega; done)
      all_goals (
       refine rg [4] ?_
       intro k hk; simp -dsimp [go_sem, -decide_eq_true_eq, -decide_eq_false_iff_not, hml, hx, claimM, hwk0, hwk1, hwk2, hwv0, hwv1, hwv2, hwv3]
       repeat' first | apply And.intro | refine hk _ ?_ | intro hg | omega | exact True.intro
       all_goals clear hk k
       refine rt ?_
       obtain rfl : i = n := (by omega)
       simp [go_sem, Tryz.results78])
     ·intro hc; try simp at hc
      all_goals try (exfalso; omega; done)
      all_goals (
       refine AW.skipN (fun _ h => h) ?_
       refine rg [0,1,5] ?_
       intro k hk; simp -dsimp [go_sem, -decide_eq_true_eq, -decide_eq_false_iff_not, hml, hx, claimM, hwk0, hwk1, hwk2, hwv0, hwv1, hwv2, hwv3]
       repeat' first | apply And.intro | refine hk _ ?_ | intro hg | omega | exact True.intro
       all_goals clear hk k
       refine AW.seq ?_
       refine rg [0,1,5,36] ?_
       intro k hk; simp -dsimp (maxSteps := 2000000) [go_sem, -decide_eq_true_eq, -decide_eq_false_iff_not, hml, hx, claimM, hwk0, hwk1, hwk2, hwv0, hwv1, hwv2, hwv3]
       repeat' first | apply And.intro | refine hk _ ?_ | intro hg | omega | exact True.intro
       all_goals clear hk k
       refine AW.cond rfl ?_ ?_
       ·intro hc; try simp at hc
        all_goals try (exfalso; omega; done)
        all_goals (
         refine rg [4] ?_
         intro k hk; simp -dsimp [go_sem, -decide_eq_true_eq, -decide_eq_false_iff_not, hml, hx, claimM, hwk0, hwk1, hwk2, hwv0, hwv1, hwv2, hwv3]
         repeat' first | apply And.intro | refine hk _ ?_ | intro hg | omega | exact True.intro
         all_goals clear hk k
         refine rt ?_
         obtain rfl : i = n := (by omega)
         simp [go_sem, Tryz.results78])
       ·intro hc; try simp at hc
        all_goals try (exfalso; omega; done)
        all_goals (
         refine AW.skipN (fun _ h => h) ?_
         refine rgN [0,1,5] (fun _ h => h) ?_
         intro k hk; simp -dsimp [go_sem, -decide_eq_true_eq, -decide_eq_false_iff_not, hml, hx, claimM, hwk0, hwk1, hwk2, hwv0, hwv1, hwv2, hwv3]
         repeat' first | apply And.intro | refine hk _ ?_ | intro hg | omega | exact True.intro
         all_goals clear hk k
         refine rgK ?_
         intro k hk; simp -dsimp [go_sem, -decide_eq_true_eq, -decide_eq_false_iff_not, hml, hx, claimM, hwk0, hwk1, hwk2, hwv0, hwv1, hwv2, hwv3]
         repeat' first | apply And.intro | refine hk _ ?_ | intro hg | omega | exact True.intro
         all_goals clear hk k
         show ∃ _, _
         have hw := wrapi hlt (by omega)
         refine ⟨i + 1, by omega, by omega, Less.of rfl (by simp [go_sem, hw]; omega) (by simp [go_sem])⟩))))
 ·intro hc; try simp at hc
  all_goals try (exfalso; omega; done)
  all_goals (
   refine AW.exitN (fun _ h => h) ?_
   refine rg [4] ?_
   intro k hk; simp -dsimp [go_sem, -decide_eq_true_eq, -decide_eq_false_iff_not, hml]
   repeat' first | apply And.intro | refine hk _ ?_ | intro hg | omega | exact True.intro
   all_goals clear hk k
   refine rt ?_
   obtain rfl : i = n := (by omega)
   simp [go_sem, Tryz.results78])

end Go.AM

/-! ### Q8 -/
set_option linter.unusedVariables false
set_option linter.unusedSimpArgs false
set_option maxHeartbeats 600000
set_option maxRecDepth 100000
namespace Go.AM
open Go.Proofs

end Go.AM

/-! ### M3 -/
set_option linter.unusedVariables false
set_option linter.unusedSimpArgs false
set_option maxHeartbeats 600000
set_option maxRecDepth 100000
namespace Go.AM
open Go.Proofs

end Go.AM

/-! ### Qb -/
set_option linter.unusedVariables false
set_option linter.unusedSimpArgs false
set_option maxHeartbeats 600000
set_option maxRecDepth 100000
namespace Go.AM
open Go.Proofs

/-- laws.markClaimS -/
theorem dc_laws_markClaimS_nil (k : Int) : DC Tryz.prog 77 [.isl 3 [], .int .i64 k] (.int .i64 k) [] := by
 refine DC.intro tiOk Tryz.func77 rfl rfl rfl rfl rfl rfl rfl rfl [] ?_
 refine rg [0,1] ?_
 intro k hk; simp -dsimp [go_sem, -decide_eq_true_eq, -decide_eq_false_iff_not]
 repeat' first | apply And.intro | refine hk _ ?_ | intro hg | omega | exact True.intro
 all_goals clear hk k
 refine AW.seq ?_
 refine rg [0,1,5] ?_
 intro k hk; simp -dsimp [go_sem, -decide_eq_true_eq, -decide_eq_false_iff_not]
 repeat' first | apply And.intro | refine hk _ ?_ | intro hg | omega | exact True.intro
 all_goals clear hk k
 refine AW.block ?_
 refine AW.loopI (fun _ : Nat => ⟨34, [(0, .isl 3 []), (1, .int .i64 k), (5, .int .i64 0)], []⟩) (fun _ => True) (fun _ => 0) (0) (trivial) (Less.of rfl (by simp [go_sem]) (by simp [go_sem])) ?_
 rintro i _
 refine AW.seq ?_
 refine rg [0,1,5,9] ?_
 intro k hk; simp -dsimp [go_sem, -decide_eq_true_eq, -decide_eq_false_iff_not]
 repeat' first | apply And.intro | refine hk _ ?_ | intro hg | omega | exact True.intro
 all_goals clear hk k
 refine AW.cond rfl ?_ ?_
 ·intro hc; try simp at hc
  all_goals try (exfalso; first | omega | (simp at hc; done); done)
  all_goals (
   refine AW.skipN (fun _ h => h) ?_
   refine AW.seq ?_
   refine AW.block ?_
   refine rg [0,1,5] ?_
   intro k hk; simp -dsimp [go_sem, -decide_eq_true_eq, -decide_eq_false_iff_not]
   repeat' first | apply And.intro | refine hk _ ?_ | intro hg | omega | exact True.intro
   all_goals clear hk k
   refine rg [0,1,5] ?_
   intro k hk; simp -dsimp [go_sem, -decide_eq_true_eq, -decide_eq_false_iff_not]
   repeat' first | apply And.intro | refine hk _ ?_ | intro hg | omega | exact True.intro
   all_goals clear hk k
   refine rg [0,1,5] ?_
   intro k hk; simp -dsimp [go_sem, -decide_eq_true_eq, -decide_eq_false_iff_not]
   repeat' first | apply And.intro | refine hk _ ?_ | intro hg | omega | exact True.intro
   all_goals clear hk k
   refine rg [0,1,5] ?_
   intro k hk; simp -dsimp [go_sem, -decide_eq_true_eq, -decide_eq_false_iff_not]
   repeat' first | apply And.intro | refine hk _ ?_ | intro hg | omega | exact True.intro
   all_goals clear hk k
   refine rg [0,1,5] ?_
   intro k hk; simp -dsimp [go_sem, -decide_eq_true_eq, -decide_eq_false_iff_not]
   repeat' first | apply And.intro | refine hk _ ?_ | intro hg | omega | exact True.intro
   all_goals clear hk k
   refine rgN [0,1,5] (fun _ h => h) ?_
   intro k hk; simp -dsimp [go_sem, -decide_eq_true_eq, -decide_eq_false_iff_not]
   repeat' first | apply And.intro | refine hk _ ?_ | intro hg | omega | exact True.intro
   all_goals clear hk k
   refine rgK ?_
   intro k hk; simp -dsimp [go_sem, -decide_eq_true_eq, -decide_eq_false_iff_not]
   repeat' first | apply And.intro | refine hk _ ?_ | intro hg | omega | exact True.intro
   all_goals clear hk k
   show ∃ _, _
   exact absurd hc (by simp))
 ·intro hc; try simp at hc
  all_goals try (exfalso; first | omega | (simp at hc; done); done)
  all_goals (
   refine AW.exitN (fun _ h => h) ?_
   refine rg [4] ?_
   intro k hk; simp -dsimp [go_sem, -decide_eq_true_eq, -decide_eq_false_iff_not]
   repeat' first | apply And.intro | refine hk _ ?_ | intro hg | omega | exact True.intro
   all_goals clear hk k
   refine rt ?_
   simp [go_sem, Tryz.results77])

/-- laws.heldClaimS -/
theorem dc_laws_heldClaimS_nil (k : Int) : DC Tryz.prog 78 [.isl 3 [], .int .i64 k] (.int .i64 k) [] := by
 refine DC.intro tiOk Tryz.func78 rfl rfl rfl rfl rfl rfl rfl rfl [] ?_
 refine rg [0,1] ?_
 intro k hk; simp -dsimp [go_sem, -decide_eq_true_eq, -decide_eq_false_iff_not]
 repeat' first | apply And.intro | refine hk _ ?_ | intro hg | omega | exact True.intro
 all_goals clear hk k
 refine AW.seq ?_
 refine rg [0,1,5] ?_
 intro k hk; simp -dsimp [go_sem, -decide_eq_true_eq, -decide_eq_false_iff_not]
 repeat' first | apply And.intro | refine hk _ ?_ | intro hg | omega | exact True.intro
 all_goals clear hk k
 refine AW.block ?_
 refine AW.loopI (fun _ : Nat => ⟨40, [(0, .isl 3 []), (1, .int .i64 k), (5, .int .i64 0)], []⟩) (fun _ => True) (fun _ => 0) (0) (trivial) (Less.of rfl (by simp [go_sem]) (by simp [go_sem])) ?_
 rintro i _
 refine AW.seq ?_
 refine rg [0,1,5,9] ?_
 intro k hk; simp -dsimp [go_sem, -decide_eq_true_eq, -decide_eq_false_iff_not]
 repeat' first | apply And.intro | refine hk _ ?_ | intro hg | omega | exact True.intro
 all_goals clear hk k
 refine AW.cond rfl ?_ ?_
 ·intro hc; try simp at hc
  all_goals try (exfalso; first | omega | (simp at hc; done); done)
  all_goals (
   refine AW.skipN (fun _ h => h) ?_
   refine AW.seq ?_
   refine AW.block ?_
   refine AW.seq ?_
   refine rg [0,1,5,18] ?_
   intro k hk; simp -dsimp (maxSteps := 2000000) [go_sem, -decide_eq_true_eq, -decide_eq_false_iff_not]
   repeat' first | apply And.intro | refine hk _ ?_ | intro hg | omega | exact True.intro
   all_goals clear hk k
   refine AW.cond rfl ?_ ?_
   ·intro hc; try simp at hc
    all_goals try (exfalso; first | omega | (simp at hc; done); done)
    all_goals (
     refine rg [4] ?_
     intro k hk; simp -dsimp [go_sem, -decide_eq_true_eq, -decide_eq_false_iff_not]
     repeat' first | apply And.intro | refine hk _ ?_ | intro hg | omega | exact True.intro
     all_goals clear hk k
     refine rt ?_
     simp [go_sem, Tryz.results78])
   ·intro hc; try simp at hc
    all_goals try (exfalso; first | omega | (simp at hc; done); done)
    all_goals (
     refine AW.skipN (fun _ h => h) ?_
     refine rg [0,1,5] ?_
     intro k hk; simp -dsimp [go_sem, -decide_eq_true_eq, -decide_eq_false_iff_not]
     repeat' first | apply And.intro | refine hk _ ?_ | intro hg | omega | exact True.intro
     all_goals clear hk k
     refine AW.seq ?_
     refine rg [0,1,5,27] ?_
     intro k hk; simp -dsimp (maxSteps := 2000000) [go_sem, -decide_eq_true_eq, -decide_eq_false_iff_not]
     repeat' first | apply And.intro | refine hk _ ?_ | intro hg | omega | exact True.intro
     all_goals clear hk k
     refine AW.cond rfl ?_ ?_
     ·intro hc; try simp at hc
      all_goals try (exfalso; first | omega | (simp at hc; done); done)
      all_goals (
       refine rg [4] ?_
       intro k hk; simp -dsimp [go_sem, -decide_eq_true_eq, -decide_eq_false_iff_not]
       repeat' first | apply And.intro | refine hk _ ?_ | intro hg | omega | exact True.intro
       all_goals clear hk k
       refine rt ?_
       simp [go_sem, Tryz.results78])
     ·intro hc; try simp at hc
      all_goals try (exfalso; first | omega | (simp at hc; done); done)
      all_goals (
       refine AW.skipN (fun _ h => h) ?_
       refine rg [0,1,5] ?_
       intro k hk; simp -dsimp [go_sem, -decide_eq_true_eq, -decide_eq_false_iff_not]
       repeat' first | apply And.intro | refine hk _ ?_ | intro hg | omega | exact True.intro
       all_goals clear hk k
       refine AW.seq ?_
       refine rg [0,1,5,36] ?_
       intro k hk; simp -dsimp (maxSteps := 2000000) [go_sem, -decide_eq_true_eq, -decide_eq_false_iff_not]
       repeat' first | apply And.intro | refine hk _ ?_ | intro hg | omega | exact True.intro
       all_goals clear hk k
       refine AW.cond rfl ?_ ?_
       ·intro hc; try simp at hc
        all_goals try (exfalso; first | omega | (simp at hc; done); done)
        all_goals (
         refine rg [4] ?_
         intro k hk; simp -dsimp [go_sem, -decide_eq_true_eq, -decide_eq_false_iff_not]
         repeat' first | apply And.intro | refine hk _ ?_ | intro hg | omega | exact True.intro
         all_goals clear hk k
         refine rt ?_
         simp [go_sem, Tryz.results78])
       ·intro hc; try simp at hc
        all_goals try (exfalso; first | omega | (simp at hc; done); done)
        all_goals (
         refine AW.skipN (fun _ h => h) ?_
         refine rgN [0,1,5] (fun _ h => h) ?_
         intro k hk; simp -dsimp [go_sem, -decide_eq_true_eq, -decide_eq_false_iff_not]
         repeat' first | apply And.intro | refine hk _ ?_ | intro hg | omega | exact True.intro
         all_goals clear hk k
         refine rgK ?_
         intro k hk; simp -dsimp [go_sem, -decide_eq_true_eq, -decide_eq_false_iff_not]
         repeat' first | apply And.intro | refine hk _ ?_ | intro hg | omega | exact True.intro
         all_goals clear hk k
         show ∃ _, _
         exact absurd hc (by simp)))))
 ·intro hc; try simp at hc
  all_goals try (exfalso; first | omega | (simp at hc; done); done)
  all_goals (
   refine AW.exitN (fun _ h => h) ?_
   refine rg [4] ?_
   intro k hk; simp -dsimp [go_sem, -decide_eq_true_eq, -decide_eq_false_iff_not]
   repeat' first | apply And.intro | refine hk _ ?_ | intro hg | omega | exact True.intro
   all_goals clear hk k
   refine rt ?_
   simp [go_sem, Tryz.results78])

end Go.AM

/-! ### X4 -/
set_option linter.unusedVariables false
set_option linter.unusedSimpArgs false
set_option maxHeartbeats 600000
set_option maxRecDepth 100000
namespace Go.AM
open Go.Proofs

/-- laws.markEngine -/
theorem dc_laws_markEngine_x (ps : List TProc) (is : List TInst) (n : Int) (k : Int) (hll : ps.length ≤ 1048576) (hk : 0 ≤ k ∧ (k + ((mkPr ps : Nat) : Int) + ((mkI is : Nat) : Int)) ≤ 4611686018427387904) : DC Tryz.prog 28 [.agg [.osl 1 (ps.map TProc.oc), .osl 6 (is.map TInst.oc), .int .i64 n], .int .i64 k] (.int .i64 (k + ((mkPr ps : Nat) : Int) + ((mkI is : Nat) : Int))) [(0, .agg [.osl 1 ((mPr k ps).map TProc.oc), .osl 6 ((mIn (k + ((mkPr ps : Nat) : Int)) is).map TInst.oc), .int .i64 n])] := by
 refine DC.intro tiOk Tryz.func28 rfl rfl rfl rfl rfl rfl rfl (by simp [noW, noWo]) [] ?_
 refine rg [0,1,2] ?_
 intro k hk; simp -dsimp [go_sem, -decide_eq_true_eq, -decide_eq_false_iff_not, mPr_len, mIn_len]
 repeat' first | apply And.intro | refine hk _ ?_ | intro hg | omega | exact True.intro
 all_goals clear hk k
 refine AW.reg tiOk (fun _ => [0]) [0,1,2] ?_
 intro k hk; simp -dsimp (maxSteps := 2000000) [go_sem, -decide_eq_true_eq, -decide_eq_false_iff_not, mPr_len, mIn_len]
 repeat' first | apply And.intro | refine hk _ ?_ | intro hg | (refine CallK.intro (dc_laws_markProcS_x ps _ hll (by constructor <;> omega)) ?_; simp -dsimp (maxSteps := 2000000) [go_sem, -decide_eq_true_eq, -decide_eq_false_iff_not, mPr_len, mIn_len]) | omega | exact True.intro
 all_goals clear hk k
 refine AW.reg tiOk (fun _ => [0]) [0,1] ?_
 intro k hk; simp -dsimp (maxSteps := 2000000) [go_sem, -decide_eq_true_eq, -decide_eq_false_iff_not, mPr_len, mIn_len]
 repeat' first | apply And.intro | refine hk _ ?_ | intro hg | (refine CallK.intro (dc_laws_markInstS_x is _ (by constructor <;> omega)) ?_; simp -dsimp (maxSteps := 2000000) [go_sem, -decide_eq_true_eq, -decide_eq_false_iff_not, mPr_len, mIn_len]) | omega | exact True.intro
 all_goals clear hk k
 refine rg [0,4] ?_
 intro k hk; simp -dsimp [go_sem, -decide_eq_true_eq, -decide_eq_false_iff_not, mPr_len, mIn_len]
 repeat' first | apply And.intro | refine hk _ ?_ | intro hg | omega | exact True.intro
 all_goals clear hk k
 refine rt ?_
 simp [go_sem, Tryz.results28, mPr_len, mIn_len]

/-- laws.markDesk -/
theorem dc_laws_markDesk_x (ps : List TProc) (is : List TInst) (n : Int) (cs : List TClaim) (k : Int) (hll : ps.length ≤ 1048576) (hk : 0 ≤ k ∧ (k + ((mkPr ps : Nat) : Int) + ((mkI is : Nat) : Int)) + 3 * (cs.length : Int) ≤ 4611686018427387904) : DC Tryz.prog 34 [.agg [.osl 1 (ps.map TProc.oc), .osl 6 (is.map TInst.oc), .int .i64 n, .osl 3 (cs.map TClaim.ro)], .int .i64 k] (.int .i64 ((k + ((mkPr ps : Nat) : Int) + ((mkI is : Nat) : Int)) + 3 * (cs.length : Int))) [(0, .agg [.osl 1 ((mPr k ps).map TProc.oc), .osl 6 ((mIn (k + ((mkPr ps : Nat) : Int)) is).map TInst.oc), .int .i64 n, .osl 3 ((mCl cs.length (k + ((mkPr ps : Nat) : Int) + ((mkI is : Nat) : Int))).map TClaim.ro)])] := by
 refine DC.intro tiOk Tryz.func34 rfl rfl rfl rfl rfl rfl rfl (by simp [noW, noWo]) [] ?_
 refine rg [0,1,2] ?_
 intro k hk; simp -dsimp [go_sem, -decide_eq_true_eq, -decide_eq_false_iff_not, mPr_len, mIn_len, mCl_len]
 repeat' first | apply And.intro | refine hk _ ?_ | intro hg | omega | exact True.intro
 all_goals clear hk k
 refine AW.reg tiOk (fun _ => [0]) [0,1,2] ?_
 intro k hk; simp -dsimp (maxSteps := 2000000) [go_sem, -decide_eq_true_eq, -decide_eq_false_iff_not, mPr_len, mIn_len, mCl_len]
 repeat' first | apply And.intro | refine hk _ ?_ | intro hg | (refine CallK.intro (dc_laws_markEngine_x ps is n _ hll (by constructor <;> omega)) ?_; simp -dsimp (maxSteps := 2000000) [go_sem, -decide_eq_true_eq, -decide_eq_false_iff_not, mPr_len, mIn_len, mCl_len]) | omega | exact True.intro
 all_goals clear hk k
 refine AW.reg tiOk (fun _ => [0]) [0,1] ?_
 intro k hk; simp -dsimp (maxSteps := 2000000) [go_sem, -decide_eq_true_eq, -decide_eq_false_iff_not, mPr_len, mIn_len, mCl_len]
 repeat' first | apply And.intro | refine hk _ ?_ | intro hg | (refine CallK.intro (dc_laws_markClaimS_x cs _ (by constructor <;> omega)) ?_; simp -dsimp (maxSteps := 2000000) [go_sem, -decide_eq_true_eq, -decide_eq_false_iff_not, mPr_len, mIn_len, mCl_len]) | omega | exact True.intro
 all_goals clear hk k
 refine rg [0,4] ?_
 intro k hk; simp -dsimp [go_sem, -decide_eq_true_eq, -decide_eq_false_iff_not, mPr_len, mIn_len, mCl_len]
 repeat' first | apply And.intro | refine hk _ ?_ | intro hg | omega | exact True.intro
 all_goals clear hk k
 refine rt ?_
 simp [go_sem, Tryz.results34, mPr_len, mIn_len, mCl_len]

/-- laws.markOfferResult -/
theorem dc_laws_markOfferResult_o (c : Int) (l : List TClaim) (k : Int) (hk : 0 ≤ k ∧ k + 3 * (l.length : Int) ≤ 4611686018427387904) : DC Tryz.prog 35 [.agg [.int .i64 c, .osl 3 (l.map TClaim.ro)], .int .i64 k] (.int .i64 (k + 3 * (l.length : Int))) [(0, .agg [.int .i64 c, .osl 3 ((mCl l.length k).map TClaim.ro)])] := by
 refine DC.intro tiOk Tryz.func35 rfl rfl rfl rfl rfl rfl rfl (by simp [noW, noWo]) [] ?_
 refine rg [0,1,2] ?_
 intro k hk; simp -dsimp [go_sem, -decide_eq_true_eq, -decide_eq_false_iff_not, mCl_len]
 repeat' first | apply And.intro | refine hk _ ?_ | intro hg | omega | exact True.intro
 all_goals clear hk k
 refine AW.reg tiOk (fun _ => [0]) [0,1] ?_
 intro k hk; simp -dsimp (maxSteps := 2000000) [go_sem, -decide_eq_true_eq, -decide_eq_false_iff_not, mCl_len]
 repeat' first | apply And.intro | refine hk _ ?_ | intro hg | (refine CallK.intro (dc_laws_markClaimS_x l _ (by constructor <;> omega)) ?_; simp -dsimp (maxSteps := 2000000) [go_sem, -decide_eq_true_eq, -decide_eq_false_iff_not, mCl_len]) | omega | exact True.intro
 all_goals clear hk k
 refine rg [0,4] ?_
 intro k hk; simp -dsimp [go_sem, -decide_eq_true_eq, -decide_eq_false_iff_not, mCl_len]
 repeat' first | apply And.intro | refine hk _ ?_ | intro hg | omega | exact True.intro
 all_goals clear hk k
 refine rt ?_
 simp [go_sem, Tryz.results35, mCl_len]

/-- laws.markOfferResult -/
theorem dc_laws_markOfferResult_n (c k : Int) (hk : 0 ≤ k ∧ k ≤ 4611686018427387904) : DC Tryz.prog 35 [.agg [.int .i64 c, .isl 3 []], .int .i64 k] (.int .i64 k) [] := by
 refine DC.intro tiOk Tryz.func35 rfl rfl rfl rfl rfl rfl rfl rfl [] ?_
 refine rg [1,2] ?_
 intro k hk; simp -dsimp [go_sem, -decide_eq_true_eq, -decide_eq_false_iff_not]
 repeat' first | apply And.intro | refine hk _ ?_ | intro hg | omega | exact True.intro
 all_goals clear hk k
 refine rg [1] ?_
 intro k hk; simp -dsimp (maxSteps := 2000000) [go_sem, -decide_eq_true_eq, -decide_eq_false_iff_not]
 repeat' first | apply And.intro | refine hk _ ?_ | intro hg | (refine CallK.intro (dc_laws_markClaimS_nil _) ?_; simp -dsimp (maxSteps := 2000000) [go_sem, -decide_eq_true_eq, -decide_eq_false_iff_not]) | omega | exact True.intro
 all_goals clear hk k
 refine rg [4] ?_
 intro k hk; simp -dsimp [go_sem, -decide_eq_true_eq, -decide_eq_false_iff_not]
 repeat' first | apply And.intro | refine hk _ ?_ | intro hg | omega | exact True.intro
 all_goals clear hk k
 refine rt ?_
 simp [go_sem, Tryz.results35]

/-- laws.heldOfferResult -/
theorem dc_laws_heldOfferResult_o (c : Int) (n : Nat) (k : Int) (hk : 0 ≤ k ∧ k + 3 * n ≤ 4611686018427387904) : DC Tryz.prog 36 [.agg [.int .i64 c, .isl 3 ((mCl n k).map TClaim.ro)], .int .i64 k] (.int .i64 (k + 3 * (n : Int))) [] := by
 refine DC.intro tiOk Tryz.func36 rfl rfl rfl rfl rfl rfl rfl rfl [] ?_
 refine rg [1,2] ?_
 intro k hk; simp -dsimp [go_sem, -decide_eq_true_eq, -decide_eq_false_iff_not]
 repeat' first | apply And.intro | refine hk _ ?_ | intro hg | omega | exact True.intro
 all_goals clear hk k
 refine rg [1] ?_
 intro k hk; simp -dsimp (maxSteps := 2000000) [go_sem, -decide_eq_true_eq, -decide_eq_false_iff_not]
 repeat' first | apply And.intro | refine hk _ ?_ | intro hg | (refine CallK.intro (dc_laws_heldClaimS n _ (by constructor <;> omega)) ?_; simp -dsimp (maxSteps := 2000000) [go_sem, -decide_eq_true_eq, -decide_eq_false_iff_not]) | omega | exact True.intro
 all_goals clear hk k
 refine AW.seq ?_
 refine rg [1,10] ?_
 intro k hk; simp -dsimp [go_sem, -decide_eq_true_eq, -decide_eq_false_iff_not]
 repeat' first | apply And.intro | refine hk _ ?_ | intro hg | omega | exact True.intro
 all_goals clear hk k
 refine AW.cond rfl ?_ ?_
 ·intro hc; try simp at hc
  all_goals try (exfalso; omega; done)
  all_goals (
   refine rg [4] ?_
   intro k hk; simp -dsimp [go_sem, -decide_eq_true_eq, -decide_eq_false_iff_not]
   repeat' first | apply And.intro | refine hk _ ?_ | intro hg | omega | exact True.intro
   all_goals clear hk k
   refine rt ?_
   simp [go_sem, Tryz.results36])
 ·intro hc; try simp at hc
  all_goals try (exfalso; omega; done)
  all_goals (
   refine AW.skipN (fun _ h => h) ?_
   refine rg [4] ?_
   intro k hk; simp -dsimp [go_sem, -decide_eq_true_eq, -decide_eq_false_iff_not]
   repeat' first | apply And.intro | refine hk _ ?_ | intro hg | omega | exact True.intro
   all_goals clear hk k
   refine rt ?_
   simp [go_sem, Tryz.results36])

/-- laws.heldOfferResult -/
theorem dc_laws_heldOfferResult_n (c k : Int) (hk : 0 ≤ k ∧ k ≤ 4611686018427387904) : DC Tryz.prog 36 [.agg [.int .i64 c, .isl 3 []], .int .i64 k] (.int .i64 k) [] := by
 refine DC.intro tiOk Tryz.func36 rfl rfl rfl rfl rfl rfl rfl rfl [] ?_
 refine rg [1,2] ?_
 intro k hk; simp -dsimp [go_sem, -decide_eq_true_eq, -decide_eq_false_iff_not]
 repeat' first | apply And.intro | refine hk _ ?_ | intro hg | omega | exact True.intro
 all_goals clear hk k
 refine rg [1] ?_
 intro k hk; simp -dsimp (maxSteps := 2000000) [go_sem, -decide_eq_true_eq, -decide_eq_false_iff_not]
 repeat' first | apply And.intro | refine hk _ ?_ | intro hg | (refine CallK.intro (dc_laws_heldClaimS_nil _) ?_; simp -dsimp (maxSteps := 2000000) [go_sem, -decide_eq_true_eq, -decide_eq_false_iff_not]) | omega | exact True.intro
 all_goals clear hk k
 refine AW.seq ?_
 refine rg [1,10] ?_
 intro k hk; simp -dsimp [go_sem, -decide_eq_true_eq, -decide_eq_false_iff_not]
 repeat' first | apply And.intro | refine hk _ ?_ | intro hg | omega | exact True.intro
 all_goals clear hk k
 refine AW.cond rfl ?_ ?_
 ·intro hc; try simp at hc
  all_goals try (exfalso; omega; done)
  all_goals (
   refine rg [4] ?_
   intro k hk; simp -dsimp [go_sem, -decide_eq_true_eq, -decide_eq_false_iff_not]
   repeat' first | apply And.intro | refine hk _ ?_ | intro hg | omega | exact True.intro
   all_goals clear hk k
   refine rt ?_
   simp [go_sem, Tryz.results36])
 ·intro hc; try simp at hc
  all_goals try (exfalso; omega; done)
  all_goals (
   refine AW.skipN (fun _ h => h) ?_
   refine rg [4] ?_
   intro k hk; simp -dsimp [go_sem, -decide_eq_true_eq, -decide_eq_false_iff_not]
   repeat' first | apply And.intro | refine hk _ ?_ | intro hg | omega | exact True.intro
   all_goals clear hk k
   refine rt ?_
   simp [go_sem, Tryz.results36])

end Go.AM

/-! ### S1 -/
set_option linter.unusedVariables false
set_option linter.unusedSimpArgs false
set_option maxHeartbeats 600000
set_option maxRecDepth 100000
namespace Go.AM
open Go.Proofs

/-- impl.codeIf -/
theorem dc_impl_codeIf (b : Bool) (n : Int) : DC Tryz.prog 54 [.bool b, .int .i64 n] (.int .i64 (if b then n else 0)) [] := by
 refine DC.intro tiOk Tryz.func54 rfl rfl rfl rfl rfl rfl rfl rfl [] ?_
 refine rg [0,1] ?_
 intro k hk; simp -dsimp [go_sem, -decide_eq_true_eq, -decide_eq_false_iff_not]
 repeat' first | apply And.intro | refine hk _ ?_ | intro hg | omega | exact True.intro
 all_goals clear hk k
 refine AW.seq ?_
 refine rg [1,5] ?_
 intro k hk; simp -dsimp [go_sem, -decide_eq_true_eq, -decide_eq_false_iff_not]
 repeat' first | apply And.intro | refine hk _ ?_ | intro hg | omega | exact True.intro
 all_goals clear hk k
 refine AW.cond rfl ?_ ?_
 ·intro hc; try simp at hc
  all_goals (
   refine rg [4] ?_
   intro k hk; simp -dsimp [go_sem, -decide_eq_true_eq, -decide_eq_false_iff_not]
   repeat' first | apply And.intro | refine hk _ ?_ | intro hg | omega | exact True.intro
   all_goals clear hk k
   refine rt ?_
   simp [go_sem, *, Tryz.results54])
 ·intro hc; try simp at hc
  all_goals (
   refine AW.skipN (fun _ h => h) ?_
   refine rg [4] ?_
   intro k hk; simp -dsimp [go_sem, -decide_eq_true_eq, -decide_eq_false_iff_not]
   repeat' first | apply And.intro | refine hk _ ?_ | intro hg | omega | exact True.intro
   all_goals clear hk k
   refine rt ?_
   simp [go_sem, *, Tryz.results54])

/-- impl.inRange -/
theorem dc_impl_inRange (n lo hi : Int) : DC Tryz.prog 99 [.int .i64 n, .int .i64 lo, .int .i64 hi] (.bool (inR n lo hi)) [] := by
 refine DC.intro tiOk Tryz.func99 rfl rfl rfl rfl rfl rfl rfl rfl [] ?_
 refine rg [0,1,2] ?_
 intro k hk; simp -dsimp [go_sem, -decide_eq_true_eq, -decide_eq_false_iff_not]
 repeat' first | apply And.intro | refine hk _ ?_ | intro hg | omega | exact True.intro
 all_goals clear hk k
 refine rg [6] ?_
 intro k hk; simp +contextual -dsimp (maxSteps := 2000000) [go_sem, -decide_eq_true_eq, -decide_eq_false_iff_not]
 repeat' first | apply And.intro | refine hk _ ?_ | (intro hg; try simp only [decide_eq_true_eq, decide_eq_false_iff_not] at hg) | omega | exact True.intro
 all_goals clear hk k
 all_goals (
  refine rt ?_
  simp [go_sem, *, inR, Tryz.results99, -decide_eq_true_eq, -decide_eq_false_iff_not])

/-- spec.l1In -/
theorem dc_spec_l1In (n lo hi : Int) : DC Tryz.prog 96 [.int .i64 n, .int .i64 lo, .int .i64 hi] (.bool (inR n lo hi)) [] := by
 refine DC.intro tiOk Tryz.func96 rfl rfl rfl rfl rfl rfl rfl rfl [] ?_
 refine rg [0,1,2] ?_
 intro k hk; simp -dsimp [go_sem, -decide_eq_true_eq, -decide_eq_false_iff_not]
 repeat' first | apply And.intro | refine hk _ ?_ | intro hg | omega | exact True.intro
 all_goals clear hk k
 refine rg [6] ?_
 intro k hk; simp +contextual -dsimp (maxSteps := 2000000) [go_sem, -decide_eq_true_eq, -decide_eq_false_iff_not]
 repeat' first | apply And.intro | refine hk _ ?_ | (intro hg; try simp only [decide_eq_true_eq, decide_eq_false_iff_not] at hg) | omega | exact True.intro
 all_goals clear hk k
 all_goals (
  refine rt ?_
  simp [go_sem, *, inR, Tryz.results96, -decide_eq_true_eq, -decide_eq_false_iff_not])

/-- impl.areAll -/
theorem dc_impl_areAll (f : Nat) (p : UInt8 → Bool) (hf : ∀ c : UInt8, DC Tryz.prog f [.int .u8 c.toNat] (.bool (p c)) []) (s : List UInt8) (hs : s.length ≤ 9223372036854775807) : DC Tryz.prog 185 [.str s, .fn f []] (.bool (s.all p)) [] := by
 refine DC.intro tiOk Tryz.func185 rfl rfl rfl rfl rfl rfl rfl rfl [] ?_
 refine rg [0,1] ?_
 intro k hk; simp -dsimp [go_sem, -decide_eq_true_eq, -decide_eq_false_iff_not]
 repeat' first | apply And.intro | refine hk _ ?_ | intro hg | omega | exact True.intro
 all_goals clear hk k
 refine AW.seq ?_
 refine rg [0,1,7,8] ?_
 intro k hk; simp -dsimp [go_sem, -decide_eq_true_eq, -decide_eq_false_iff_not]
 repeat' first | apply And.intro | refine hk _ ?_ | intro hg | omega | exact True.intro
 all_goals clear hk k
 refine AW.block ?_
 refine AW.loopI (fun i : Nat => ⟨18, [(0, .str s), (1, .fn f []), (7, .int .i64 s.length), (8, .int .i64 i)], []⟩) (fun i => i ≤ s.length ∧ (s.take i).all p = true) (fun i => s.length - i) (0) (by simp) (Less.of rfl (by simp [go_sem]) (by simp [go_sem])) ?_
 rintro i ⟨hi, hall⟩
 refine rg [0,1,7,8,9] ?_
 intro k hk; simp -dsimp [go_sem, -decide_eq_true_eq, -decide_eq_false_iff_not]
 repeat' first | apply And.intro | refine hk _ ?_ | intro hg | omega | exact True.intro
 all_goals clear hk k
 refine AW.seq ?_
 refine AW.cond rfl ?_ ?_
 ·intro hc; try simp at hc
  all_goals (
   have hlt : i < s.length := by assumption
   obtain ⟨x, hx⟩ := at_some hlt
   refine AW.skipN (fun _ h => h) ?_
   refine AW.seq ?_
   refine AW.block ?_
   refine rg [0,1,5,7,8] ?_
   intro k hk; simp -dsimp [go_sem, -decide_eq_true_eq, -decide_eq_false_iff_not, hx]
   repeat' first | apply And.intro | refine hk _ ?_ | intro hg | omega | exact True.intro
   all_goals clear hk k
   refine rg [0,1,7,8,16] ?_
   intro k hk; simp -dsimp (maxSteps := 2000000) [go_sem, -decide_eq_true_eq, -decide_eq_false_iff_not, hx]
   repeat' first | apply And.intro | refine hk _ ?_ | intro hg | (refine CallK.intro (hf x) ?_; simp -dsimp (maxSteps := 2000000) [go_sem, -decide_eq_true_eq, -decide_eq_false_iff_not, hx]) | omega | exact True.intro
   all_goals clear hk k
   refine AW.cond rfl ?_ ?_
   ·intro hc; try simp at hc
    all_goals (
     refine rg [4] ?_
     intro k hk; simp -dsimp [go_sem, -decide_eq_true_eq, -decide_eq_false_iff_not, hx]
     repeat' first | apply And.intro | refine hk _ ?_ | intro hg | omega | exact True.intro
     all_goals clear hk k
     refine rt ?_
     first | (have hr := all_not (p := p) hx (by assumption); simp [go_sem, Tryz.results185, hr]) | (have hr := all_end (show s.length ≤ i by omega) hall; simp [go_sem, Tryz.results185, hr]))
   ·intro hc; try simp at hc
    all_goals (
     refine AW.skipN (fun _ h => h) ?_
     refine rgK ?_
     intro k hk; simp -dsimp [go_sem, -decide_eq_true_eq, -decide_eq_false_iff_not, hx]
     repeat' first | apply And.intro | refine hk _ ?_ | intro hg | omega | exact True.intro
     all_goals clear hk k
     show ∃ _, _
     have hw := wrapi hlt hs
     refine ⟨i + 1, ⟨by omega, ?_⟩, by omega, Less.of rfl (by simp [go_sem, hw]) (by simp [go_sem])⟩
     rw [all_take hx hall]; assumption))
 ·intro hc; try simp at hc
  all_goals (
   refine AW.exitN (fun _ h => h) ?_
   refine rg [4] ?_
   intro k hk; simp -dsimp [go_sem, -decide_eq_true_eq, -decide_eq_false_iff_not]
   repeat' first | apply And.intro | refine hk _ ?_ | intro hg | omega | exact True.intro
   all_goals clear hk k
   refine rt ?_
   first | (have hr := all_not (p := p) hx (by assumption); simp [go_sem, Tryz.results185, hr]) | (have hr := all_end (show s.length ≤ i by omega) hall; simp [go_sem, Tryz.results185, hr]))

/-- impl.firstCode -/
theorem dc_impl_firstCode (l : List Int) (hl : l.length ≤ 9223372036854775807) : DC Tryz.prog 52 [.isl 1 (l.map I1)] (.int .i64 (firstC l)) [] := by
 refine DC.intro tiOk Tryz.func52 rfl rfl rfl rfl rfl rfl rfl rfl [] ?_
 refine rg [0] ?_
 intro k hk; simp -dsimp [go_sem, -decide_eq_true_eq, -decide_eq_false_iff_not]
 repeat' first | apply And.intro | refine hk _ ?_ | intro hg | omega | exact True.intro
 all_goals clear hk k
 refine AW.seq ?_
 refine rg [5,6,7] ?_
 intro k hk; simp -dsimp [go_sem, -decide_eq_true_eq, -decide_eq_false_iff_not]
 repeat' first | apply And.intro | refine hk _ ?_ | intro hg | omega | exact True.intro
 all_goals clear hk k
 refine AW.block ?_
 refine AW.loopI (fun i : Nat => ⟨15, [(5, .isl 1 (l.map I1)), (6, .int .i64 l.length), (7, .int .i64 i)], []⟩) (fun i => i ≤ l.length ∧ firstC l = firstC (l.drop i)) (fun i => l.length - i) (0) (by simp) (Less.of rfl (by simp [go_sem]) (by simp [go_sem])) ?_
 rintro i ⟨hi, hinv⟩
 refine rg [5,6,7,8] ?_
 intro k hk; simp -dsimp [go_sem, -decide_eq_true_eq, -decide_eq_false_iff_not]
 repeat' first | apply And.intro | refine hk _ ?_ | intro hg | omega | exact True.intro
 all_goals clear hk k
 refine AW.seq ?_
 refine AW.cond rfl ?_ ?_
 ·intro hc; try simp at hc
  all_goals (
   have hlt : i < l.length := by assumption
   obtain ⟨x, hx⟩ := at_some hlt
   refine AW.skipN (fun _ h => h) ?_
   refine AW.seq ?_
   refine AW.block ?_
   refine rg [4,5,6,7] ?_
   intro k hk; simp -dsimp [go_sem, -decide_eq_true_eq, -decide_eq_false_iff_not, hx]
   repeat' first | apply And.intro | refine hk _ ?_ | intro hg | omega | exact True.intro
   all_goals clear hk k
   refine rg [4,5,6,7,12] ?_
   intro k hk; simp -dsimp [go_sem, -decide_eq_true_eq, -decide_eq_false_iff_not, hx]
   repeat' first | apply And.intro | refine hk _ ?_ | intro hg | omega | exact True.intro
   all_goals clear hk k
   refine AW.cond rfl ?_ ?_
   ·intro hc; try simp at hc
    all_goals (
     refine rg [2] ?_
     intro k hk; simp -dsimp [go_sem, -decide_eq_true_eq, -decide_eq_false_iff_not, hx]
     repeat' first | apply And.intro | refine hk _ ?_ | intro hg | omega | exact True.intro
     all_goals clear hk k
     refine rt ?_
     first | (simp [go_sem, Tryz.results52, hinv, firstC_step hx, *]; done) | (simp [go_sem, Tryz.results52, hinv, firstC_end (show l.length ≤ i by omega)]))
   ·intro hc; try simp at hc
    all_goals (
     refine AW.skipN (fun _ h => h) ?_
     refine rgK ?_
     intro k hk; simp -dsimp [go_sem, -decide_eq_true_eq, -decide_eq_false_iff_not, hx]
     repeat' first | apply And.intro | refine hk _ ?_ | intro hg | omega | exact True.intro
     all_goals clear hk k
     show ∃ _, _
     have hw := wrapi hlt hl
     refine ⟨i + 1, ⟨by omega, ?_⟩, by omega, Less.of rfl (by simp [go_sem, hw]) (by simp [go_sem])⟩
     rw [hinv, firstC_step hx, if_pos (by assumption)]))
 ·intro hc; try simp at hc
  all_goals (
   refine AW.exitN (fun _ h => h) ?_
   refine rg [2] ?_
   intro k hk; simp -dsimp [go_sem, -decide_eq_true_eq, -decide_eq_false_iff_not]
   repeat' first | apply And.intro | refine hk _ ?_ | intro hg | omega | exact True.intro
   all_goals clear hk k
   refine rt ?_
   first | (simp [go_sem, Tryz.results52, hinv, firstC_step hx, *]; done) | (simp [go_sem, Tryz.results52, hinv, firstC_end (show l.length ≤ i by omega)]))

/-- slices.IndexFunc[[]int64,int64] -/
theorem dc_slices_IndexFunc_int64_int64 (f : Nat) (caps : List AV) (p : Int → Bool) (l : List Int) (hf : ∀ x ∈ l, DC Tryz.prog f ([.int .i64 x] ++ caps) (.bool (p x)) []) (hl : l.length ≤ 9223372036854775807) (hcap : caps = []) : DC Tryz.prog 180 [.isl 1 (l.map I1), .fn f caps] (.int .i64 (idxF p l 0)) [] := by
 subst hcap
 refine DC.intro tiOk Tryz.func180 rfl rfl rfl rfl rfl rfl rfl rfl [] ?_
 refine rg [0,1] ?_
 intro k hk; simp -dsimp [go_sem, -decide_eq_true_eq, -decide_eq_false_iff_not]
 repeat' first | apply And.intro | refine hk _ ?_ | intro hg | omega | exact True.intro
 all_goals clear hk k
 refine AW.seq ?_
 refine rg [0,1,7,8] ?_
 intro k hk; simp -dsimp [go_sem, -decide_eq_true_eq, -decide_eq_false_iff_not]
 repeat' first | apply And.intro | refine hk _ ?_ | intro hg | omega | exact True.intro
 all_goals clear hk k
 refine AW.block ?_
 refine AW.loopI (fun i : Nat => ⟨19, [(0, .isl 1 (l.map I1)), (1, .fn f []), (7, .int .i64 l.length), (8, .int .i64 i)], []⟩) (fun i => i ≤ l.length ∧ idxF p l 0 = idxF p (l.drop i) i) (fun i => l.length - i) (0) (by simp) (Less.of rfl (by simp [go_sem]) (by simp [go_sem])) ?_
 rintro i ⟨hi, hinv⟩
 refine rg [0,1,7,8,9] ?_
 intro k hk; simp -dsimp [go_sem, -decide_eq_true_eq, -decide_eq_false_iff_not]
 repeat' first | apply And.intro | refine hk _ ?_ | intro hg | omega | exact True.intro
 all_goals clear hk k
 refine AW.seq ?_
 refine AW.cond rfl ?_ ?_
 ·intro hc; try simp at hc
  all_goals (
   have hlt : i < l.length := by assumption
   obtain ⟨x, hx⟩ := at_some hlt
   refine AW.skipN (fun _ h => h) ?_
   refine AW.seq ?_
   refine AW.block ?_
   refine rg [0,1,5,7,8] ?_
   intro k hk; simp -dsimp [go_sem, -decide_eq_true_eq, -decide_eq_false_iff_not, hx]
   repeat' first | apply And.intro | refine hk _ ?_ | intro hg | omega | exact True.intro
   all_goals clear hk k
   refine rg [0,1,5,7,8,16] ?_
   intro k hk; simp -dsimp (maxSteps := 2000000) [go_sem, -decide_eq_true_eq, -decide_eq_false_iff_not, hx]
   repeat' first | apply And.intro | refine hk _ ?_ | intro hg | (refine CallK.intro (hf x (List.mem_of_getElem? hx)) ?_; simp -dsimp (maxSteps := 2000000) [go_sem, -decide_eq_true_eq, -decide_eq_false_iff_not, hx]) | omega | exact True.intro
   all_goals clear hk k
   refine AW.cond rfl ?_ ?_
   ·intro hc; try simp at hc
    all_goals (
     refine rg [4] ?_
     intro k hk; simp -dsimp [go_sem, -decide_eq_true_eq, -decide_eq_false_iff_not, hx]
     repeat' first | apply And.intro | refine hk _ ?_ | intro hg | omega | exact True.intro
     all_goals clear hk k
     refine rt ?_
     first | (rw [hinv, idxF_step hx, if_pos (by assumption)]; simp [go_sem, Tryz.results180]; done) | (rw [hinv, idxF_end (by omega)]; simp [go_sem, Tryz.results180]))
   ·intro hc; try simp at hc
    all_goals (
     refine AW.skipN (fun _ h => h) ?_
     refine rgK ?_
     intro k hk; simp -dsimp [go_sem, -decide_eq_true_eq, -decide_eq_false_iff_not, hx]
     repeat' first | apply And.intro | refine hk _ ?_ | intro hg | omega | exact True.intro
     all_goals clear hk k
     show ∃ _, _
     have hw := wrapi hlt hl
     refine ⟨i + 1, ⟨by omega, ?_⟩, by omega, Less.of rfl (by simp [go_sem, hw]) (by simp [go_sem])⟩
     rw [hinv, idxF_step hx, if_neg (by simp [*])]))
 ·intro hc; try simp at hc
  all_goals (
   refine AW.exitN (fun _ h => h) ?_
   refine rg [4] ?_
   intro k hk; simp -dsimp [go_sem, -decide_eq_true_eq, -decide_eq_false_iff_not]
   repeat' first | apply And.intro | refine hk _ ?_ | intro hg | omega | exact True.intro
   all_goals clear hk k
   refine rt ?_
   first | (rw [hinv, idxF_step hx, if_pos (by assumption)]; simp [go_sem, Tryz.results180]; done) | (rw [hinv, idxF_end (by omega)]; simp [go_sem, Tryz.results180]))

/-- slices.ContainsFunc[[]int64,int64] -/
theorem dc_slices_ContainsFunc_int64_int64 (f : Nat) (p : Int → Bool) (l : List Int) (hf : ∀ x ∈ l, DC Tryz.prog f ([.int .i64 x] ++ []) (.bool (p x)) []) (hl : l.length ≤ 9223372036854775807) : DC Tryz.prog 151 [.isl 1 (l.map I1), .fn f []] (.bool (l.any p)) [] := by
 refine DC.intro tiOk Tryz.func151 rfl rfl rfl rfl rfl rfl rfl rfl [] ?_
 refine rg [0,1] ?_
 intro k hk; simp -dsimp [go_sem, -decide_eq_true_eq, -decide_eq_false_iff_not]
 repeat' first | apply And.intro | refine hk _ ?_ | intro hg | omega | exact True.intro
 all_goals clear hk k
 refine rg [4] ?_
 intro k hk; simp -dsimp (maxSteps := 2000000) [go_sem, -decide_eq_true_eq, -decide_eq_false_iff_not]
 repeat' first | apply And.intro | refine hk _ ?_ | intro hg | (refine CallK.intro (dc_slices_IndexFunc_int64_int64 f [] p l hf hl rfl) ?_; simp -dsimp (maxSteps := 2000000) [go_sem, -decide_eq_true_eq, -decide_eq_false_iff_not]) | omega | exact True.intro
 all_goals clear hk k
 refine rt ?_
 rw [← idxF_any l 0]; simp [go_sem, Tryz.results151]

/-- impl.VarsFault$1 -/
theorem dc_impl_VarsFault_1 (n : Int) : DC Tryz.prog 152 [.int .i64 n] (.bool (!small n)) [] := by
 refine DC.intro tiOk Tryz.func152 rfl rfl rfl rfl rfl rfl rfl rfl [] ?_
 refine rg [0] ?_
 intro k hk; simp -dsimp [go_sem, -decide_eq_true_eq, -decide_eq_false_iff_not]
 repeat' first | apply And.intro | refine hk _ ?_ | intro hg | omega | exact True.intro
 all_goals clear hk k
 refine rg [2] ?_
 intro k hk; simp -dsimp (maxSteps := 2000000) [go_sem, -decide_eq_true_eq, -decide_eq_false_iff_not]
 repeat' first | apply And.intro | refine hk _ ?_ | intro hg | (refine CallK.intro (dc_impl_inRange _ _ _) ?_; simp -dsimp (maxSteps := 2000000) [go_sem, -decide_eq_true_eq, -decide_eq_false_iff_not]) | omega | exact True.intro
 all_goals clear hk k
 refine rt ?_
 simp [go_sem, Tryz.results152, small]

/-- impl.VarsFault -/
theorem dc_impl_VarsFault (l : List Int) (hl : l.length ≤ 9223372036854775807) : DC Tryz.prog 128 [.isl 1 (l.map I1)] (.int .i64 (varsF l)) [] := by
 refine DC.intro tiOk Tryz.func128 rfl rfl rfl rfl rfl rfl rfl rfl [] ?_
 refine rg [0] ?_
 intro k hk; simp -dsimp [go_sem, -decide_eq_true_eq, -decide_eq_false_iff_not]
 repeat' first | apply And.intro | refine hk _ ?_ | intro hg | omega | exact True.intro
 all_goals clear hk k
 refine rg [0,3] ?_
 intro k hk; simp -dsimp (maxSteps := 2000000) [go_sem, -decide_eq_true_eq, -decide_eq_false_iff_not]
 repeat' first | apply And.intro | refine hk _ ?_ | intro hg | (refine CallK.intro (dc_slices_ContainsFunc_int64_int64 152 (fun n => !small n) l (fun x _ => dc_impl_VarsFault_1 x) hl) ?_; simp -dsimp (maxSteps := 2000000) [go_sem, -decide_eq_true_eq, -decide_eq_false_iff_not]) | omega | exact True.intro
 all_goals clear hk k
 refine rg [2] ?_
 intro k hk; simp -dsimp (maxSteps := 2000000) [go_sem, -decide_eq_true_eq, -decide_eq_false_iff_not]
 repeat' first | apply And.intro | refine hk _ ?_ | intro hg | ((first | refine CallK.intro (dc_impl_codeIf _ _) ?_ | refine CallK.intro (dc_impl_firstCode [_, _] (by simp)) ?_ | refine CallK.intro (dc_impl_firstCode [_, _, _] (by simp)) ?_ | refine CallK.intro (dc_impl_firstCode [_, _, _, _] (by simp)) ?_); simp -dsimp (maxSteps := 2000000) [go_sem, -decide_eq_true_eq, -decide_eq_false_iff_not]) | omega | exact True.intro
 all_goals clear hk k
 refine rt ?_
 rw [← varsF_eq]; simp [go_sem, Tryz.results128]

/-- spec.VarsFault -/
theorem dc_spec_VarsFault (l : List Int) (hl : l.length ≤ 9223372036854775807) : DC Tryz.prog 149 [.isl 1 (l.map I1)] (.int .i64 (varsF l)) [] := by
 refine DC.intro tiOk Tryz.func149 rfl rfl rfl rfl rfl rfl rfl rfl [] ?_
 refine rg [0] ?_
 intro k hk; simp -dsimp [go_sem, -decide_eq_true_eq, -decide_eq_false_iff_not]
 repeat' first | apply And.intro | refine hk _ ?_ | intro hg | omega | exact True.intro
 all_goals clear hk k
 refine AW.seq ?_
 refine rg [0,6] ?_
 intro k hk; simp -dsimp [go_sem, -decide_eq_true_eq, -decide_eq_false_iff_not]
 repeat' first | apply And.intro | refine hk _ ?_ | intro hg | omega | exact True.intro
 all_goals clear hk k
 refine AW.cond rfl ?_ ?_
 ·intro hc; try simp at hc
  all_goals (
   refine rg [2] ?_
   intro k hk; simp -dsimp [go_sem, -decide_eq_true_eq, -decide_eq_false_iff_not]
   repeat' first | apply And.intro | refine hk _ ?_ | intro hg | omega | exact True.intro
   all_goals clear hk k
   refine rt ?_
   first | (have hr := all_not (p := small) hx (by simpa [small] using hc); simp [go_sem, Tryz.results149, varsF, hr]; omega) | (have hr := all_end (show l.length ≤ i by omega) hall; simp [go_sem, Tryz.results149, varsF, hr]; omega) | (simp [go_sem, Tryz.results149, varsF]; omega))
 ·intro hc; try simp at hc
  all_goals (
   refine AW.skipN (fun _ h => h) ?_
   refine AW.seq ?_
   refine rg [0,3] ?_
   intro k hk; simp -dsimp [go_sem, -decide_eq_true_eq, -decide_eq_false_iff_not]
   repeat' first | apply And.intro | refine hk _ ?_ | intro hg | omega | exact True.intro
   all_goals clear hk k
   refine AW.block ?_
   refine AW.loopI (fun i : Nat => ⟨19, [(0, .isl 1 (l.map I1)), (3, .int .i64 i)], []⟩) (fun i => i ≤ l.length ∧ (l.take i).all small = true) (fun i => l.length - i) (0) (by simp) (Less.of rfl (by simp [go_sem]) (by simp [go_sem])) ?_
   rintro i ⟨hi, hall⟩
   refine AW.seq ?_
   refine rg [0,3,10] ?_
   intro k hk; simp -dsimp [go_sem, -decide_eq_true_eq, -decide_eq_false_iff_not]
   repeat' first | apply And.intro | refine hk _ ?_ | intro hg | omega | exact True.intro
   all_goals clear hk k
   refine AW.cond rfl ?_ ?_
   ·intro hc; try simp at hc
    all_goals (
     have hlt : i < l.length := by assumption
     obtain ⟨x, hx⟩ := at_some hlt
     refine AW.skipN (fun _ h => h) ?_
     refine AW.seq ?_
     refine AW.block ?_
     refine rg [0,3,18] ?_
     intro k hk; simp -dsimp (maxSteps := 2000000) [go_sem, -decide_eq_true_eq, -decide_eq_false_iff_not, hx]
     repeat' first | apply And.intro | refine hk _ ?_ | intro hg | (refine CallK.intro (dc_spec_l1In _ _ _) ?_; simp -dsimp (maxSteps := 2000000) [go_sem, -decide_eq_true_eq, -decide_eq_false_iff_not, hx]) | omega | exact True.intro
     all_goals clear hk k
     refine AW.cond rfl ?_ ?_
     ·intro hc; try simp at hc
      all_goals (
       refine rg [2] ?_
       intro k hk; simp -dsimp [go_sem, -decide_eq_true_eq, -decide_eq_false_iff_not, hx]
       repeat' first | apply And.intro | refine hk _ ?_ | intro hg | omega | exact True.intro
       all_goals clear hk k
       refine rt ?_
       first | (have hr := all_not (p := small) hx (by simpa [small] using hc); simp [go_sem, Tryz.results149, varsF, hr]; omega) | (have hr := all_end (show l.length ≤ i by omega) hall; simp [go_sem, Tryz.results149, varsF, hr]; omega) | (simp [go_sem, Tryz.results149, varsF]; omega))
     ·intro hc; try simp at hc
      all_goals (
       refine AW.skipN (fun _ h => h) ?_
       refine rgK ?_
       intro k hk; simp -dsimp [go_sem, -decide_eq_true_eq, -decide_eq_false_iff_not, hx]
       repeat' first | apply And.intro | refine hk _ ?_ | intro hg | omega | exact True.intro
       all_goals clear hk k
       show ∃ _, _
       have hw := wrapi hlt hl
       refine ⟨i + 1, ⟨by omega, ?_⟩, by omega, Less.of rfl (by simp [go_sem, hw]) (by simp [go_sem])⟩
       rw [all_take hx hall]; simpa [small] using hc))
   ·intro hc; try simp at hc
    all_goals (
     refine AW.exitN (fun _ h => h) ?_
     refine rg [2] ?_
     intro k hk; simp -dsimp [go_sem, -decide_eq_true_eq, -decide_eq_false_iff_not]
     repeat' first | apply And.intro | refine hk _ ?_ | intro hg | omega | exact True.intro
     all_goals clear hk k
     refine rt ?_
     first | (have hr := all_not (p := small) hx (by simpa [small] using hc); simp [go_sem, Tryz.results149, varsF, hr]; omega) | (have hr := all_end (show l.length ≤ i by omega) hall; simp [go_sem, Tryz.results149, varsF, hr]; omega) | (simp [go_sem, Tryz.results149, varsF]; omega)))

end Go.AM

/-! ### G1 -/
set_option linter.unusedVariables false
set_option linter.unusedSimpArgs false
set_option maxHeartbeats 600000
set_option maxRecDepth 100000
namespace Go.AM
open Go.Proofs

/-- impl.argBounds -/
theorem dc_impl_argBounds (k : Int) : DC Tryz.prog 170 [.int .i64 k] (.tup [.int .i64 (lowA k), .int .i64 (highA k)]) [] := by
 refine DC.intro tiOk Tryz.func170 rfl rfl rfl rfl rfl rfl rfl rfl [] ?_
 refine rg [0] ?_
 intro k hk; simp -dsimp [go_sem, -decide_eq_true_eq, -decide_eq_false_iff_not]
 repeat' first | apply And.intro | refine hk _ ?_ | intro hg | omega | exact True.intro
 all_goals clear hk k
 refine AW.seq ?_
 refine rg [4] ?_
 intro k hk; simp -dsimp [go_sem, -decide_eq_true_eq, -decide_eq_false_iff_not]
 repeat' first | apply And.intro | refine hk _ ?_ | intro hg | omega | exact True.intro
 all_goals clear hk k
 refine AW.block ?_
 refine rg [4,5] ?_
 intro k hk; simp -dsimp [go_sem, -decide_eq_true_eq, -decide_eq_false_iff_not]
 repeat' first | apply And.intro | refine hk _ ?_ | intro hg | omega | exact True.intro
 all_goals clear hk k
 refine AW.cond rfl ?_ ?_
 ·intro hc; try simp at hc
  all_goals try (exfalso; omega; done)
  all_goals (
   refine rg [2,3] ?_
   intro k hk; simp -dsimp [go_sem, -decide_eq_true_eq, -decide_eq_false_iff_not]
   repeat' first | apply And.intro | refine hk _ ?_ | intro hg | omega | exact True.intro
   all_goals clear hk k
   refine rt ?_
   simp [go_sem, Tryz.results170, lowA, highA] <;> grind)
 ·intro hc; try simp at hc
  all_goals try (exfalso; omega; done)
  all_goals (
   refine AW.seq ?_
   refine rg [4,7] ?_
   intro k hk; simp -dsimp [go_sem, -decide_eq_true_eq, -decide_eq_false_iff_not]
   repeat' first | apply And.intro | refine hk _ ?_ | intro hg | omega | exact True.intro
   all_goals clear hk k
   refine AW.cond rfl ?_ ?_
   ·intro hc; try simp at hc
    all_goals try (exfalso; omega; done)
    all_goals (
     refine AW.skipN (fun _ h => h) ?_
     refine AW.cond rfl ?_ ?_
     ·intro hc; try simp at hc
      all_goals try (exfalso; omega; done)
      all_goals (
       refine rg [2,3] ?_
       intro k hk; simp -dsimp [go_sem, -decide_eq_true_eq, -decide_eq_false_iff_not]
       repeat' first | apply And.intro | refine hk _ ?_ | intro hg | omega | exact True.intro
       all_goals clear hk k
       refine rt ?_
       simp [go_sem, Tryz.results170, lowA, highA] <;> grind)
     ·intro hc; try simp at hc
      all_goals try (exfalso; omega; done)
      all_goals (
       refine rg [10] ?_
       intro k hk; simp -dsimp [go_sem, -decide_eq_true_eq, -decide_eq_false_iff_not]
       repeat' first | apply And.intro | refine hk _ ?_ | intro hg | omega | exact True.intro
       all_goals clear hk k
       refine AW.cond rfl ?_ ?_
       ·intro hc; try simp at hc
        all_goals try (exfalso; omega; done)
        all_goals (
         refine rg [2,3] ?_
         intro k hk; simp -dsimp [go_sem, -decide_eq_true_eq, -decide_eq_false_iff_not]
         repeat' first | apply And.intro | refine hk _ ?_ | intro hg | omega | exact True.intro
         all_goals clear hk k
         refine rt ?_
         simp [go_sem, Tryz.results170, lowA, highA] <;> grind)
       ·intro hc; try simp at hc
        all_goals try (exfalso; omega; done)
        all_goals (
         refine AW.skipN (fun _ h => h) ?_
         refine rg [2,3] ?_
         intro k hk; simp -dsimp [go_sem, -decide_eq_true_eq, -decide_eq_false_iff_not]
         repeat' first | apply And.intro | refine hk _ ?_ | intro hg | omega | exact True.intro
         all_goals clear hk k
         refine rt ?_
         simp [go_sem, Tryz.results170, lowA, highA] <;> grind)))
   ·intro hc; try simp at hc
    all_goals try (exfalso; omega; done)
    all_goals (
     refine rgN [4,7] (fun _ h => h) ?_
     intro k hk; simp -dsimp [go_sem, -decide_eq_true_eq, -decide_eq_false_iff_not]
     repeat' first | apply And.intro | refine hk _ ?_ | intro hg | omega | exact True.intro
     all_goals clear hk k
     refine AW.cond rfl ?_ ?_
     ·intro hc; try simp at hc
      all_goals try (exfalso; omega; done)
      all_goals (
       refine rg [2,3] ?_
       intro k hk; simp -dsimp [go_sem, -decide_eq_true_eq, -decide_eq_false_iff_not]
       repeat' first | apply And.intro | refine hk _ ?_ | intro hg | omega | exact True.intro
       all_goals clear hk k
       refine rt ?_
       simp [go_sem, Tryz.results170, lowA, highA] <;> grind)
     ·intro hc; try simp at hc
      all_goals try (exfalso; omega; done)
      all_goals (
       refine rg [10] ?_
       intro k hk; simp -dsimp [go_sem, -decide_eq_true_eq, -decide_eq_false_iff_not]
       repeat' first | apply And.intro | refine hk _ ?_ | intro hg | omega | exact True.intro
       all_goals clear hk k
       refine AW.cond rfl ?_ ?_
       ·intro hc; try simp at hc
        all_goals try (exfalso; omega; done)
        all_goals (
         refine rg [2,3] ?_
         intro k hk; simp -dsimp [go_sem, -decide_eq_true_eq, -decide_eq_false_iff_not]
         repeat' first | apply And.intro | refine hk _ ?_ | intro hg | omega | exact True.intro
         all_goals clear hk k
         refine rt ?_
         simp [go_sem, Tryz.results170, lowA, highA] <;> grind)
       ·intro hc; try simp at hc
        all_goals try (exfalso; omega; done)
        all_goals (
         refine AW.skipN (fun _ h => h) ?_
         refine rg [2,3] ?_
         intro k hk; simp -dsimp [go_sem, -decide_eq_true_eq, -decide_eq_false_iff_not]
         repeat' first | apply And.intro | refine hk _ ?_ | intro hg | omega | exact True.intro
         all_goals clear hk k
         refine rt ?_
         simp [go_sem, Tryz.results170, lowA, highA] <;> grind))))

/-- impl.kidBounds -/
theorem dc_impl_kidBounds (k : Int) : DC Tryz.prog 175 [.int .i64 k] (.tup [.int .i64 (kidLo k), .int .i64 (kidHi k)]) [] := by
 refine DC.intro tiOk Tryz.func175 rfl rfl rfl rfl rfl rfl rfl rfl [] ?_
 refine rg [0] ?_
 intro k hk; simp -dsimp [go_sem, -decide_eq_true_eq, -decide_eq_false_iff_not]
 repeat' first | apply And.intro | refine hk _ ?_ | intro hg | omega | exact True.intro
 all_goals clear hk k
 refine AW.seq ?_
 refine rg [4] ?_
 intro k hk; simp -dsimp [go_sem, -decide_eq_true_eq, -decide_eq_false_iff_not]
 repeat' first | apply And.intro | refine hk _ ?_ | intro hg | omega | exact True.intro
 all_goals clear hk k
 refine AW.block ?_
 refine rg [4,5] ?_
 intro k hk; simp -dsimp [go_sem, -decide_eq_true_eq, -decide_eq_false_iff_not]
 repeat' first | apply And.intro | refine hk _ ?_ | intro hg | omega | exact True.intro
 all_goals clear hk k
 refine AW.cond rfl ?_ ?_
 ·intro hc; try simp at hc
  all_goals try (exfalso; omega; done)
  all_goals (
   refine rg [2,3] ?_
   intro k hk; simp -dsimp [go_sem, -decide_eq_true_eq, -decide_eq_false_iff_not]
   repeat' first | apply And.intro | refine hk _ ?_ | intro hg | omega | exact True.intro
   all_goals clear hk k
   refine rt ?_
   simp [go_sem, Tryz.results175, kidLo, kidHi] <;> grind)
 ·intro hc; try simp at hc
  all_goals try (exfalso; omega; done)
  all_goals (
   refine AW.seq ?_
   refine rg [4,7] ?_
   intro k hk; simp -dsimp [go_sem, -decide_eq_true_eq, -decide_eq_false_iff_not]
   repeat' first | apply And.intro | refine hk _ ?_ | intro hg | omega | exact True.intro
   all_goals clear hk k
   refine AW.cond rfl ?_ ?_
   ·intro hc; try simp at hc
    all_goals try (exfalso; omega; done)
    all_goals (
     refine AW.skipN (fun _ h => h) ?_
     refine AW.cond rfl ?_ ?_
     ·intro hc; try simp at hc
      all_goals try (exfalso; omega; done)
      all_goals (
       refine rg [2,3] ?_
       intro k hk; simp -dsimp [go_sem, -decide_eq_true_eq, -decide_eq_false_iff_not]
       repeat' first | apply And.intro | refine hk _ ?_ | intro hg | omega | exact True.intro
       all_goals clear hk k
       refine rt ?_
       simp [go_sem, Tryz.results175, kidLo, kidHi] <;> grind)
     ·intro hc; try simp at hc
      all_goals try (exfalso; omega; done)
      all_goals (
       refine rg [10] ?_
       intro k hk; simp -dsimp [go_sem, -decide_eq_true_eq, -decide_eq_false_iff_not]
       repeat' first | apply And.intro | refine hk _ ?_ | intro hg | omega | exact True.intro
       all_goals clear hk k
       refine AW.cond rfl ?_ ?_
       ·intro hc; try simp at hc
        all_goals try (exfalso; omega; done)
        all_goals (
         refine rg [2,3] ?_
         intro k hk; simp -dsimp [go_sem, -decide_eq_true_eq, -decide_eq_false_iff_not]
         repeat' first | apply And.intro | refine hk _ ?_ | intro hg | omega | exact True.intro
         all_goals clear hk k
         refine rt ?_
         simp [go_sem, Tryz.results175, kidLo, kidHi] <;> grind)
       ·intro hc; try simp at hc
        all_goals try (exfalso; omega; done)
        all_goals (
         refine AW.skipN (fun _ h => h) ?_
         refine rg [2,3] ?_
         intro k hk; simp -dsimp [go_sem, -decide_eq_true_eq, -decide_eq_false_iff_not]
         repeat' first | apply And.intro | refine hk _ ?_ | intro hg | omega | exact True.intro
         all_goals clear hk k
         refine rt ?_
         simp [go_sem, Tryz.results175, kidLo, kidHi] <;> grind)))
   ·intro hc; try simp at hc
    all_goals try (exfalso; omega; done)
    all_goals (
     refine rgN [4,7] (fun _ h => h) ?_
     intro k hk; simp -dsimp [go_sem, -decide_eq_true_eq, -decide_eq_false_iff_not]
     repeat' first | apply And.intro | refine hk _ ?_ | intro hg | omega | exact True.intro
     all_goals clear hk k
     refine AW.cond rfl ?_ ?_
     ·intro hc; try simp at hc
      all_goals try (exfalso; omega; done)
      all_goals (
       refine rg [2,3] ?_
       intro k hk; simp -dsimp [go_sem, -decide_eq_true_eq, -decide_eq_false_iff_not]
       repeat' first | apply And.intro | refine hk _ ?_ | intro hg | omega | exact True.intro
       all_goals clear hk k
       refine rt ?_
       simp [go_sem, Tryz.results175, kidLo, kidHi] <;> grind)
     ·intro hc; try simp at hc
      all_goals try (exfalso; omega; done)
      all_goals (
       refine rg [10] ?_
       intro k hk; simp -dsimp [go_sem, -decide_eq_true_eq, -decide_eq_false_iff_not]
       repeat' first | apply And.intro | refine hk _ ?_ | intro hg | omega | exact True.intro
       all_goals clear hk k
       refine AW.cond rfl ?_ ?_
       ·intro hc; try simp at hc
        all_goals try (exfalso; omega; done)
        all_goals (
         refine rg [2,3] ?_
         intro k hk; simp -dsimp [go_sem, -decide_eq_true_eq, -decide_eq_false_iff_not]
         repeat' first | apply And.intro | refine hk _ ?_ | intro hg | omega | exact True.intro
         all_goals clear hk k
         refine rt ?_
         simp [go_sem, Tryz.results175, kidLo, kidHi] <;> grind)
       ·intro hc; try simp at hc
        all_goals try (exfalso; omega; done)
        all_goals (
         refine AW.skipN (fun _ h => h) ?_
         refine rg [2,3] ?_
         intro k hk; simp -dsimp [go_sem, -decide_eq_true_eq, -decide_eq_false_iff_not]
         repeat' first | apply And.intro | refine hk _ ?_ | intro hg | omega | exact True.intro
         all_goals clear hk k
         refine rt ?_
         simp [go_sem, Tryz.results175, kidLo, kidHi] <;> grind))))

/-- spec.l4Many -/
theorem dc_spec_l4Many (k : Int) (n : Nat) (hn : n ≤ 24) : DC Tryz.prog 165 [.int .i64 k, .int .i64 (n : Nat)] (.bool (inR n (kidLo k) (kidHi k))) [] := by
 refine DC.intro tiOk Tryz.func165 rfl rfl rfl rfl rfl rfl rfl rfl [] ?_
 refine rg [0,1] ?_
 intro k hk; simp -dsimp [go_sem, -decide_eq_true_eq, -decide_eq_false_iff_not]
 repeat' first | apply And.intro | refine hk _ ?_ | intro hg | omega | exact True.intro
 all_goals clear hk k
 refine AW.seq ?_
 refine rg [1,5] ?_
 intro k hk; simp -dsimp [go_sem, -decide_eq_true_eq, -decide_eq_false_iff_not]
 repeat' first | apply And.intro | refine hk _ ?_ | intro hg | omega | exact True.intro
 all_goals clear hk k
 refine AW.block ?_
 refine rg [1,5,6] ?_
 intro k hk; simp -dsimp [go_sem, -decide_eq_true_eq, -decide_eq_false_iff_not]
 repeat' first | apply And.intro | refine hk _ ?_ | intro hg | omega | exact True.intro
 all_goals clear hk k
 refine AW.cond rfl ?_ ?_
 ·intro hc; try simp at hc
  all_goals try (exfalso; omega; done)
  all_goals (
   refine rg [4] ?_
   intro k hk; simp -dsimp [go_sem, -decide_eq_true_eq, -decide_eq_false_iff_not]
   repeat' first | apply And.intro | refine hk _ ?_ | intro hg | omega | exact True.intro
   all_goals clear hk k
   refine rt ?_
   simp [go_sem, Tryz.results165, inR, kidLo, kidHi] <;> grind)
 ·intro hc; try simp at hc
  all_goals try (exfalso; omega; done)
  all_goals (
   refine AW.seq ?_
   refine rg [1,5,10] ?_
   intro k hk; simp -dsimp [go_sem, -decide_eq_true_eq, -decide_eq_false_iff_not]
   repeat' first | apply And.intro | refine hk _ ?_ | intro hg | omega | exact True.intro
   all_goals clear hk k
   refine AW.cond rfl ?_ ?_
   ·intro hc; try simp at hc
    all_goals try (exfalso; omega; done)
    all_goals (
     refine AW.skipN (fun _ h => h) ?_
     refine AW.cond rfl ?_ ?_
     ·intro hc; try simp at hc
      all_goals try (exfalso; omega; done)
      all_goals (
       refine rg [4] ?_
       intro k hk; simp -dsimp [go_sem, -decide_eq_true_eq, -decide_eq_false_iff_not]
       repeat' first | apply And.intro | refine hk _ ?_ | intro hg | omega | exact True.intro
       all_goals clear hk k
       refine rt ?_
       simp [go_sem, Tryz.results165, inR, kidLo, kidHi] <;> grind)
     ·intro hc; try simp at hc
      all_goals try (exfalso; omega; done)
      all_goals (
       refine rg [1,15] ?_
       intro k hk; simp -dsimp [go_sem, -decide_eq_true_eq, -decide_eq_false_iff_not]
       repeat' first | apply And.intro | refine hk _ ?_ | intro hg | omega | exact True.intro
       all_goals clear hk k
       refine AW.cond rfl ?_ ?_
       ·intro hc; try simp at hc
        all_goals try (exfalso; omega; done)
        all_goals (
         refine rg [4] ?_
         intro k hk; simp -dsimp [go_sem, -decide_eq_true_eq, -decide_eq_false_iff_not]
         repeat' first | apply And.intro | refine hk _ ?_ | intro hg | omega | exact True.intro
         all_goals clear hk k
         refine rt ?_
         simp [go_sem, Tryz.results165, inR, kidLo, kidHi] <;> grind)
       ·intro hc; try simp at hc
        all_goals try (exfalso; omega; done)
        all_goals (
         refine AW.skipN (fun _ h => h) ?_
         refine rg [4] ?_
         intro k hk; simp -dsimp [go_sem, -decide_eq_true_eq, -decide_eq_false_iff_not]
         repeat' first | apply And.intro | refine hk _ ?_ | intro hg | omega | exact True.intro
         all_goals clear hk k
         refine rt ?_
         simp [go_sem, Tryz.results165, inR, kidLo, kidHi] <;> grind)))
   ·intro hc; try simp at hc
    all_goals try (exfalso; omega; done)
    all_goals (
     refine rgN [1,5,10] (fun _ h => h) ?_
     intro k hk; simp -dsimp [go_sem, -decide_eq_true_eq, -decide_eq_false_iff_not]
     repeat' first | apply And.intro | refine hk _ ?_ | intro hg | omega | exact True.intro
     all_goals clear hk k
     refine AW.cond rfl ?_ ?_
     ·intro hc; try simp at hc
      all_goals try (exfalso; omega; done)
      all_goals (
       refine rg [4] ?_
       intro k hk; simp -dsimp [go_sem, -decide_eq_true_eq, -decide_eq_false_iff_not]
       repeat' first | apply And.intro | refine hk _ ?_ | intro hg | omega | exact True.intro
       all_goals clear hk k
       refine rt ?_
       simp [go_sem, Tryz.results165, inR, kidLo, kidHi] <;> grind)
     ·intro hc; try simp at hc
      all_goals try (exfalso; omega; done)
      all_goals (
       refine rg [1,15] ?_
       intro k hk; simp -dsimp [go_sem, -decide_eq_true_eq, -decide_eq_false_iff_not]
       repeat' first | apply And.intro | refine hk _ ?_ | intro hg | omega | exact True.intro
       all_goals clear hk k
       refine AW.cond rfl ?_ ?_
       ·intro hc; try simp at hc
        all_goals try (exfalso; omega; done)
        all_goals (
         refine rg [4] ?_
         intro k hk; simp -dsimp [go_sem, -decide_eq_true_eq, -decide_eq_false_iff_not]
         repeat' first | apply And.intro | refine hk _ ?_ | intro hg | omega | exact True.intro
         all_goals clear hk k
         refine rt ?_
         simp [go_sem, Tryz.results165, inR, kidLo, kidHi] <;> grind)
       ·intro hc; try simp at hc
        all_goals try (exfalso; omega; done)
        all_goals (
         refine AW.skipN (fun _ h => h) ?_
         refine rg [4] ?_
         intro k hk; simp -dsimp [go_sem, -decide_eq_true_eq, -decide_eq_false_iff_not]
         repeat' first | apply And.intro | refine hk _ ?_ | intro hg | omega | exact True.intro
         all_goals clear hk k
         refine rt ?_
         simp [go_sem, Tryz.results165, inR, kidLo, kidHi] <;> grind))))

/-- spec.l4Arg -/
theorem dc_spec_l4Arg (s : TStep) : DC Tryz.prog 163 [.ip s.ro] (.bool (decide (s.kind = 5 ∨ s.kind = 6 ∨ s.kind = 7 ∨ s.kind = 8 → lowA s.kind ≤ s.arg ∧ s.arg ≤ highA s.kind))) [] := by
 refine DC.intro tiOk Tryz.func163 rfl rfl rfl rfl rfl rfl rfl rfl [] ?_
 refine rg [0] ?_
 intro k hk; simp -dsimp [go_sem, -decide_eq_true_eq, -decide_eq_false_iff_not]
 repeat' first | apply And.intro | refine hk _ ?_ | intro hg | omega | exact True.intro
 all_goals clear hk k
 refine AW.seq ?_
 refine rg [0,6] ?_
 intro k hk; simp -dsimp [go_sem, -decide_eq_true_eq, -decide_eq_false_iff_not]
 repeat' first | apply And.intro | refine hk _ ?_ | intro hg | omega | exact True.intro
 all_goals clear hk k
 refine AW.block ?_
 refine rg [0,6,7] ?_
 intro k hk; simp -dsimp [go_sem, -decide_eq_true_eq, -decide_eq_false_iff_not]
 repeat' first | apply And.intro | refine hk _ ?_ | intro hg | omega | exact True.intro
 all_goals clear hk k
 refine AW.cond rfl ?_ ?_
 ·intro hc; try simp at hc
  all_goals try (exfalso; omega; done)
  all_goals (
   refine rg [2] ?_
   intro k hk; simp -dsimp (maxSteps := 2000000) [go_sem, -decide_eq_true_eq, -decide_eq_false_iff_not]
   repeat' first | apply And.intro | refine hk _ ?_ | intro hg | (refine CallK.intro (dc_spec_l1In _ _ _) ?_; simp -dsimp (maxSteps := 2000000) [go_sem, -decide_eq_true_eq, -decide_eq_false_iff_not]) | omega | exact True.intro
   all_goals clear hk k
   refine rt ?_
   simp [go_sem, Tryz.results163, inR, lowA, highA] <;> grind)
 ·intro hc; try simp at hc
  all_goals try (exfalso; omega; done)
  all_goals (
   refine AW.seq ?_
   refine rg [0,6,14] ?_
   intro k hk; simp -dsimp [go_sem, -decide_eq_true_eq, -decide_eq_false_iff_not]
   repeat' first | apply And.intro | refine hk _ ?_ | intro hg | omega | exact True.intro
   all_goals clear hk k
   refine AW.cond rfl ?_ ?_
   ·intro hc; try simp at hc
    all_goals try (exfalso; omega; done)
    all_goals (
     refine AW.skipN (fun _ h => h) ?_
     refine AW.cond rfl ?_ ?_
     ·intro hc; try simp at hc
      all_goals try (exfalso; omega; done)
      all_goals (
       refine rg [2] ?_
       intro k hk; simp -dsimp (maxSteps := 2000000) [go_sem, -decide_eq_true_eq, -decide_eq_false_iff_not]
       repeat' first | apply And.intro | refine hk _ ?_ | intro hg | (refine CallK.intro (dc_spec_l1In _ _ _) ?_; simp -dsimp (maxSteps := 2000000) [go_sem, -decide_eq_true_eq, -decide_eq_false_iff_not]) | omega | exact True.intro
       all_goals clear hk k
       refine rt ?_
       simp [go_sem, Tryz.results163, inR, lowA, highA] <;> grind)
     ·intro hc; try simp at hc
      all_goals try (exfalso; omega; done)
      all_goals (
       refine rg [0,22] ?_
       intro k hk; simp -dsimp [go_sem, -decide_eq_true_eq, -decide_eq_false_iff_not]
       repeat' first | apply And.intro | refine hk _ ?_ | intro hg | omega | exact True.intro
       all_goals clear hk k
       refine AW.cond rfl ?_ ?_
       ·intro hc; try simp at hc
        all_goals try (exfalso; omega; done)
        all_goals (
         refine rg [2] ?_
         intro k hk; simp -dsimp (maxSteps := 2000000) [go_sem, -decide_eq_true_eq, -decide_eq_false_iff_not]
         repeat' first | apply And.intro | refine hk _ ?_ | intro hg | (refine CallK.intro (dc_spec_l1In _ _ _) ?_; simp -dsimp (maxSteps := 2000000) [go_sem, -decide_eq_true_eq, -decide_eq_false_iff_not]) | omega | exact True.intro
         all_goals clear hk k
         refine rt ?_
         simp [go_sem, Tryz.results163, inR, lowA, highA] <;> grind)
       ·intro hc; try simp at hc
        all_goals try (exfalso; omega; done)
        all_goals (
         refine AW.skipN (fun _ h => h) ?_
         refine rg [2] ?_
         intro k hk; simp -dsimp [go_sem, -decide_eq_true_eq, -decide_eq_false_iff_not]
         repeat' first | apply And.intro | refine hk _ ?_ | intro hg | omega | exact True.intro
         all_goals clear hk k
         refine rt ?_
         simp [go_sem, Tryz.results163, inR, lowA, highA] <;> grind)))
   ·intro hc; try simp at hc
    all_goals try (exfalso; omega; done)
    all_goals (
     refine rgN [0,6,14] (fun _ h => h) ?_
     intro k hk; simp -dsimp [go_sem, -decide_eq_true_eq, -decide_eq_false_iff_not]
     repeat' first | apply And.intro | refine hk _ ?_ | intro hg | omega | exact True.intro
     all_goals clear hk k
     refine AW.cond rfl ?_ ?_
     ·intro hc; try simp at hc
      all_goals try (exfalso; omega; done)
      all_goals (
       refine rg [2] ?_
       intro k hk; simp -dsimp (maxSteps := 2000000) [go_sem, -decide_eq_true_eq, -decide_eq_false_iff_not]
       repeat' first | apply And.intro | refine hk _ ?_ | intro hg | (refine CallK.intro (dc_spec_l1In _ _ _) ?_; simp -dsimp (maxSteps := 2000000) [go_sem, -decide_eq_true_eq, -decide_eq_false_iff_not]) | omega | exact True.intro
       all_goals clear hk k
       refine rt ?_
       simp [go_sem, Tryz.results163, inR, lowA, highA] <;> grind)
     ·intro hc; try simp at hc
      all_goals try (exfalso; omega; done)
      all_goals (
       refine rg [0,22] ?_
       intro k hk; simp -dsimp [go_sem, -decide_eq_true_eq, -decide_eq_false_iff_not]
       repeat' first | apply And.intro | refine hk _ ?_ | intro hg | omega | exact True.intro
       all_goals clear hk k
       refine AW.cond rfl ?_ ?_
       ·intro hc; try simp at hc
        all_goals try (exfalso; omega; done)
        all_goals (
         refine rg [2] ?_
         intro k hk; simp -dsimp (maxSteps := 2000000) [go_sem, -decide_eq_true_eq, -decide_eq_false_iff_not]
         repeat' first | apply And.intro | refine hk _ ?_ | intro hg | (refine CallK.intro (dc_spec_l1In _ _ _) ?_; simp -dsimp (maxSteps := 2000000) [go_sem, -decide_eq_true_eq, -decide_eq_false_iff_not]) | omega | exact True.intro
         all_goals clear hk k
         refine rt ?_
         simp [go_sem, Tryz.results163, inR, lowA, highA] <;> grind)
       ·intro hc; try simp at hc
        all_goals try (exfalso; omega; done)
        all_goals (
         refine AW.skipN (fun _ h => h) ?_
         refine rg [2] ?_
         intro k hk; simp -dsimp [go_sem, -decide_eq_true_eq, -decide_eq_false_iff_not]
         repeat' first | apply And.intro | refine hk _ ?_ | intro hg | omega | exact True.intro
         all_goals clear hk k
         refine rt ?_
         simp [go_sem, Tryz.results163, inR, lowA, highA] <;> grind))))

/-- spec.l4Bare -/
theorem dc_spec_l4Bare (s : TStep) (hg : s.gok) : DC Tryz.prog 159 [.ip s.ro] (.bool (!alien s)) [] := by
 obtain ⟨g0, g1, g2⟩ := hg
 refine DC.intro tiOk Tryz.func159 rfl rfl rfl rfl rfl rfl rfl rfl [] ?_
 refine rg [0] ?_
 intro k hk; simp -dsimp [go_sem, -decide_eq_true_eq, -decide_eq_false_iff_not]
 repeat' first | apply And.intro | refine hk _ ?_ | intro hg | omega | exact True.intro
 all_goals clear hk k
 refine rg [0,3] ?_
 intro k hk; simp -dsimp (maxSteps := 2000000) [go_sem, -decide_eq_true_eq, -decide_eq_false_iff_not]
 repeat' first | apply And.intro | refine hk _ ?_ | intro hg | (refine CallK.intro (dc_spec_l1In _ _ _) ?_; simp -dsimp (maxSteps := 2000000) [go_sem, -decide_eq_true_eq, -decide_eq_false_iff_not]) | omega | exact True.intro
 all_goals clear hk k
 refine AW.cut ⟨46, [(2, .bool (!alien s))], []⟩ ?_ ?_
 ·skip
  refine rgK ?_
  intro k hk; simp +contextual -dsimp (maxSteps := 2000000) [go_sem, -decide_eq_true_eq, -decide_eq_false_iff_not]
  repeat' first | apply And.intro | refine hk _ ?_ | (intro hg; try simp only [decide_eq_true_eq, decide_eq_false_iff_not] at hg) | omega | exact True.intro
  all_goals clear hk k
  all_goals (show St.Less _ _; exact Less.of rfl (by simp [go_sem, alien, highA, inR] at * <;> grind) (by simp [go_sem]))
 ·skip
  refine rt ?_
  simp [go_sem, Tryz.results159]

/-- (*impl.parents).next -/
theorem dc_impl_parents_next_z (par : Int) : DC Tryz.prog 171 [.op [.nils, .nils], .int .i64 par] (.int .i64 (parF [] par)) [(0, .op [nlc 1 ((nxtL [] par).map I1), nlc 1 ((nxtD [] [] par).map I1)])] := by
 have hwm : IntKind.wrap .i64 (-1) = -1 := wrap64 (by omega) (by omega)
 refine DC.intro tiOk Tryz.func171 rfl rfl rfl rfl rfl rfl rfl (by simp [noW, noWo]) [] ?_
 refine rg [0,1] ?_
 intro k hk; simp -dsimp [go_sem, -decide_eq_true_eq, -decide_eq_false_iff_not, hwm]
 repeat' first | apply And.intro | refine hk _ ?_ | intro hg | omega | exact True.intro
 all_goals clear hk k
 refine rg [0,1,5] ?_
 intro k hk; simp -dsimp [go_sem, -decide_eq_true_eq, -decide_eq_false_iff_not, hwm]
 repeat' first | apply And.intro | refine hk _ ?_ | intro hg | omega | exact True.intro
 all_goals clear hk k
 refine AW.seq ?_
 refine AW.cut ⟨75, [(0, .ptr 1900 2 0 0), (1, .int .i64 par), (5, .int .i64 0), (29, .bool (decide (par ≠ -1)))], [(1900, some ⟨2, [[.nils, .nils]]⟩)]⟩ ?_ ?_
 ·skip
  refine rgK ?_
  intro k hk; simp +contextual -dsimp (maxSteps := 2000000) [go_sem, -decide_eq_true_eq, -decide_eq_false_iff_not, hwm]
  repeat' first | apply And.intro | refine hk _ ?_ | (intro hg; try simp only [decide_eq_true_eq, decide_eq_false_iff_not] at hg) | (refine CallK.intro (dc_impl_inRange _ _ _) ?_; simp +contextual -dsimp (maxSteps := 2000000) [go_sem, -decide_eq_true_eq, -decide_eq_false_iff_not, hwm]) | omega | exact True.intro
  all_goals clear hk k
  all_goals (show St.Less _ _; exact Less.of rfl (by simp [go_sem] <;> grind) (by simp [go_sem]))
 ·skip
  refine AW.cond rfl ?_ ?_
  ·intro hc; try simp at hc
   all_goals try (exfalso; omega; done)
   all_goals (
    refine rg [0,4] ?_
    intro k hk; simp -dsimp [go_sem, -decide_eq_true_eq, -decide_eq_false_iff_not, hwm]
    repeat' first | apply And.intro | refine hk _ ?_ | intro hg | omega | exact True.intro
    all_goals clear hk k
    refine rt ?_
    first | (have hpm : par = -1 := (by assumption); subst hpm; simp [go_sem, Tryz.results171, nxtL, nxtD, parF]; done) | (have hpm : ¬ par = -1 := (by first | assumption | simpa using hc); simp [go_sem, Tryz.results171, nxtL, nxtD, parF, hpm]))
  ·intro hc; try simp at hc
   all_goals try (exfalso; omega; done)
   all_goals (
    refine AW.skipN (fun _ h => h) ?_
    have hpm : par = -1 := by simpa using hc
    refine rg [0,1,6] ?_
    intro k hk; simp -dsimp [go_sem, -decide_eq_true_eq, -decide_eq_false_iff_not, hwm, hpm]
    repeat' first | apply And.intro | refine hk _ ?_ | intro hg | omega | exact True.intro
    all_goals clear hk k
    refine AW.seq ?_
    refine AW.block ?_
    refine AW.loopI (fun _ : Nat => ⟨75, [(0, .ptr 1900 2 0 0), (1, .int .i64 par), (6, .int .i64 (-1))], [(1900, some ⟨2, [[.nils, .nils]]⟩)]⟩) (fun _ => True) (fun _ => 0) (0) (trivial) (Less.of rfl (by simp [go_sem, hpm, hwm]) (by simp [go_sem])) ?_
    rintro i _
    refine AW.seq ?_
    refine rg [0,1,6,34] ?_
    intro k hk; simp -dsimp [go_sem, -decide_eq_true_eq, -decide_eq_false_iff_not, hwm]
    repeat' first | apply And.intro | refine hk _ ?_ | intro hg | omega | exact True.intro
    all_goals clear hk k
    refine AW.cond rfl ?_ ?_
    ·intro hc; try simp at hc
     all_goals try (exfalso; omega; done)
     all_goals (
      refine AW.skipN (fun _ h => h) ?_
      refine AW.block ?_
      refine rgK ?_
      intro k hk; simp -dsimp (maxSteps := 2000000) [go_sem, -decide_eq_true_eq, -decide_eq_false_iff_not, hwm]
      repeat' first | apply And.intro | refine hk _ ?_ | intro hg | omega | exact True.intro
      all_goals clear hk k
      show ∃ _, _
      exfalso; omega)
    ·intro hc; try simp at hc
     all_goals try (exfalso; omega; done)
     all_goals (
      refine AW.exitN (fun _ h => h) ?_
      refine AW.seq ?_
      refine rg [0,1,44] ?_
      intro k hk; simp -dsimp [go_sem, -decide_eq_true_eq, -decide_eq_false_iff_not, hwm]
      repeat' first | apply And.intro | refine hk _ ?_ | intro hg | omega | exact True.intro
      all_goals clear hk k
      refine AW.cond rfl ?_ ?_
      ·intro hc; try simp at hc
       all_goals try (exfalso; omega; done)
       all_goals (
        refine rg [0,4] ?_
        intro k hk; simp -dsimp [go_sem, -decide_eq_true_eq, -decide_eq_false_iff_not, hwm]
        repeat' first | apply And.intro | refine hk _ ?_ | intro hg | omega | exact True.intro
        all_goals clear hk k
        refine rt ?_
        first | (have hpm : par = -1 := (by assumption); subst hpm; simp [go_sem, Tryz.results171, nxtL, nxtD, parF]; done) | (have hpm : ¬ par = -1 := (by first | assumption | simpa using hc); simp [go_sem, Tryz.results171, nxtL, nxtD, parF, hpm]))
      ·intro hc; try simp at hc
       all_goals try (exfalso; omega; done)
       all_goals (
        refine AW.skipN (fun _ h => h) ?_
        refine rg [0,1,7] ?_
        intro k hk; simp -dsimp [go_sem, -decide_eq_true_eq, -decide_eq_false_iff_not, hwm]
        repeat' first | apply And.intro | refine hk _ ?_ | intro hg | omega | exact True.intro
        all_goals clear hk k
        refine AW.seq ?_
        refine rg [0,1,7,46] ?_
        intro k hk; simp -dsimp [go_sem, -decide_eq_true_eq, -decide_eq_false_iff_not, hwm]
        repeat' first | apply And.intro | refine hk _ ?_ | intro hg | omega | exact True.intro
        all_goals clear hk k
        refine AW.cond rfl ?_ ?_
        ·intro hc; try simp at hc
         all_goals try (exfalso; omega; done)
         all_goals (
          refine rgN [0,1,7] (fun _ h => h) ?_
          intro k hk; simp -dsimp (maxSteps := 2000000) [go_sem, -decide_eq_true_eq, -decide_eq_false_iff_not, hwm]
          repeat' first | apply And.intro | refine hk _ ?_ | intro hg | omega | exact True.intro
          all_goals clear hk k
          refine rg [0] ?_
          intro k hk; simp -dsimp (maxSteps := 2000000) [go_sem, -decide_eq_true_eq, -decide_eq_false_iff_not, hwm]
          repeat' first | apply And.intro | (refine Chk.keys ?_; simp only [go_sem, List.map_cons, List.map_nil, List.flatMap_cons, List.flatMap_nil, List.flatMap_append, List.append_nil, List.nil_append, List.cons_append]; decide +kernel) | refine hk _ ?_ | intro hg | omega | exact True.intro
          all_goals clear hk k
          refine AW.fold (nd := ?nd_1) (c := ?c_1) (l := ?l_1) (es := ?es_1) (n := ?n_1) 1900 0 0 63 ?h1_1 ?h2_1 ?h4_1 ?h3_1 ?hn_1 (by decide) ?h6_1 ?kk_1
          (case h1_1 => exact rfl)
          (case h2_1 => exact rfl)
          (case h4_1 => exact rfl)
          (case h3_1 => exact rfl)
          (case hn_1 => simp)
          (case h6_1 => simp [go_sem])
          refine AW.fold (nd := ?nd_2) (c := ?c_2) (l := ?l_2) (es := ?es_2) (n := ?n_2) 1900 0 1 70 ?h1_2 ?h2_2 ?h4_2 ?h3_2 ?hn_2 (by decide) ?h6_2 ?kk_2
          (case h1_2 => exact rfl)
          (case h2_2 => exact rfl)
          (case h4_2 => exact rfl)
          (case h3_2 => exact rfl)
          (case hn_2 => simp)
          (case h6_2 => simp [go_sem])
          refine rg [0,4] ?_
          intro k hk; simp -dsimp [go_sem, -decide_eq_true_eq, -decide_eq_false_iff_not, hwm]
          repeat' first | apply And.intro | refine hk _ ?_ | intro hg | omega | exact True.intro
          all_goals clear hk k
          refine rt ?_
          first | (have hpm : par = -1 := (by assumption); subst hpm; simp [go_sem, Tryz.results171, nxtL, nxtD, parF]; done) | (have hpm : ¬ par = -1 := (by first | assumption | simpa using hc); simp [go_sem, Tryz.results171, nxtL, nxtD, parF, hpm]))
        ·intro hc; try simp at hc
         all_goals try (exfalso; omega; done)
         all_goals (
          refine AW.skipN (fun _ h => h) ?_
          refine rg [0] ?_
          intro k hk; simp -dsimp (maxSteps := 2000000) [go_sem, -decide_eq_true_eq, -decide_eq_false_iff_not, hwm]
          repeat' first | apply And.intro | (refine Chk.keys ?_; simp only [go_sem, List.map_cons, List.map_nil, List.flatMap_cons, List.flatMap_nil, List.flatMap_append, List.append_nil, List.nil_append, List.cons_append]; decide +kernel) | refine hk _ ?_ | intro hg | omega | exact True.intro
          all_goals clear hk k
          refine AW.fold (nd := ?nd_3) (c := ?c_3) (l := ?l_3) (es := ?es_3) (n := ?n_3) 1900 0 0 63 ?h1_3 ?h2_3 ?h4_3 ?h3_3 ?hn_3 (by decide) ?h6_3 ?kk_3
          (case h1_3 => exact rfl)
          (case h2_3 => exact rfl)
          (case h4_3 => exact rfl)
          (case h3_3 => exact rfl)
          (case hn_3 => simp)
          (case h6_3 => simp [go_sem])
          refine AW.fold (nd := ?nd_4) (c := ?c_4) (l := ?l_4) (es := ?es_4) (n := ?n_4) 1900 0 1 70 ?h1_4 ?h2_4 ?h4_4 ?h3_4 ?hn_4 (by decide) ?h6_4 ?kk_4
          (case h1_4 => exact rfl)
          (case h2_4 => exact rfl)
          (case h4_4 => exact rfl)
          (case h3_4 => exact rfl)
          (case hn_4 => simp)
          (case h6_4 => simp [go_sem])
          refine rg [0,4] ?_
          intro k hk; simp -dsimp [go_sem, -decide_eq_true_eq, -decide_eq_false_iff_not, hwm]
          repeat' first | apply And.intro | refine hk _ ?_ | intro hg | omega | exact True.intro
          all_goals clear hk k
          refine rt ?_
          first | (have hpm : par = -1 := (by assumption); subst hpm; simp [go_sem, Tryz.results171, nxtL, nxtD, parF]; done) | (have hpm : ¬ par = -1 := (by first | assumption | simpa using hc); simp [go_sem, Tryz.results171, nxtL, nxtD, parF, hpm])))))

/-- (*impl.parents).next -/
theorem dc_impl_parents_next_s (l d : List Int) (par : Int) (hl : ParOk l) (hd : d = depsOf l) (hn : l ≠ []) (h24 : l.length ≤ 24) : DC Tryz.prog 171 [.op [.osl 1 (l.map I1), .osl 1 (d.map I1)], .int .i64 par] (.int .i64 (parF l par)) [(0, .op [nlc 1 ((nxtL l par).map I1), nlc 1 ((nxtD l d par).map I1)])] := by
 have hlp : 0 < l.length := List.length_pos_iff.2 hn
 have hdl : d.length = l.length := by rw [hd]; exact depsOf_len l
 have hnl := nlc_map (f := I1) hn 1
 have hnd := nlc_map (f := I1) (l := d) (by intro h; rw [h] at hdl; simp at hdl; omega) 1
 have hw1 : IntKind.wrap .i64 ((l.length : Int) - 1) = (l.length : Int) - 1 := wrap64 (by omega) (by omega)
 have htl : List.take l.length (d.map I1) = d.map I1 := List.take_of_length_le (by simp [hdl])
 refine DC.intro tiOk Tryz.func171 rfl rfl rfl rfl rfl rfl rfl (by simp [noW, noWo]) [] ?_
 refine rg [0,1] ?_
 intro k hk; simp -dsimp [go_sem, -decide_eq_true_eq, -decide_eq_false_iff_not, hw1, hdl, htl]
 repeat' first | apply And.intro | refine hk _ ?_ | intro hg | omega | exact True.intro
 all_goals clear hk k
 refine AW.thaw (nd := ?nd_1) (c := ?c_1) (l := ?l_1) (es := ?es_1) 1900 0 0 7001 ?h1_1 ?h2_1 ?h3_1 ?h45_1 ?kk_1
 (case h1_1 => exact rfl)
 (case h2_1 => exact rfl)
 (case h3_1 => exact rfl)
 (case h45_1 => simp [go_sem])
 refine AW.thaw (nd := ?nd_2) (c := ?c_2) (l := ?l_2) (es := ?es_2) 1900 0 1 7002 ?h1_2 ?h2_2 ?h3_2 ?h45_2 ?kk_2
 (case h1_2 => exact rfl)
 (case h2_2 => exact rfl)
 (case h3_2 => exact rfl)
 (case h45_2 => simp [go_sem])
 refine rg [0,1,5] ?_
 intro k hk; simp -dsimp [go_sem, -decide_eq_true_eq, -decide_eq_false_iff_not, hw1, hdl, htl]
 repeat' first | apply And.intro | refine hk _ ?_ | intro hg | omega | exact True.intro
 all_goals clear hk k
 refine AW.seq ?_
 refine AW.cut ⟨75, [(0, .ptr 1900 2 0 0), (1, .int .i64 par), (5, .int .i64 (l.length : Nat)), (29, .bool (decide (parF l par = 3)))], [(7001, some ⟨1, l.map I1⟩), (7002, some ⟨1, d.map I1⟩), (1900, some ⟨2, [[.sl 7001 1 0 l.length, .sl 7002 1 0 l.length]]⟩)]⟩ ?_ ?_
 ·skip
  refine rgK ?_
  intro k hk; simp +contextual -dsimp (maxSteps := 2000000) [go_sem, -decide_eq_true_eq, -decide_eq_false_iff_not, hw1, hdl, htl]
  repeat' first | apply And.intro | refine hk _ ?_ | (intro hg; try simp only [decide_eq_true_eq, decide_eq_false_iff_not] at hg) | (refine CallK.intro (dc_impl_inRange _ _ _) ?_; simp +contextual -dsimp (maxSteps := 2000000) [go_sem, -decide_eq_true_eq, -decide_eq_false_iff_not, hw1, hdl, htl]) | omega | exact True.intro
  all_goals clear hk k
  all_goals (show St.Less _ _; exact Less.of rfl (by simp [go_sem, parF, inR] at * <;> grind) (by simp [go_sem, hdl]))
 ·skip
  refine AW.cond rfl ?_ ?_
  ·intro hc; try simp at hc
   all_goals try (exfalso; omega; done)
   all_goals (
    refine AW.fold (nd := ?nd_3) (c := ?c_3) (l := ?l_3) (es := ?es_3) (n := ?n_3) 1900 0 0 7001 ?h1_3 ?h2_3 ?h4_3 ?h3_3 ?hn_3 (by decide) ?h6_3 ?kk_3
    (case h1_3 => exact rfl)
    (case h2_3 => exact rfl)
    (case h4_3 => exact rfl)
    (case h3_3 => exact rfl)
    (case hn_3 => simp [hdl])
    (case h6_3 => simp [go_sem, hdl])
    refine AW.fold (nd := ?nd_4) (c := ?c_4) (l := ?l_4) (es := ?es_4) (n := ?n_4) 1900 0 1 7002 ?h1_4 ?h2_4 ?h4_4 ?h3_4 ?hn_4 (by decide) ?h6_4 ?kk_4
    (case h1_4 => exact rfl)
    (case h2_4 => exact rfl)
    (case h4_4 => exact rfl)
    (case h3_4 => exact rfl)
    (case hn_4 => simp [hdl])
    (case h6_4 => simp [go_sem, hdl])
    have hp3 : parF l par = 3 := by simpa using hc
    refine rg [0,4] ?_
    intro k hk; simp -dsimp [go_sem, -decide_eq_true_eq, -decide_eq_false_iff_not, hw1, hdl, htl]
    repeat' first | apply And.intro | refine hk _ ?_ | intro hg | omega | exact True.intro
    all_goals clear hk k
    refine rt ?_
    first | (simp [go_sem, Tryz.results171, nxtL, nxtD, hp3, hnl, hnd]; done) | (simp [go_sem, Tryz.results171, nxtL, nxtD, hp1, hnl, hnd]; done) | (simp [go_sem, Tryz.results171, hb, hnl2, hnd2, hp0, hnl, hnd, htl]; done))
  ·intro hc; try simp at hc
   all_goals try (exfalso; omega; done)
   all_goals (
    refine AW.skipN (fun _ h => h) ?_
    have hp3 : ¬ parF l par = 3 := by simpa using hc
    have hpr := parF_not3 hlp hp3
    refine rg [0,1,6] ?_
    intro k hk; simp -dsimp [go_sem, -decide_eq_true_eq, -decide_eq_false_iff_not, hw1, hdl, htl]
    repeat' first | apply And.intro | refine hk _ ?_ | intro hg | omega | exact True.intro
    all_goals clear hk k
    refine AW.seq ?_
    refine AW.block ?_
    refine AW.loopI (fun a : Int => ⟨75, [(0, .ptr 1900 2 0 0), (1, .int .i64 par), (6, .int .i64 a)], [(7001, some ⟨1, l.map I1⟩), (7002, some ⟨1, d.map I1⟩), (1900, some ⟨2, [[.sl 7001 1 0 l.length, .sl 7002 1 0 l.length]]⟩)]⟩) (fun a => -1 ≤ a ∧ a < l.length ∧ upB l a par = upB l ((l.length : Int) - 1) par) (fun a => (a + 1).toNat) ((l.length : Int) - 1) (by refine ⟨by omega, by omega, rfl⟩) (Less.of rfl (by simp [go_sem, hdl]) (by simp [go_sem, hdl])) ?_
    rintro a ⟨ha0, ha1, hinv⟩
    refine AW.seq ?_
    refine rg [0,1,6,34] ?_
    intro k hk; simp -dsimp [go_sem, -decide_eq_true_eq, -decide_eq_false_iff_not, hw1, hdl, htl]
    repeat' first | apply And.intro | refine hk _ ?_ | intro hg | omega | exact True.intro
    all_goals clear hk k
    refine AW.cond rfl ?_ ?_
    ·intro hc; try simp at hc
     all_goals try (exfalso; omega; done)
     all_goals (
      have hlt : par < a := by assumption
      obtain ⟨k, hk⟩ : ∃ k : Nat, a = k := ⟨_, (Int.toNat_of_nonneg (show 0 ≤ a by omega)).symm⟩
      subst hk
      obtain ⟨x, hx⟩ := at_some (l := l) (show k < l.length by omega)
      have hxg : l.getD k 0 = x := by rw [List.getD, hx]; rfl
      have hxl := hl k (by omega)
      rw [hxg] at hxl
      refine AW.skipN (fun _ h => h) ?_
      refine AW.block ?_
      refine rgK ?_
      intro k hk; simp -dsimp (maxSteps := 2000000) [go_sem, -decide_eq_true_eq, -decide_eq_false_iff_not, hw1, hdl, htl, hx]
      repeat' first | apply And.intro | refine hk _ ?_ | intro hg | omega | exact True.intro
      all_goals clear hk k
      show ∃ _, _
      refine ⟨x, ⟨by omega, by omega, ?_⟩, by omega, Less.of rfl (by simp [go_sem]) (by simp [go_sem])⟩
      rw [← hinv, upB_eq hl (show (0 : Int) ≤ (k : Int) by omega) (by omega), if_neg (by omega), Int.toNat_natCast, hxg])
    ·intro hc; try simp at hc
     all_goals try (exfalso; omega; done)
     all_goals (
      refine AW.exitN (fun _ h => h) ?_
      refine AW.seq ?_
      refine rg [0,1,44] ?_
      intro k hk; simp -dsimp [go_sem, -decide_eq_true_eq, -decide_eq_false_iff_not, hw1, hdl, htl]
      repeat' first | apply And.intro | refine hk _ ?_ | intro hg | omega | exact True.intro
      all_goals clear hk k
      refine AW.cond rfl ?_ ?_
      ·intro hc; try simp at hc
       all_goals try (exfalso; omega; done)
       all_goals (
        refine AW.fold (nd := ?nd_5) (c := ?c_5) (l := ?l_5) (es := ?es_5) (n := ?n_5) 1900 0 0 7001 ?h1_5 ?h2_5 ?h4_5 ?h3_5 ?hn_5 (by decide) ?h6_5 ?kk_5
        (case h1_5 => exact rfl)
        (case h2_5 => exact rfl)
        (case h4_5 => exact rfl)
        (case h3_5 => exact rfl)
        (case hn_5 => simp [hdl])
        (case h6_5 => simp [go_sem, hdl])
        refine AW.fold (nd := ?nd_6) (c := ?c_6) (l := ?l_6) (es := ?es_6) (n := ?n_6) 1900 0 1 7002 ?h1_6 ?h2_6 ?h4_6 ?h3_6 ?hn_6 (by decide) ?h6_6 ?kk_6
        (case h1_6 => exact rfl)
        (case h2_6 => exact rfl)
        (case h4_6 => exact rfl)
        (case h3_6 => exact rfl)
        (case hn_6 => simp [hdl])
        (case h6_6 => simp [go_sem, hdl])
        have hup : upB l ((l.length : Int) - 1) par = false := by rw [← hinv]; exact upB_lt hl l.length a (by omega) (by omega) (by omega)
        have hp1 : parF l par = 1 := by unfold parF; rw [if_neg (by omega), if_pos ⟨hlp, hup⟩]
        refine rg [0,4] ?_
        intro k hk; simp -dsimp [go_sem, -decide_eq_true_eq, -decide_eq_false_iff_not, hw1, hdl, htl]
        repeat' first | apply And.intro | refine hk _ ?_ | intro hg | omega | exact True.intro
        all_goals clear hk k
        refine rt ?_
        first | (simp [go_sem, Tryz.results171, nxtL, nxtD, hp3, hnl, hnd]; done) | (simp [go_sem, Tryz.results171, nxtL, nxtD, hp1, hnl, hnd]; done) | (simp [go_sem, Tryz.results171, hb, hnl2, hnd2, hp0, hnl, hnd, htl]; done))
      ·intro hc; try simp at hc
       all_goals try (exfalso; omega; done)
       all_goals (
        refine AW.skipN (fun _ h => h) ?_
        have hpa : a = par := by first | assumption | omega
        have hup : upB l ((l.length : Int) - 1) par = true := by rw [← hinv, upB_eq hl (by omega) (by omega), if_pos hpa]
        have hp0 : parF l par = 0 := by unfold parF; rw [if_neg (by omega), if_neg (by rw [hup]; simp)]
        refine rg [0,1,7] ?_
        intro k hk; simp -dsimp [go_sem, -decide_eq_true_eq, -decide_eq_false_iff_not, hw1, hdl, htl]
        repeat' first | apply And.intro | refine hk _ ?_ | intro hg | omega | exact True.intro
        all_goals clear hk k
        refine AW.seq ?_
        refine rg [0,1,7,46] ?_
        intro k hk; simp -dsimp [go_sem, -decide_eq_true_eq, -decide_eq_false_iff_not, hw1, hdl, htl]
        repeat' first | apply And.intro | refine hk _ ?_ | intro hg | omega | exact True.intro
        all_goals clear hk k
        refine AW.cond rfl ?_ ?_
        ·intro hc; try simp at hc
         all_goals try (exfalso; omega; done)
         all_goals (
          obtain ⟨b, hb⟩ : ∃ b : Nat, par = b := ⟨_, (Int.toNat_of_nonneg hpr.1).symm⟩
          have hdb : d[b]? = some (dep l b) := by rw [hd]; exact depsOf_at (by omega)
          have hds := dep_small hl (a := (b : Int)) (by omega)
          have hw2 : IntKind.wrap .i64 (dep l b + 1) = dep l b + 1 := wrap64 (by omega) (by omega)
          have hdg : d.getD b 0 = dep l b := by rw [List.getD, hdb]; rfl
          have hnl2 : nxtL l par = l ++ [par] := nxtL_app hp0
          have hnd2 : nxtD l d par = d ++ [dep l b + 1] := by rw [nxtD, if_pos hp0, if_pos hpr.1, hb, Int.toNat_natCast, hdg]
          rw [hb] at hnl2 hnd2 hp0
          refine rgN [0,1,7] (fun _ h => h) ?_
          intro k hk; simp -dsimp (maxSteps := 2000000) [go_sem, -decide_eq_true_eq, -decide_eq_false_iff_not, hw1, hdl, htl, hb, hdb, hw2]
          repeat' first | apply And.intro | refine hk _ ?_ | intro hg | omega | exact True.intro
          all_goals clear hk k
          refine rg [0] ?_
          intro k hk; simp -dsimp (maxSteps := 2000000) [go_sem, -decide_eq_true_eq, -decide_eq_false_iff_not, hw1, hdl, htl]
          repeat' first | apply And.intro | (refine Chk.keys ?_; simp only [go_sem, List.map_cons, List.map_nil, List.flatMap_cons, List.flatMap_nil, List.flatMap_append, List.append_nil, List.nil_append, List.cons_append]; decide +kernel) | refine hk _ ?_ | intro hg | omega | exact True.intro
          all_goals clear hk k
          refine AW.fold (nd := ?nd_7) (c := ?c_7) (l := ?l_7) (es := ?es_7) (n := ?n_7) 1900 0 0 63 ?h1_7 ?h2_7 ?h4_7 ?h3_7 ?hn_7 (by decide) ?h6_7 ?kk_7
          (case h1_7 => exact rfl)
          (case h2_7 => exact rfl)
          (case h4_7 => exact rfl)
          (case h3_7 => exact rfl)
          (case hn_7 => simp [hdl])
          (case h6_7 => simp [go_sem, hdl])
          refine AW.fold (nd := ?nd_8) (c := ?c_8) (l := ?l_8) (es := ?es_8) (n := ?n_8) 1900 0 1 70 ?h1_8 ?h2_8 ?h4_8 ?h3_8 ?hn_8 (by decide) ?h6_8 ?kk_8
          (case h1_8 => exact rfl)
          (case h2_8 => exact rfl)
          (case h4_8 => exact rfl)
          (case h3_8 => exact rfl)
          (case hn_8 => simp [hdl])
          (case h6_8 => simp [go_sem, hdl])
          refine rg [0,4] ?_
          intro k hk; simp -dsimp [go_sem, -decide_eq_true_eq, -decide_eq_false_iff_not, hw1, hdl, htl]
          repeat' first | apply And.intro | refine hk _ ?_ | intro hg | omega | exact True.intro
          all_goals clear hk k
          refine rt ?_
          first | (simp [go_sem, Tryz.results171, nxtL, nxtD, hp3, hnl, hnd]; done) | (simp [go_sem, Tryz.results171, nxtL, nxtD, hp1, hnl, hnd]; done) | (simp [go_sem, Tryz.results171, hb, hnl2, hnd2, hp0, hnl, hnd, htl]; done))
        ·intro hc; try simp at hc
         all_goals try (exfalso; omega; done)
         all_goals (
          refine AW.skipN (fun _ h => h) ?_
          refine rg [0] ?_
          intro k hk; simp -dsimp (maxSteps := 2000000) [go_sem, -decide_eq_true_eq, -decide_eq_false_iff_not, hw1, hdl, htl]
          repeat' first | apply And.intro | (refine Chk.keys ?_; simp only [go_sem, List.map_cons, List.map_nil, List.flatMap_cons, List.flatMap_nil, List.flatMap_append, List.append_nil, List.nil_append, List.cons_append]; decide +kernel) | refine hk _ ?_ | intro hg | omega | exact True.intro
          all_goals clear hk k
          refine AW.fold (nd := ?nd_9) (c := ?c_9) (l := ?l_9) (es := ?es_9) (n := ?n_9) 1900 0 0 63 ?h1_9 ?h2_9 ?h4_9 ?h3_9 ?hn_9 (by decide) ?h6_9 ?kk_9
          (case h1_9 => exact rfl)
          (case h2_9 => exact rfl)
          (case h4_9 => exact rfl)
          (case h3_9 => exact rfl)
          (case hn_9 => simp [hdl])
          (case h6_9 => simp [go_sem, hdl])
          refine AW.fold (nd := ?nd_10) (c := ?c_10) (l := ?l_10) (es := ?es_10) (n := ?n_10) 1900 0 1 70 ?h1_10 ?h2_10 ?h4_10 ?h3_10 ?hn_10 (by decide) ?h6_10 ?kk_10
          (case h1_10 => exact rfl)
          (case h2_10 => exact rfl)
          (case h4_10 => exact rfl)
          (case h3_10 => exact rfl)
          (case hn_10 => simp [hdl])
          (case h6_10 => simp [go_sem, hdl])
          refine rg [0,4] ?_
          intro k hk; simp -dsimp [go_sem, -decide_eq_true_eq, -decide_eq_false_iff_not, hw1, hdl, htl]
          repeat' first | apply And.intro | refine hk _ ?_ | intro hg | omega | exact True.intro
          all_goals clear hk k
          refine rt ?_
          first | (simp [go_sem, Tryz.results171, nxtL, nxtD, hp3, hnl, hnd]; done) | (simp [go_sem, Tryz.results171, nxtL, nxtD, hp1, hnl, hnd]; done) | (simp [go_sem, Tryz.results171, hb, hnl2, hnd2, hp0, hnl, hnd, htl]; done)))))
theorem dc_parents_next (l d : List Int) (par : Int) (hl : ParOk l) (hd : d = depsOf l) (h24 : l.length ≤ 24) : DC Tryz.prog 171 [.op [nlc 1 (l.map I1), nlc 1 (d.map I1)], .int .i64 par] (.int .i64 (parF l par)) [(0, .op [nlc 1 ((nxtL l par).map I1), nlc 1 ((nxtD l d par).map I1)])] := by
  by_cases hn : l = []
  · subst hn; subst hd; exact dc_impl_parents_next_z par
  · have hdl : d.length = l.length := by rw [hd]; exact depsOf_len l
    rw [nlc_map hn, nlc_map (l := d) (by intro h; rw [h] at hdl; exact hn (List.eq_nil_of_length_eq_zero hdl.symm))]
    exact dc_impl_parents_next_s l d par hl hd hn h24

/-- (*impl.parents).last -/
theorem dc_impl_parents_last (L D : List (List AV)) (v : Int) (hD : D.length ≤ 1000) : DC Tryz.prog 172 [.ip [.isl 1 L, .isl 1 (D ++ [[.int .i64 v]])]] (.int .i64 v) [] := by
 have hw1 : IntKind.wrap .i64 (D.length : Int) = (D.length : Int) := wrap64 (by omega) (by omega)
 have hat : (D ++ [[AV.int .i64 v]])[D.length]? = some [AV.int .i64 v] := List.getElem?_concat_length
 refine DC.intro tiOk Tryz.func172 rfl rfl rfl rfl rfl rfl rfl rfl [] ?_
 refine rg [0] ?_
 intro k hk; simp -dsimp [go_sem, -decide_eq_true_eq, -decide_eq_false_iff_not, hw1, hat]
 repeat' first | apply And.intro | refine hk _ ?_ | intro hg | omega | exact True.intro
 all_goals clear hk k
 refine rg [2] ?_
 intro k hk; simp -dsimp (maxSteps := 2000000) [go_sem, -decide_eq_true_eq, -decide_eq_false_iff_not, hw1, hat]
 repeat' first | apply And.intro | (refine Chk.keys ?_; simp only [go_sem, List.map_cons, List.map_nil, List.flatMap_cons, List.flatMap_nil, List.flatMap_append, List.append_nil, List.nil_append, List.cons_append]; decide +kernel) | refine hk _ ?_ | intro hg | omega | exact True.intro
 all_goals clear hk k
 refine rt ?_
 simp [go_sem, Tryz.results172]

end Go.AM

/-! ### G2 -/
set_option linter.unusedVariables false
set_option linter.unusedSimpArgs false
set_option maxHeartbeats 600000
set_option maxRecDepth 100000
namespace Go.AM
open Go.Proofs

/-- impl.kids -/
theorem dc_impl_kids (p : List TStep) (a : Int) (hp : p.length ≤ 24) : DC Tryz.prog 176 [.isl 6 (p.map TStep.ro), .int .i64 a] (.osl 1 ((kids p a).map I1)) [] := by
 refine DC.intro tiOk Tryz.func176 rfl rfl rfl rfl rfl rfl rfl rfl [1000] ?_
 refine rg [0,1] ?_
 intro k hk; simp -dsimp [go_sem, -decide_eq_true_eq, -decide_eq_false_iff_not]
 repeat' first | apply And.intro | refine hk _ ?_ | intro hg | omega | exact True.intro
 all_goals clear hk k
 refine rg [0,1,5] ?_
 intro k hk; simp -dsimp [go_sem, -decide_eq_true_eq, -decide_eq_false_iff_not]
 repeat' first | apply And.intro | refine hk _ ?_ | intro hg | omega | exact True.intro
 all_goals clear hk k
 refine AW.seq ?_
 refine rg [1,5,9,10,11] ?_
 intro k hk; simp -dsimp [go_sem, -decide_eq_true_eq, -decide_eq_false_iff_not]
 repeat' first | apply And.intro | refine hk _ ?_ | intro hg | omega | exact True.intro
 all_goals clear hk k
 refine AW.block ?_
 refine AW.rename (nd := ?nd_1) 8 27 ?h1_1 ?h2_1 ?h4_1 ?kk_1
 (case h1_1 => exact rfl)
 (case h2_1 => simp [go_sem])
 (case h4_1 => simp [go_sem])
 refine AW.loopI (fun i : Nat => ⟨30, [(1, .int .i64 a), (5, .sl 27 1 0 (kidU p a i).length), (9, .isl 6 (p.map TStep.ro)), (10, .int .i64 p.length), (11, .int .i64 i)], [(27, some ⟨1, (kidU p a i).map I1⟩)]⟩) (fun i => i ≤ p.length) (fun i => p.length - i) (0) (by simp) (Less.of rfl (by simp [go_sem, kidU]) (by simp [go_sem, kidU])) ?_
 rintro i hi
 refine AW.rename (nd := ?nd_2) 27 8 ?h1_2 ?h2_2 ?h4_2 ?kk_2
 (case h1_2 => exact rfl)
 (case h2_2 => simp [go_sem])
 (case h4_2 => simp [go_sem])
 refine rg [1,5,9,10,11,12] ?_
 intro k hk; simp -dsimp [go_sem, -decide_eq_true_eq, -decide_eq_false_iff_not]
 repeat' first | apply And.intro | refine hk _ ?_ | intro hg | omega | exact True.intro
 all_goals clear hk k
 refine AW.seq ?_
 refine AW.cond rfl ?_ ?_
 ·intro hc; try simp at hc
  all_goals (
   have hlt : i < p.length := by assumption
   obtain ⟨x, hx⟩ := at_some hlt
   have hkl := kidU_len p a i
   refine AW.skipN (fun _ h => h) ?_
   refine AW.seq ?_
   refine AW.block ?_
   refine rg [1,5,6,7,9,10,11] ?_
   intro k hk; simp -dsimp [go_sem, -decide_eq_true_eq, -decide_eq_false_iff_not, hx]
   repeat' first | apply And.intro | refine hk _ ?_ | intro hg | omega | exact True.intro
   all_goals clear hk k
   refine AW.cut ⟨30, [(1, .int .i64 a), (5, .sl 8 1 0 (kidU p a i).length), (6, .int .i64 i), (9, .isl 6 (p.map TStep.ro)), (10, .int .i64 p.length), (11, .int .i64 i), (23, .bool (decide (0 < i ∧ x.par = a)))], [(8, some ⟨1, (kidU p a i).map I1⟩)]⟩ ?_ ?_
   ·skip
    refine rgK ?_
    intro k hk; simp +contextual -dsimp (maxSteps := 2000000) [go_sem, -decide_eq_true_eq, -decide_eq_false_iff_not, hx]
    repeat' first | apply And.intro | refine hk _ ?_ | (intro hg; try simp only [decide_eq_true_eq, decide_eq_false_iff_not] at hg) | omega | exact True.intro
    all_goals clear hk k
    all_goals (show St.Less _ _; exact Less.of rfl (by simp [go_sem] <;> first | omega | grind) (by simp [go_sem]))
   ·skip
    refine AW.cond rfl ?_ ?_
    ·intro hc; try simp at hc
     all_goals (
      have hks := kidU_yes hx (by simpa using hc)
      refine rgN [1,5,9,10,11] (fun _ h => h) ?_
      intro k hk; simp -dsimp [go_sem, -decide_eq_true_eq, -decide_eq_false_iff_not, hx]
      repeat' first | apply And.intro | refine hk _ ?_ | intro hg | omega | exact True.intro
      all_goals clear hk k
      try (have hks := kidU_not hx (by simpa using hc))
      try (refine AW.rename (nd := ?nd_3) 8 27 ?h1_3 ?h2_3 ?h4_3 ?kk_3; (case h1_3 => exact rfl); (case h2_3 => simp [go_sem]); (case h4_3 => simp [go_sem]))
      refine rgK ?_
      intro k hk; simp -dsimp [go_sem, -decide_eq_true_eq, -decide_eq_false_iff_not, hx]
      repeat' first | apply And.intro | refine hk _ ?_ | intro hg | omega | exact True.intro
      all_goals clear hk k
      show ∃ _, _
      have hw := wrapi hlt (by omega)
      refine ⟨i + 1, by omega, by omega, Less.of rfl (by simp [go_sem, hw, hks] <;> omega) (by simp [go_sem, hks])⟩)
    ·intro hc; try simp at hc
     all_goals (
      refine AW.skipN (fun _ h => h) ?_
      try (have hks := kidU_not hx (by simpa using hc))
      try (refine AW.rename (nd := ?nd_4) 8 27 ?h1_4 ?h2_4 ?h4_4 ?kk_4; (case h1_4 => exact rfl); (case h2_4 => simp [go_sem]); (case h4_4 => simp [go_sem]))
      refine rgK ?_
      intro k hk; simp -dsimp [go_sem, -decide_eq_true_eq, -decide_eq_false_iff_not, hx]
      repeat' first | apply And.intro | refine hk _ ?_ | intro hg | omega | exact True.intro
      all_goals clear hk k
      show ∃ _, _
      have hw := wrapi hlt (by omega)
      refine ⟨i + 1, by omega, by omega, Less.of rfl (by simp [go_sem, hw, hks] <;> omega) (by simp [go_sem, hks])⟩))
 ·intro hc; try simp at hc
  all_goals (
   refine AW.exitN (fun _ h => h) ?_
   refine rg [4] ?_
   intro k hk; simp -dsimp [go_sem, -decide_eq_true_eq, -decide_eq_false_iff_not]
   repeat' first | apply And.intro | refine hk _ ?_ | intro hg | omega | exact True.intro
   all_goals clear hk k
   refine rt ?_
   rw [kids_end (by omega)]; simp [go_sem, Tryz.results176])

/-- spec.l4Kids -/
theorem dc_spec_l4Kids (p : List TStep) (a : Int) (hp : p.length ≤ 24) (h0 : (nS p 0).par ≠ a) : DC Tryz.prog 166 [.isl 6 (p.map TStep.ro), .int .i64 a] (.osl 1 ((kids p a).map I1)) [] := by
 refine DC.intro tiOk Tryz.func166 rfl rfl rfl rfl rfl rfl rfl rfl [1000] ?_
 refine rg [0,1] ?_
 intro k hk; simp -dsimp [go_sem, -decide_eq_true_eq, -decide_eq_false_iff_not]
 repeat' first | apply And.intro | refine hk _ ?_ | intro hg | omega | exact True.intro
 all_goals clear hk k
 refine rg [0,1,5] ?_
 intro k hk; simp -dsimp [go_sem, -decide_eq_true_eq, -decide_eq_false_iff_not]
 repeat' first | apply And.intro | refine hk _ ?_ | intro hg | omega | exact True.intro
 all_goals clear hk k
 refine AW.seq ?_
 refine rg [0,1,5,6] ?_
 intro k hk; simp -dsimp [go_sem, -decide_eq_true_eq, -decide_eq_false_iff_not]
 repeat' first | apply And.intro | refine hk _ ?_ | intro hg | omega | exact True.intro
 all_goals clear hk k
 refine AW.block ?_
 refine AW.rename (nd := ?nd_1) 7 24 ?h1_1 ?h2_1 ?h4_1 ?kk_1
 (case h1_1 => exact rfl)
 (case h2_1 => simp [go_sem])
 (case h4_1 => simp [go_sem])
 refine AW.loopI (fun i : Nat => ⟨26, [(0, .isl 6 (p.map TStep.ro)), (1, .int .i64 a), (5, .sl 24 1 0 (kidU p a i).length), (6, .int .i64 i)], [(24, some ⟨1, (kidU p a i).map I1⟩)]⟩) (fun i => i ≤ p.length) (fun i => p.length - i) (0) (by simp) (Less.of rfl (by simp [go_sem, kidU]) (by simp [go_sem, kidU])) ?_
 rintro i hi
 refine AW.rename (nd := ?nd_2) 24 7 ?h1_2 ?h2_2 ?h4_2 ?kk_2
 (case h1_2 => exact rfl)
 (case h2_2 => simp [go_sem])
 (case h4_2 => simp [go_sem])
 refine AW.seq ?_
 refine rg [0,1,5,6,11] ?_
 intro k hk; simp -dsimp [go_sem, -decide_eq_true_eq, -decide_eq_false_iff_not]
 repeat' first | apply And.intro | refine hk _ ?_ | intro hg | omega | exact True.intro
 all_goals clear hk k
 refine AW.cond rfl ?_ ?_
 ·intro hc; try simp at hc
  all_goals (
   have hlt : i < p.length := by assumption
   obtain ⟨x, hx⟩ := at_some hlt
   have hi0 : x.par = a → 0 < i := fun h => by rcases Nat.eq_zero_or_pos i with h1 | h1; (exfalso; subst h1; rw [nS_at hx] at h0; exact h0 h); exact h1
   have hkl := kidU_len p a i
   refine AW.skipN (fun _ h => h) ?_
   refine AW.seq ?_
   refine AW.block ?_
   refine rg [0,1,5,6,20] ?_
   intro k hk; simp -dsimp (maxSteps := 2000000) [go_sem, -decide_eq_true_eq, -decide_eq_false_iff_not, hx]
   repeat' first | apply And.intro | refine hk _ ?_ | intro hg | omega | exact True.intro
   all_goals clear hk k
   refine AW.cond rfl ?_ ?_
   ·intro hc; try simp at hc
    all_goals (
     have hxa : x.par = a := by simpa using hc
     have hks := kidU_yes hx ⟨hi0 hxa, hxa⟩
     refine rgN [0,1,5,6] (fun _ h => h) ?_
     intro k hk; simp -dsimp [go_sem, -decide_eq_true_eq, -decide_eq_false_iff_not, hx]
     repeat' first | apply And.intro | refine hk _ ?_ | intro hg | omega | exact True.intro
     all_goals clear hk k
     try (have hks := kidU_not hx (fun h => absurd h.2 (by simpa using hc)))
     try (refine AW.rename (nd := ?nd_3) 7 24 ?h1_3 ?h2_3 ?h4_3 ?kk_3; (case h1_3 => exact rfl); (case h2_3 => simp [go_sem]); (case h4_3 => simp [go_sem]))
     refine rgK ?_
     intro k hk; simp -dsimp [go_sem, -decide_eq_true_eq, -decide_eq_false_iff_not, hx]
     repeat' first | apply And.intro | refine hk _ ?_ | intro hg | omega | exact True.intro
     all_goals clear hk k
     show ∃ _, _
     have hw := wrapi hlt (by omega)
     refine ⟨i + 1, by omega, by omega, Less.of rfl (by simp [go_sem, hw, hks] <;> omega) (by simp [go_sem, hks])⟩)
   ·intro hc; try simp at hc
    all_goals (
     refine AW.skipN (fun _ h => h) ?_
     try (have hks := kidU_not hx (fun h => absurd h.2 (by simpa using hc)))
     try (refine AW.rename (nd := ?nd_4) 7 24 ?h1_4 ?h2_4 ?h4_4 ?kk_4; (case h1_4 => exact rfl); (case h2_4 => simp [go_sem]); (case h4_4 => simp [go_sem]))
     refine rgK ?_
     intro k hk; simp -dsimp [go_sem, -decide_eq_true_eq, -decide_eq_false_iff_not, hx]
     repeat' first | apply And.intro | refine hk _ ?_ | intro hg | omega | exact True.intro
     all_goals clear hk k
     show ∃ _, _
     have hw := wrapi hlt (by omega)
     refine ⟨i + 1, by omega, by omega, Less.of rfl (by simp [go_sem, hw, hks] <;> omega) (by simp [go_sem, hks])⟩))
 ·intro hc; try simp at hc
  all_goals (
   refine AW.exitN (fun _ h => h) ?_
   refine rg [4] ?_
   intro k hk; simp -dsimp [go_sem, -decide_eq_true_eq, -decide_eq_false_iff_not]
   repeat' first | apply And.intro | refine hk _ ?_ | intro hg | omega | exact True.intro
   all_goals clear hk k
   refine rt ?_
   rw [kids_end (by omega)]; simp [go_sem, Tryz.results166])

end Go.AM

/-! ### G3 -/
set_option linter.unusedVariables false
set_option linter.unusedSimpArgs false
set_option maxHeartbeats 600000
set_option maxRecDepth 100000
namespace Go.AM
open Go.Proofs

/-- impl.wantsCond -/
theorem dc_impl_wantsCond_z (p : List TStep) (ho : StepsOk p) : DC Tryz.prog 177 [.isl 6 (p.map TStep.ro), .int .i64 0] (.bool (wants p 0)) [] := by
 have hi : 0 < p.length := by have := ho.len; omega
 have hlen := ho.len
 obtain ⟨x, hx⟩ := at_some hi
 have hxS := nS_at hx
 have hx0 := ho.par0
 rw [hxS] at hx0
 refine DC.intro tiOk Tryz.func177 rfl rfl rfl rfl rfl rfl rfl rfl [] ?_
 refine rg [0,1] ?_
 intro k hk; simp -dsimp [go_sem, -decide_eq_true_eq, -decide_eq_false_iff_not, hx, hx0]
 repeat' first | apply And.intro | refine hk _ ?_ | intro hg | omega | exact True.intro
 all_goals clear hk k
 refine rg [0,1,5] ?_
 intro k hk; simp -dsimp [go_sem, -decide_eq_true_eq, -decide_eq_false_iff_not, hx, hx0]
 repeat' first | apply And.intro | refine hk _ ?_ | intro hg | omega | exact True.intro
 all_goals clear hk k
 refine AW.seq ?_
 refine rg [0,1,5,21] ?_
 intro k hk; simp +contextual -dsimp (maxSteps := 2000000) [go_sem, -decide_eq_true_eq, -decide_eq_false_iff_not, hx, hx0]
 repeat' first | apply And.intro | refine hk _ ?_ | (intro hg; try simp only [decide_eq_true_eq, decide_eq_false_iff_not] at hg) | omega | exact True.intro
 all_goals clear hk k
 all_goals (
  refine AW.cond rfl ?_ ?_
  ·intro hc; try simp at hc
   all_goals try (exfalso; first | omega | (simp at hc; done); done)
   all_goals (
    refine rg [4] ?_
    intro k hk; simp -dsimp [go_sem, -decide_eq_true_eq, -decide_eq_false_iff_not, hx, hx0]
    repeat' first | apply And.intro | refine hk _ ?_ | intro hg | omega | exact True.intro
    all_goals clear hk k
    refine rt ?_
    simp [go_sem, Tryz.results177, wants])
  ·intro hc; try simp at hc
   all_goals try (exfalso; first | omega | (simp at hc; done); done)
   all_goals (
    refine AW.skipN (fun _ h => h) ?_
    refine rg [1,6] ?_
    intro k hk; simp -dsimp (maxSteps := 2000000) [go_sem, -decide_eq_true_eq, -decide_eq_false_iff_not, hx, hx0]
    repeat' first | apply And.intro | refine hk _ ?_ | intro hg | (refine CallK.intro (fail) ?_; simp -dsimp (maxSteps := 2000000) [go_sem, -decide_eq_true_eq, -decide_eq_false_iff_not, hx, hx0]) | omega | exact True.intro
    all_goals clear hk k
    refine rg [4] ?_
    intro k hk; simp -dsimp (maxSteps := 2000000) [go_sem, -decide_eq_true_eq, -decide_eq_false_iff_not, hx, hx0]
    repeat' first | apply And.intro | refine hk _ ?_ | intro hg | omega | exact True.intro
    all_goals clear hk k
    refine rt ?_
    simp [go_sem, Tryz.results177, wants]))

/-- impl.wantsCond -/
theorem dc_impl_wantsCond_s (p : List TStep) (ho : StepsOk p) (i : Nat) (hi : i < p.length) (hi0 : 0 < i) : DC Tryz.prog 177 [.isl 6 (p.map TStep.ro), .int .i64 (i : Nat)] (.bool (wants p i)) [] := by
 have hlen := ho.len
 obtain ⟨x, hx⟩ := at_some hi
 have hxS := nS_at hx
 have hpi := ho.parI hi0 hi
 rw [hxS] at hpi
 obtain ⟨a, ha⟩ : ∃ a : Nat, x.par = a := ⟨_, (Int.toNat_of_nonneg hpi.1).symm⟩
 obtain ⟨y, hy⟩ := at_some (l := p) (show a < p.length by omega)
 have hyS := nS_at hy
 have hdi : decide ((i : Int) = 0) = false := decide_eq_false (by omega)
 have hdi2 : ((i : Int) = 0) = False := eq_false (by omega)
 have hdj : (i = 0) = False := eq_false (by omega)
 have hkn := ho.kids_ne hi0 hi
 rw [hxS, ha] at hkn
 have hkl := last_at hkn
 have hkm := kids_len p (a : Int)
 have hkp := List.length_pos_iff.2 hkn
 have hwl : IntKind.wrap .i64 (((kids p a).length : Int) - 1) = ((kids p a).length : Int) - 1 := wrap64 (by omega) (by omega)
 have hwt : (((kids p a).length : Int) - 1).toNat = (kids p a).length - 1 := by omega
 refine DC.intro tiOk Tryz.func177 rfl rfl rfl rfl rfl rfl rfl rfl [] ?_
 refine rg [0,1] ?_
 intro k hk; simp -dsimp [go_sem, -decide_eq_true_eq, -decide_eq_false_iff_not, hx, hy, ha, hdi, hdi2]
 repeat' first | apply And.intro | refine hk _ ?_ | intro hg | omega | exact True.intro
 all_goals clear hk k
 refine rg [0,1,5] ?_
 intro k hk; simp -dsimp [go_sem, -decide_eq_true_eq, -decide_eq_false_iff_not, hx, hy, ha, hdi, hdi2]
 repeat' first | apply And.intro | refine hk _ ?_ | intro hg | omega | exact True.intro
 all_goals clear hk k
 refine AW.seq ?_
 refine rg [0,1,5,21] ?_
 intro k hk; simp +contextual -dsimp (maxSteps := 2000000) [go_sem, -decide_eq_true_eq, -decide_eq_false_iff_not, hx, hy, ha, hdi, hdi2]
 repeat' first | apply And.intro | refine hk _ ?_ | (intro hg; try simp only [decide_eq_true_eq, decide_eq_false_iff_not] at hg) | omega | exact True.intro
 all_goals clear hk k
 all_goals (
  refine AW.cond rfl ?_ ?_
  ·intro hc; try simp at hc
   all_goals try (exfalso; omega; done)
   all_goals (
    refine rg [4] ?_
    intro k hk; simp -dsimp [go_sem, -decide_eq_true_eq, -decide_eq_false_iff_not, hx, hy, ha, hdi, hdi2]
    repeat' first | apply And.intro | refine hk _ ?_ | intro hg | omega | exact True.intro
    all_goals clear hk k
    refine rt ?_
    simp [go_sem, Tryz.results177, wants, hxS, hyS, ha, hdj, hdi2] <;> grind)
  ·intro hc; try simp at hc
   all_goals try (exfalso; omega; done)
   all_goals (
    refine AW.skipN (fun _ h => h) ?_
    refine rg [1,6] ?_
    intro k hk; simp -dsimp (maxSteps := 2000000) [go_sem, -decide_eq_true_eq, -decide_eq_false_iff_not, hx, hy, ha, hdi, hdi2]
    repeat' first | apply And.intro | refine hk _ ?_ | intro hg | (refine CallK.intro (dc_impl_kids p (a : Int) (by omega)) ?_; simp -dsimp (maxSteps := 2000000) [go_sem, -decide_eq_true_eq, -decide_eq_false_iff_not, hx, hy, ha, hdi, hdi2]) | omega | exact True.intro
    all_goals clear hk k
    refine rg [4] ?_
    intro k hk; simp -dsimp (maxSteps := 2000000) [go_sem, -decide_eq_true_eq, -decide_eq_false_iff_not, hx, hy, ha, hdi, hdi2, hkl, hwl, hwt]
    repeat' first | apply And.intro | refine hk _ ?_ | intro hg | omega | exact True.intro
    all_goals clear hk k
    refine rt ?_
    simp [go_sem, Tryz.results177, wants, hxS, hyS, ha, hdj, hdi2] <;> grind))
theorem dc_impl_wantsCond (p : List TStep) (ho : StepsOk p) (i : Nat) (hi : i < p.length) : DC Tryz.prog 177 [.isl 6 (p.map TStep.ro), .int .i64 (i : Nat)] (.bool (wants p i)) [] := by
  rcases Nat.eq_zero_or_pos i with h | h
  · subst h; exact dc_impl_wantsCond_z p ho
  · exact dc_impl_wantsCond_s p ho i hi h

/-- spec.l4Needs -/
theorem dc_spec_l4Needs_z (p : List TStep) (ho : StepsOk p) : DC Tryz.prog 167 [.isl 6 (p.map TStep.ro), .int .i64 0] (.bool (wants p 0)) [] := by
 have hi : 0 < p.length := by have := ho.len; omega
 have hlen := ho.len
 obtain ⟨x, hx⟩ := at_some hi
 have hxS := nS_at hx
 have hx0 := ho.par0
 rw [hxS] at hx0
 refine DC.intro tiOk Tryz.func167 rfl rfl rfl rfl rfl rfl rfl rfl [] ?_
 refine rg [0,1] ?_
 intro k hk; simp -dsimp [go_sem, -decide_eq_true_eq, -decide_eq_false_iff_not, hx, hx0]
 repeat' first | apply And.intro | refine hk _ ?_ | intro hg | omega | exact True.intro
 all_goals clear hk k
 refine rg [0,1,5] ?_
 intro k hk; simp -dsimp [go_sem, -decide_eq_true_eq, -decide_eq_false_iff_not, hx, hx0]
 repeat' first | apply And.intro | refine hk _ ?_ | intro hg | omega | exact True.intro
 all_goals clear hk k
 refine AW.seq ?_
 refine rg [0,1,5,21] ?_
 intro k hk; simp +contextual -dsimp (maxSteps := 2000000) [go_sem, -decide_eq_true_eq, -decide_eq_false_iff_not, hx, hx0]
 repeat' first | apply And.intro | refine hk _ ?_ | (intro hg; try simp only [decide_eq_true_eq, decide_eq_false_iff_not] at hg) | omega | exact True.intro
 all_goals clear hk k
 all_goals (
  refine AW.cond rfl ?_ ?_
  ·intro hc; try simp at hc
   all_goals try (exfalso; first | omega | (simp at hc; done); done)
   all_goals (
    refine rg [4] ?_
    intro k hk; simp -dsimp [go_sem, -decide_eq_true_eq, -decide_eq_false_iff_not, hx, hx0]
    repeat' first | apply And.intro | refine hk _ ?_ | intro hg | omega | exact True.intro
    all_goals clear hk k
    refine rt ?_
    simp [go_sem, Tryz.results167, wants])
  ·intro hc; try simp at hc
   all_goals try (exfalso; first | omega | (simp at hc; done); done)
   all_goals (
    refine AW.skipN (fun _ h => h) ?_
    refine rg [1,6] ?_
    intro k hk; simp -dsimp (maxSteps := 2000000) [go_sem, -decide_eq_true_eq, -decide_eq_false_iff_not, hx, hx0]
    repeat' first | apply And.intro | refine hk _ ?_ | intro hg | (refine CallK.intro (fail) ?_; simp -dsimp (maxSteps := 2000000) [go_sem, -decide_eq_true_eq, -decide_eq_false_iff_not, hx, hx0]) | omega | exact True.intro
    all_goals clear hk k
    refine rg [4] ?_
    intro k hk; simp -dsimp (maxSteps := 2000000) [go_sem, -decide_eq_true_eq, -decide_eq_false_iff_not, hx, hx0]
    repeat' first | apply And.intro | refine hk _ ?_ | intro hg | omega | exact True.intro
    all_goals clear hk k
    refine rt ?_
    simp [go_sem, Tryz.results167, wants]))

/-- spec.l4Needs -/
theorem dc_spec_l4Needs_s (p : List TStep) (ho : StepsOk p) (i : Nat) (hi : i < p.length) (hi0 : 0 < i) : DC Tryz.prog 167 [.isl 6 (p.map TStep.ro), .int .i64 (i : Nat)] (.bool (wants p i)) [] := by
 have hlen := ho.len
 obtain ⟨x, hx⟩ := at_some hi
 have hxS := nS_at hx
 have hpi := ho.parI hi0 hi
 rw [hxS] at hpi
 obtain ⟨a, ha⟩ : ∃ a : Nat, x.par = a := ⟨_, (Int.toNat_of_nonneg hpi.1).symm⟩
 obtain ⟨y, hy⟩ := at_some (l := p) (show a < p.length by omega)
 have hyS := nS_at hy
 have hdi : decide ((i : Int) = 0) = false := decide_eq_false (by omega)
 have hdi2 : ((i : Int) = 0) = False := eq_false (by omega)
 have hdj : (i = 0) = False := eq_false (by omega)
 have hkn := ho.kids_ne hi0 hi
 rw [hxS, ha] at hkn
 have hkl := last_at hkn
 have hkm := kids_len p (a : Int)
 have hkp := List.length_pos_iff.2 hkn
 have hwl : IntKind.wrap .i64 (((kids p a).length : Int) - 1) = ((kids p a).length : Int) - 1 := wrap64 (by omega) (by omega)
 have hwt : (((kids p a).length : Int) - 1).toNat = (kids p a).length - 1 := by omega
 refine DC.intro tiOk Tryz.func167 rfl rfl rfl rfl rfl rfl rfl rfl [] ?_
 refine rg [0,1] ?_
 intro k hk; simp -dsimp [go_sem, -decide_eq_true_eq, -decide_eq_false_iff_not, hx, hy, ha, hdi, hdi2]
 repeat' first | apply And.intro | refine hk _ ?_ | intro hg | omega | exact True.intro
 all_goals clear hk k
 refine rg [0,1,5] ?_
 intro k hk; simp -dsimp [go_sem, -decide_eq_true_eq, -decide_eq_false_iff_not, hx, hy, ha, hdi, hdi2]
 repeat' first | apply And.intro | refine hk _ ?_ | intro hg | omega | exact True.intro
 all_goals clear hk k
 refine AW.seq ?_
 refine rg [0,1,5,21] ?_
 intro k hk; simp +contextual -dsimp (maxSteps := 2000000) [go_sem, -decide_eq_true_eq, -decide_eq_false_iff_not, hx, hy, ha, hdi, hdi2]
 repeat' first | apply And.intro | refine hk _ ?_ | (intro hg; try simp only [decide_eq_true_eq, decide_eq_false_iff_not] at hg) | omega | exact True.intro
 all_goals clear hk k
 all_goals (
  refine AW.cond rfl ?_ ?_
  ·intro hc; try simp at hc
   all_goals try (exfalso; omega; done)
   all_goals (
    refine rg [4] ?_
    intro k hk; simp -dsimp [go_sem, -decide_eq_true_eq, -decide_eq_false_iff_not, hx, hy, ha, hdi, hdi2]
    repeat' first | apply And.intro | refine hk _ ?_ | intro hg | omega | exact True.intro
    all_goals clear hk k
    refine rt ?_
    simp [go_sem, Tryz.results167, wants, hxS, hyS, ha, hdj, hdi2] <;> grind)
  ·intro hc; try simp at hc
   all_goals try (exfalso; omega; done)
   all_goals (
    refine AW.skipN (fun _ h => h) ?_
    refine rg [1,6] ?_
    intro k hk; simp -dsimp (maxSteps := 2000000) [go_sem, -decide_eq_true_eq, -decide_eq_false_iff_not, hx, hy, ha, hdi, hdi2]
    repeat' first | apply And.intro | refine hk _ ?_ | intro hg | (refine CallK.intro (dc_spec_l4Kids p (a : Int) (by omega) (by rw [ho.par0]; omega)) ?_; simp -dsimp (maxSteps := 2000000) [go_sem, -decide_eq_true_eq, -decide_eq_false_iff_not, hx, hy, ha, hdi, hdi2]) | omega | exact True.intro
    all_goals clear hk k
    refine rg [4] ?_
    intro k hk; simp -dsimp (maxSteps := 2000000) [go_sem, -decide_eq_true_eq, -decide_eq_false_iff_not, hx, hy, ha, hdi, hdi2, hkl, hwl, hwt]
    repeat' first | apply And.intro | refine hk _ ?_ | intro hg | omega | exact True.intro
    all_goals clear hk k
    refine rt ?_
    simp [go_sem, Tryz.results167, wants, hxS, hyS, ha, hdj, hdi2] <;> grind))
theorem dc_spec_l4Needs (p : List TStep) (ho : StepsOk p) (i : Nat) (hi : i < p.length) : DC Tryz.prog 167 [.isl 6 (p.map TStep.ro), .int .i64 (i : Nat)] (.bool (wants p i)) [] := by
  rcases Nat.eq_zero_or_pos i with h | h
  · subst h; exact dc_spec_l4Needs_z p ho
  · exact dc_spec_l4Needs_s p ho i hi h

end Go.AM

/-! ### F1 -/
set_option linter.unusedVariables false
set_option linter.unusedSimpArgs false
set_option maxHeartbeats 600000
set_option maxRecDepth 100000
namespace Go.AM
open Go.Proofs

/-- impl.isTwo -/
theorem dc_impl_isTwo (k : Int) : DC Tryz.prog 188 [.int .i64 k] (.bool (isTwoB k)) [] := by
 refine DC.intro tiOk Tryz.func188 rfl rfl rfl rfl rfl rfl rfl rfl [] ?_
 refine rg [0] ?_
 intro k hk; simp -dsimp [go_sem, -decide_eq_true_eq, -decide_eq_false_iff_not]
 repeat' first | apply And.intro | refine hk _ ?_ | intro hg | omega | exact True.intro
 all_goals clear hk k
 refine rg [2] ?_
 intro k hk; simp -dsimp (maxSteps := 2000000) [go_sem, -decide_eq_true_eq, -decide_eq_false_iff_not]
 repeat' first | apply And.intro | refine hk _ ?_ | intro hg | (refine CallK.intro (dc_impl_inRange _ _ _) ?_; simp -dsimp (maxSteps := 2000000) [go_sem, -decide_eq_true_eq, -decide_eq_false_iff_not]) | omega | exact True.intro
 all_goals clear hk k
 refine rt ?_
 simp [go_sem, Tryz.results188, isTwoB]

/-- spec.l3Two -/
theorem dc_spec_l3Two (k : Int) : DC Tryz.prog 190 [.int .i64 k] (.bool (isTwoB k)) [] := by
 refine DC.intro tiOk Tryz.func190 rfl rfl rfl rfl rfl rfl rfl rfl [] ?_
 refine rg [0] ?_
 intro k hk; simp -dsimp [go_sem, -decide_eq_true_eq, -decide_eq_false_iff_not]
 repeat' first | apply And.intro | refine hk _ ?_ | intro hg | omega | exact True.intro
 all_goals clear hk k
 refine rg [2] ?_
 intro k hk; simp -dsimp (maxSteps := 2000000) [go_sem, -decide_eq_true_eq, -decide_eq_false_iff_not]
 repeat' first | apply And.intro | refine hk _ ?_ | intro hg | (refine CallK.intro (dc_spec_l1In _ _ _) ?_; simp -dsimp (maxSteps := 2000000) [go_sem, -decide_eq_true_eq, -decide_eq_false_iff_not]) | omega | exact True.intro
 all_goals clear hk k
 refine rt ?_
 simp [go_sem, Tryz.results190, isTwoB]

/-- impl.nodeFault -/
theorem dc_impl_nodeFault (n : TNode) (a : Int) (ha : 0 ≤ a ∧ a ≤ 1048576) : DC Tryz.prog 187 [.agg n.ro, .int .i64 a] (.int .i64 (nodeF n a)) [] := by
 have hw : IntKind.wrap .i64 (a - 1) = a - 1 := wrap64 (by omega) (by omega)
 refine DC.intro tiOk Tryz.func187 rfl rfl rfl rfl rfl rfl rfl rfl [] ?_
 refine rg [1,2] ?_
 intro k hk; simp -dsimp [go_sem, -decide_eq_true_eq, -decide_eq_false_iff_not, hw]
 repeat' first | apply And.intro | refine hk _ ?_ | intro hg | omega | exact True.intro
 all_goals clear hk k
 refine AW.seq ?_
 refine AW.block ?_
 refine rg [1,2,6] ?_
 intro k hk; simp +contextual -dsimp (maxSteps := 2000000) [go_sem, -decide_eq_true_eq, -decide_eq_false_iff_not, hw]
 repeat' first | apply And.intro | refine hk _ ?_ | (intro hg; try simp only [decide_eq_true_eq, decide_eq_false_iff_not] at hg) | omega | exact True.intro
 all_goals clear hk k
 all_goals (
  refine AW.cond rfl ?_ ?_
  ·intro hc; try simp at hc
   all_goals try (exfalso; omega; done)
   all_goals (
    refine rg [2,5] ?_
    intro k hk; simp -dsimp [go_sem, -decide_eq_true_eq, -decide_eq_false_iff_not, hw]
    repeat' first | apply And.intro | refine hk _ ?_ | intro hg | omega | exact True.intro
    all_goals clear hk k
    refine AW.seq ?_
    refine rg [2,5,17] ?_
    intro k hk; simp -dsimp [go_sem, -decide_eq_true_eq, -decide_eq_false_iff_not, hw]
    repeat' first | apply And.intro | refine hk _ ?_ | intro hg | omega | exact True.intro
    all_goals clear hk k
    refine AW.cond rfl ?_ ?_
    ·intro hc; try simp at hc
     all_goals try (exfalso; omega; done)
     all_goals (
      refine rgN [2,5] (fun _ h => h) ?_
      intro k hk; simp -dsimp [go_sem, -decide_eq_true_eq, -decide_eq_false_iff_not, hw]
      repeat' first | apply And.intro | refine hk _ ?_ | intro hg | omega | exact True.intro
      all_goals clear hk k
      refine rg [4] ?_
      intro k hk; simp +contextual -dsimp (maxSteps := 2000000) [go_sem, -decide_eq_true_eq, -decide_eq_false_iff_not, hw]
      repeat' first | apply And.intro | (refine Chk.keys ?_; simp only [go_sem, List.map_cons, List.map_nil, List.flatMap_cons, List.flatMap_nil, List.flatMap_append, List.append_nil, List.nil_append, List.cons_append]; decide +kernel) | refine hk _ ?_ | (intro hg; try simp only [decide_eq_true_eq, decide_eq_false_iff_not] at hg) | ((first | refine CallK.intro (dc_impl_codeIf _ _) ?_ | refine CallK.intro (dc_impl_inRange _ _ _) ?_ | refine CallK.intro (dc_impl_firstCode [_, _] (by simp)) ?_ | refine CallK.intro (dc_impl_firstCode [_, _, _] (by simp)) ?_ | refine CallK.intro (dc_impl_firstCode [_, _, _, _] (by simp)) ?_); simp +contextual -dsimp (maxSteps := 2000000) [go_sem, -decide_eq_true_eq, -decide_eq_false_iff_not, hw]) | omega | exact True.intro
      all_goals clear hk k
      all_goals (
       refine rt ?_
       simp [go_sem, Tryz.results187, nodeF, firstC_cons, firstC_nil, inR, isTwoB] at * <;> grind))
    ·intro hc; try simp at hc
     all_goals try (exfalso; omega; done)
     all_goals (
      refine AW.skipN (fun _ h => h) ?_
      refine rg [4] ?_
      intro k hk; simp +contextual -dsimp (maxSteps := 2000000) [go_sem, -decide_eq_true_eq, -decide_eq_false_iff_not, hw]
      repeat' first | apply And.intro | (refine Chk.keys ?_; simp only [go_sem, List.map_cons, List.map_nil, List.flatMap_cons, List.flatMap_nil, List.flatMap_append, List.append_nil, List.nil_append, List.cons_append]; decide +kernel) | refine hk _ ?_ | (intro hg; try simp only [decide_eq_true_eq, decide_eq_false_iff_not] at hg) | ((first | refine CallK.intro (dc_impl_codeIf _ _) ?_ | refine CallK.intro (dc_impl_inRange _ _ _) ?_ | refine CallK.intro (dc_impl_firstCode [_, _] (by simp)) ?_ | refine CallK.intro (dc_impl_firstCode [_, _, _] (by simp)) ?_ | refine CallK.intro (dc_impl_firstCode [_, _, _, _] (by simp)) ?_); simp +contextual -dsimp (maxSteps := 2000000) [go_sem, -decide_eq_true_eq, -decide_eq_false_iff_not, hw]) | omega | exact True.intro
      all_goals clear hk k
      all_goals (
       refine rt ?_
       simp [go_sem, Tryz.results187, nodeF, firstC_cons, firstC_nil, inR, isTwoB] at * <;> grind)))
  ·intro hc; try simp at hc
   all_goals try (exfalso; omega; done)
   all_goals (
    refine rg [1,2,35] ?_
    intro k hk; simp -dsimp [go_sem, -decide_eq_true_eq, -decide_eq_false_iff_not, hw]
    repeat' first | apply And.intro | refine hk _ ?_ | intro hg | omega | exact True.intro
    all_goals clear hk k
    refine AW.cond rfl ?_ ?_
    ·intro hc; try simp at hc
     all_goals try (exfalso; omega; done)
     all_goals (
      refine rg [4] ?_
      intro k hk; simp +contextual -dsimp (maxSteps := 2000000) [go_sem, -decide_eq_true_eq, -decide_eq_false_iff_not, hw]
      repeat' first | apply And.intro | (refine Chk.keys ?_; simp only [go_sem, List.map_cons, List.map_nil, List.flatMap_cons, List.flatMap_nil, List.flatMap_append, List.append_nil, List.nil_append, List.cons_append]; decide +kernel) | refine hk _ ?_ | (intro hg; try simp only [decide_eq_true_eq, decide_eq_false_iff_not] at hg) | ((first | refine CallK.intro (dc_impl_codeIf _ _) ?_ | refine CallK.intro (dc_impl_inRange _ _ _) ?_ | refine CallK.intro (dc_impl_firstCode [_, _] (by simp)) ?_ | refine CallK.intro (dc_impl_firstCode [_, _, _] (by simp)) ?_ | refine CallK.intro (dc_impl_firstCode [_, _, _, _] (by simp)) ?_); simp +contextual -dsimp (maxSteps := 2000000) [go_sem, -decide_eq_true_eq, -decide_eq_false_iff_not, hw]) | omega | exact True.intro
      all_goals clear hk k
      all_goals (
       refine rt ?_
       simp [go_sem, Tryz.results187, nodeF, firstC_cons, firstC_nil, inR, isTwoB] at * <;> grind))
    ·intro hc; try simp at hc
     all_goals try (exfalso; omega; done)
     all_goals (
      refine rg [1,2,57] ?_
      intro k hk; simp -dsimp (maxSteps := 2000000) [go_sem, -decide_eq_true_eq, -decide_eq_false_iff_not, hw]
      repeat' first | apply And.intro | refine hk _ ?_ | intro hg | (refine CallK.intro (dc_impl_isTwo _) ?_; simp -dsimp (maxSteps := 2000000) [go_sem, -decide_eq_true_eq, -decide_eq_false_iff_not, hw]) | omega | exact True.intro
      all_goals clear hk k
      refine AW.cond rfl ?_ ?_
      ·intro hc; try simp at hc
       all_goals try (exfalso; omega; done)
       all_goals (
        refine rg [4] ?_
        intro k hk; simp +contextual -dsimp (maxSteps := 2000000) [go_sem, -decide_eq_true_eq, -decide_eq_false_iff_not, hw]
        repeat' first | apply And.intro | (refine Chk.keys ?_; simp only [go_sem, List.map_cons, List.map_nil, List.flatMap_cons, List.flatMap_nil, List.flatMap_append, List.append_nil, List.nil_append, List.cons_append]; decide +kernel) | refine hk _ ?_ | (intro hg; try simp only [decide_eq_true_eq, decide_eq_false_iff_not] at hg) | ((first | refine CallK.intro (dc_impl_codeIf _ _) ?_ | refine CallK.intro (dc_impl_inRange _ _ _) ?_ | refine CallK.intro (dc_impl_firstCode [_, _] (by simp)) ?_ | refine CallK.intro (dc_impl_firstCode [_, _, _] (by simp)) ?_ | refine CallK.intro (dc_impl_firstCode [_, _, _, _] (by simp)) ?_); simp +contextual -dsimp (maxSteps := 2000000) [go_sem, -decide_eq_true_eq, -decide_eq_false_iff_not, hw]) | omega | exact True.intro
        all_goals clear hk k
        all_goals (
         refine rt ?_
         simp [go_sem, Tryz.results187, nodeF, firstC_cons, firstC_nil, inR, isTwoB] at * <;> grind))
      ·intro hc; try simp at hc
       all_goals try (exfalso; omega; done)
       all_goals (
        refine AW.skipN (fun _ h => h) ?_
        refine rg [4] ?_
        intro k hk; simp -dsimp [go_sem, -decide_eq_true_eq, -decide_eq_false_iff_not, hw]
        repeat' first | apply And.intro | refine hk _ ?_ | intro hg | omega | exact True.intro
        all_goals clear hk k
        refine rt ?_
        simp [go_sem, Tryz.results187, nodeF, firstC_cons, firstC_nil, inR, isTwoB] at * <;> grind))))

set_option maxHeartbeats 2000000 in
/-- spec.l3Node -/
theorem dc_spec_l3Node (n : TNode) (a : Int) (ha : 0 ≤ a ∧ a ≤ 1048576) : DC Tryz.prog 182 [.ip n.ro, .int .i64 a] (.int .i64 (nodeF n a)) [] := by
 have hw : IntKind.wrap .i64 (a - 1) = a - 1 := wrap64 (by omega) (by omega)
 refine DC.intro tiOk Tryz.func182 rfl rfl rfl rfl rfl rfl rfl rfl [] ?_
 refine rg [0,1] ?_
 intro k hk; simp -dsimp [go_sem, -decide_eq_true_eq, -decide_eq_false_iff_not, hw]
 repeat' first | apply And.intro | refine hk _ ?_ | intro hg | omega | exact True.intro
 all_goals clear hk k
 refine AW.seq ?_
 refine rg [0,1,11] ?_
 intro k hk; simp -dsimp (maxSteps := 2000000) [go_sem, -decide_eq_true_eq, -decide_eq_false_iff_not, hw]
 repeat' first | apply And.intro | refine hk _ ?_ | intro hg | (refine CallK.intro (dc_spec_l1In _ _ _) ?_; simp -dsimp (maxSteps := 2000000) [go_sem, -decide_eq_true_eq, -decide_eq_false_iff_not, hw]) | omega | exact True.intro
 all_goals clear hk k
 refine AW.cond rfl ?_ ?_
 ·intro hc; try simp at hc
  all_goals try (exfalso; omega; done)
  all_goals (
   refine rg [4] ?_
   intro k hk; simp -dsimp [go_sem, -decide_eq_true_eq, -decide_eq_false_iff_not, hw]
   repeat' first | apply And.intro | refine hk _ ?_ | intro hg | omega | exact True.intro
   all_goals clear hk k
   refine rt ?_
   simp [go_sem, Tryz.results182, nodeF, firstC_cons, firstC_nil, inR, isTwoB] at * <;> grind)
 ·intro hc; try simp at hc
  all_goals try (exfalso; omega; done)
  all_goals (
   refine AW.skipN (fun _ h => h) ?_
   refine rg [0,1,5] ?_
   intro k hk; simp -dsimp [go_sem, -decide_eq_true_eq, -decide_eq_false_iff_not, hw]
   repeat' first | apply And.intro | refine hk _ ?_ | intro hg | omega | exact True.intro
   all_goals clear hk k
   refine AW.seq ?_
   refine AW.cut ⟨114, [(0, .ip n.ro), (1, .int .i64 a), (5, .bool (decide (n.kind ≤ 2))), (56, .bool (decide ((n.kind ≤ 2 ∧ (n.left ≠ 0 ∨ n.right ≠ 0)) ∨ (2 < n.kind ∧ n.val ≠ 0) ∨ (n.kind = 10 ∧ n.right ≠ 0))))], []⟩ ?_ ?_
   ·skip
    refine rgK ?_
    intro k hk; simp +contextual -dsimp (maxSteps := 2000000) [go_sem, -decide_eq_true_eq, -decide_eq_false_iff_not, hw]
    repeat' first | apply And.intro | refine hk _ ?_ | (intro hg; try simp only [decide_eq_true_eq, decide_eq_false_iff_not] at hg) | omega | exact True.intro
    all_goals clear hk k
    all_goals (show St.Less _ _; exact Less.of rfl (by simp [go_sem] <;> first | omega | grind) (by simp [go_sem]))
   ·skip
    refine AW.cond rfl ?_ ?_
    ·intro hc; try simp at hc
     all_goals try (exfalso; omega; done)
     all_goals (
      refine rg [4] ?_
      intro k hk; simp -dsimp [go_sem, -decide_eq_true_eq, -decide_eq_false_iff_not, hw]
      repeat' first | apply And.intro | refine hk _ ?_ | intro hg | omega | exact True.intro
      all_goals clear hk k
      refine rt ?_
      simp [go_sem, Tryz.results182, nodeF, firstC_cons, firstC_nil, inR, isTwoB] at * <;> grind)
    ·intro hc; try simp at hc
     all_goals try (exfalso; omega; done)
     all_goals (
      refine AW.skipN (fun _ h => h) ?_
      refine AW.seq ?_
      refine AW.cut ⟨114, [(0, .ip n.ro), (1, .int .i64 a), (5, .bool (decide (n.kind ≤ 2))), (84, .bool (decide ((n.kind = 1 ∧ (n.val < 0 ∨ 9999 < n.val)) ∨ (n.kind = 2 ∧ (n.val < 0 ∨ 3 < n.val)))))], []⟩ ?_ ?_
      ·skip
       refine rgK ?_
       intro k hk; simp +contextual -dsimp (maxSteps := 2000000) [go_sem, -decide_eq_true_eq, -decide_eq_false_iff_not, hw]
       repeat' first | apply And.intro | refine hk _ ?_ | (intro hg; try simp only [decide_eq_true_eq, decide_eq_false_iff_not] at hg) | (refine CallK.intro (dc_spec_l1In _ _ _) ?_; simp +contextual -dsimp (maxSteps := 2000000) [go_sem, -decide_eq_true_eq, -decide_eq_false_iff_not, hw]) | omega | exact True.intro
       all_goals clear hk k
       all_goals (show St.Less _ _; exact Less.of rfl (by simp [go_sem, inR] <;> first | omega | grind [inR]) (by simp [go_sem]))
      ·skip
       refine AW.cond rfl ?_ ?_
       ·intro hc; try simp at hc
        all_goals try (exfalso; omega; done)
        all_goals (
         refine rg [4] ?_
         intro k hk; simp -dsimp [go_sem, -decide_eq_true_eq, -decide_eq_false_iff_not, hw]
         repeat' first | apply And.intro | refine hk _ ?_ | intro hg | omega | exact True.intro
         all_goals clear hk k
         refine rt ?_
         simp [go_sem, Tryz.results182, nodeF, firstC_cons, firstC_nil, inR, isTwoB] at * <;> grind)
       ·intro hc; try simp at hc
        all_goals try (exfalso; omega; done)
        all_goals (
         refine AW.skipN (fun _ h => h) ?_
         refine AW.seq ?_
         refine rg [113] ?_
         intro k hk; simp +contextual -dsimp (maxSteps := 2000000) [go_sem, -decide_eq_true_eq, -decide_eq_false_iff_not, hw]
         repeat' first | apply And.intro | refine hk _ ?_ | (intro hg; try simp only [decide_eq_true_eq, decide_eq_false_iff_not] at hg) | ((first | refine CallK.intro (dc_spec_l1In _ _ _) ?_ | refine CallK.intro (dc_spec_l3Two _) ?_); simp +contextual -dsimp (maxSteps := 2000000) [go_sem, -decide_eq_true_eq, -decide_eq_false_iff_not, hw]) | omega | exact True.intro
         all_goals clear hk k
         all_goals (
          refine AW.cond rfl ?_ ?_
          ·intro hc; try simp at hc
           all_goals try (exfalso; omega; done)
           all_goals (
            refine rg [4] ?_
            intro k hk; simp -dsimp [go_sem, -decide_eq_true_eq, -decide_eq_false_iff_not, hw]
            repeat' first | apply And.intro | refine hk _ ?_ | intro hg | omega | exact True.intro
            all_goals clear hk k
            refine rt ?_
            simp [go_sem, Tryz.results182, nodeF, firstC_cons, firstC_nil, inR, isTwoB] at * <;> grind)
          ·intro hc; try simp at hc
           all_goals try (exfalso; omega; done)
           all_goals (
            refine AW.skipN (fun _ h => h) ?_
            refine rg [4] ?_
            intro k hk; simp -dsimp [go_sem, -decide_eq_true_eq, -decide_eq_false_iff_not, hw]
            repeat' first | apply And.intro | refine hk _ ?_ | intro hg | omega | exact True.intro
            all_goals clear hk k
            refine rt ?_
            simp [go_sem, Tryz.results182, nodeF, firstC_cons, firstC_nil, inR, isTwoB] at * <;> grind)))))

end Go.AM

/-! ### F2 -/
set_option linter.unusedVariables false
set_option linter.unusedSimpArgs false
set_option maxHeartbeats 600000
set_option maxRecDepth 100000
namespace Go.AM
open Go.Proofs

/-- impl.ExprFault -/
theorem dc_impl_ExprFault (e : List TNode) (he : e.length ≤ 9223372036854775807) : DC Tryz.prog 174 [.isl 4 (e.map TNode.ro)] (.int .i64 (exprF e)) [] := by
 refine DC.intro tiOk Tryz.func174 rfl rfl rfl rfl rfl rfl rfl rfl [] ?_
 refine rg [0] ?_
 intro k hk; simp -dsimp [go_sem, -decide_eq_true_eq, -decide_eq_false_iff_not]
 repeat' first | apply And.intro | refine hk _ ?_ | intro hg | omega | exact True.intro
 all_goals clear hk k
 refine AW.seq ?_
 refine rg [0,15] ?_
 intro k hk; simp -dsimp (maxSteps := 2000000) [go_sem, -decide_eq_true_eq, -decide_eq_false_iff_not]
 repeat' first | apply And.intro | refine hk _ ?_ | intro hg | (refine CallK.intro (dc_impl_inRange _ _ _) ?_; simp -dsimp (maxSteps := 2000000) [go_sem, -decide_eq_true_eq, -decide_eq_false_iff_not]) | omega | exact True.intro
 all_goals clear hk k
 refine AW.cond rfl ?_ ?_
 ·intro hc; try simp at hc
  all_goals (
   refine rg [2] ?_
   intro k hk; simp -dsimp [go_sem, -decide_eq_true_eq, -decide_eq_false_iff_not]
   repeat' first | apply And.intro | refine hk _ ?_ | intro hg | omega | exact True.intro
   all_goals clear hk k
   refine rt ?_
   first | (rw [exprF_len (by simpa using hc)]; simp [go_sem, Tryz.results174]; done) | (rw [exprF_node hR hlt hall (by rw [hxn]; assumption), hxn]; simp [go_sem, Tryz.results174]; done) | (rw [exprF_end hR hN]; simp [go_sem, Tryz.results174] <;> grind))
 ·intro hc; try simp at hc
  all_goals (
   refine AW.skipN (fun _ h => h) ?_
   refine AW.seq ?_
   have hR : inR e.length 1 16 = true := by simpa using hc
   have hlen := inR_iff.1 hR
   refine rg [0,16,17,18] ?_
   intro k hk; simp -dsimp [go_sem, -decide_eq_true_eq, -decide_eq_false_iff_not]
   repeat' first | apply And.intro | refine hk _ ?_ | intro hg | omega | exact True.intro
   all_goals clear hk k
   refine AW.block ?_
   refine AW.loopI (fun i : Nat => ⟨112, [(0, .isl 4 (e.map TNode.ro)), (16, .isl 4 (e.map TNode.ro)), (17, .int .i64 e.length), (18, .int .i64 i)], []⟩) (fun i => i ≤ e.length ∧ ∀ k, k < i → nodeAt e k = 0) (fun i => e.length - i) (0) (by simp) (Less.of rfl (by simp [go_sem]) (by simp [go_sem])) ?_
   rintro i ⟨hi, hall⟩
   refine rg [0,16,17,18,19] ?_
   intro k hk; simp -dsimp [go_sem, -decide_eq_true_eq, -decide_eq_false_iff_not]
   repeat' first | apply And.intro | refine hk _ ?_ | intro hg | omega | exact True.intro
   all_goals clear hk k
   refine AW.seq ?_
   refine AW.cond rfl ?_ ?_
   ·intro hc; try simp at hc
    all_goals (
     have hlt : i < e.length := by assumption
     obtain ⟨x, hx⟩ := at_some hlt
     have hxn := nodeAt_at hx
     refine AW.skipN (fun _ h => h) ?_
     refine AW.seq ?_
     refine AW.block ?_
     refine rg [0,3,4,16,17,18] ?_
     intro k hk; simp -dsimp [go_sem, -decide_eq_true_eq, -decide_eq_false_iff_not, hx]
     repeat' first | apply And.intro | refine hk _ ?_ | intro hg | omega | exact True.intro
     all_goals clear hk k
     refine rg [0,5,16,17,18] ?_
     intro k hk; simp -dsimp (maxSteps := 2000000) [go_sem, -decide_eq_true_eq, -decide_eq_false_iff_not, hx]
     repeat' first | apply And.intro | refine hk _ ?_ | intro hg | (refine CallK.intro (dc_impl_nodeFault x i (by omega)) ?_; simp -dsimp (maxSteps := 2000000) [go_sem, -decide_eq_true_eq, -decide_eq_false_iff_not, hx]) | omega | exact True.intro
     all_goals clear hk k
     refine rg [0,5,16,17,18,27] ?_
     intro k hk; simp -dsimp [go_sem, -decide_eq_true_eq, -decide_eq_false_iff_not, hx]
     repeat' first | apply And.intro | refine hk _ ?_ | intro hg | omega | exact True.intro
     all_goals clear hk k
     refine AW.cond rfl ?_ ?_
     ·intro hc; try simp at hc
      all_goals (
       refine rg [2] ?_
       intro k hk; simp -dsimp [go_sem, -decide_eq_true_eq, -decide_eq_false_iff_not, hx]
       repeat' first | apply And.intro | refine hk _ ?_ | intro hg | omega | exact True.intro
       all_goals clear hk k
       refine rt ?_
       first | (rw [exprF_len (by simpa using hc)]; simp [go_sem, Tryz.results174]; done) | (rw [exprF_node hR hlt hall (by rw [hxn]; assumption), hxn]; simp [go_sem, Tryz.results174]; done) | (rw [exprF_end hR hN]; simp [go_sem, Tryz.results174] <;> grind))
     ·intro hc; try simp at hc
      all_goals (
       refine AW.skipN (fun _ h => h) ?_
       refine rgK ?_
       intro k hk; simp -dsimp [go_sem, -decide_eq_true_eq, -decide_eq_false_iff_not, hx]
       repeat' first | apply And.intro | refine hk _ ?_ | intro hg | omega | exact True.intro
       all_goals clear hk k
       show ∃ _, _
       have hw := wrapi hlt (by omega)
       refine ⟨i + 1, ⟨by omega, upto hall (by rw [hxn]; first | assumption | simpa using hc)⟩, by omega, Less.of rfl (by simp [go_sem, hw]) (by simp [go_sem])⟩))
   ·intro hc; try simp at hc
    all_goals (
     refine AW.exitN (fun _ h => h) ?_
     have hN : ∀ k, k < e.length → nodeAt e k = 0 := fun k hk => hall k (by omega)
     have hP : PartsOk e e.length := hN
     refine rg [0,6,7] ?_
     intro k hk; simp -dsimp [go_sem, -decide_eq_true_eq, -decide_eq_false_iff_not]
     repeat' first | apply And.intro | refine hk _ ?_ | intro hg | omega | exact True.intro
     all_goals clear hk k
     refine AW.seq ?_
     refine rg [0,6,7,31,32,33] ?_
     intro k hk; simp -dsimp [go_sem, -decide_eq_true_eq, -decide_eq_false_iff_not]
     repeat' first | apply And.intro | refine hk _ ?_ | intro hg | omega | exact True.intro
     all_goals clear hk k
     refine AW.block ?_
     refine AW.rename (nd := ?nd_1) 30 97 ?h1_1 ?h2_1 ?h4_1 ?kk_1
     (case h1_1 => exact rfl)
     (case h2_1 => simp [go_sem])
     (case h4_1 => simp [go_sem])
     refine AW.loopI (fun i : Nat => ⟨112, [(0, .isl 4 (e.map TNode.ro)), (6, .sl 97 1 0 i), (7, .bool (wrongU e i)), (31, .isl 4 (e.map TNode.ro)), (32, .int .i64 e.length), (33, .int .i64 i)], [(97, some ⟨1, (sizesL e i).map I1⟩)]⟩) (fun i => i ≤ e.length) (fun i => e.length - i) (0) (by simp) (Less.of rfl (by simp [go_sem, wrongU]) (by simp [go_sem, sizesL])) ?_
     rintro i hi
     refine AW.rename (nd := ?nd_2) 97 30 ?h1_2 ?h2_2 ?h4_2 ?kk_2
     (case h1_2 => exact rfl)
     (case h2_2 => simp [go_sem])
     (case h4_2 => simp [go_sem])
     refine rg [0,6,7,31,32,33,34] ?_
     intro k hk; simp -dsimp [go_sem, -decide_eq_true_eq, -decide_eq_false_iff_not]
     repeat' first | apply And.intro | refine hk _ ?_ | intro hg | omega | exact True.intro
     all_goals clear hk k
     refine AW.seq ?_
     refine AW.cond rfl ?_ ?_
     ·intro hc; try simp at hc
      all_goals (
       have hlt : i < e.length := by assumption
       obtain ⟨x, hx⟩ := at_some hlt
       have hxn := nodeAt_at hx
       have hpx := hN i hlt
       rw [hxn] at hpx
       have hq := nodeF_parts hpx
       have hsl := sizesL_len e i
       have htk : List.take i ((sizesL e i).map I1) = (sizesL e i).map I1 := List.take_of_length_le (by simp [hsl])
       have hszA := szA_at hx hpx
       have hwrA := wrongU_at hx
       have hsbi := sz_bd hP hlt (by omega)
       have hwi : IntKind.wrap .i64 ((i : Int) - 1) = (i : Int) - 1 := wrap64 (by omega) (by omega)
       refine AW.skipN (fun _ h => h) ?_
       refine AW.seq ?_
       refine AW.block ?_
       refine rg [0,6,7,8,9,31,32,33] ?_
       intro k hk; simp -dsimp [go_sem, -decide_eq_true_eq, -decide_eq_false_iff_not, hx, hwi, hsl]
       repeat' first | apply And.intro | refine hk _ ?_ | intro hg | omega | exact True.intro
       all_goals clear hk k
       refine rg [0,6,7,9,10,11,31,32,33] ?_
       intro k hk; simp -dsimp [go_sem, -decide_eq_true_eq, -decide_eq_false_iff_not, hx, hwi, hsl]
       repeat' first | apply And.intro | refine hk _ ?_ | intro hg | omega | exact True.intro
       all_goals clear hk k
       refine AW.seq ?_
       refine AW.block ?_
       refine rg [0,6,7,9,10,11,31,32,33,40] ?_
       intro k hk; simp -dsimp [go_sem, -decide_eq_true_eq, -decide_eq_false_iff_not, hx, hwi, hsl]
       repeat' first | apply And.intro | refine hk _ ?_ | intro hg | omega | exact True.intro
       all_goals clear hk k
       refine AW.cond rfl ?_ ?_
       ·intro hc; try simp at hc
        all_goals (
         have hk : x.kind = 10 := by simpa using hc
         have hl := hq.1 hk
         have hsA := sizesL_at (e := e) hl.2
         have hsb := sz_bd hP (i := x.left.toNat) (by omega) (by omega)
         have hw1 : IntKind.wrap .i64 (1 + szA e x.left.toNat) = 1 + szA e x.left.toNat := wrap64 (by omega) (by omega)
         refine rg [0,6,7,9,11,31,32,33] ?_
         intro k hk; simp +contextual -dsimp (maxSteps := 2000000) [go_sem, -decide_eq_true_eq, -decide_eq_false_iff_not, hx, hwi, hsl, hsA]
         repeat' first | apply And.intro | refine hk _ ?_ | (intro hg; try simp only [decide_eq_true_eq, decide_eq_false_iff_not] at hg) | omega | exact True.intro
         all_goals clear hk k
         all_goals (
          refine rgN [0,6,7,11,31,32,33] (fun _ h => h) ?_
          intro k hk; simp -dsimp (maxSteps := 2000000) [go_sem, -decide_eq_true_eq, -decide_eq_false_iff_not, hx, hwi, hsl, hsA, hw1]
          repeat' first | apply And.intro | refine hk _ ?_ | intro hg | omega | exact True.intro
          all_goals clear hk k
          refine rgN [0,6,7,31,32,33] (fun _ h => h) ?_
          intro k hk; simp -dsimp [go_sem, -decide_eq_true_eq, -decide_eq_false_iff_not, hx, hwi, hsl]
          repeat' first | apply And.intro | refine hk _ ?_ | intro hg | omega | exact True.intro
          all_goals clear hk k
          refine rgK ?_
          intro k hk; simp -dsimp [go_sem, -decide_eq_true_eq, -decide_eq_false_iff_not, hx, hwi, hsl]
          repeat' first | apply And.intro | refine hk _ ?_ | intro hg | omega | exact True.intro
          all_goals clear hk k
          show ∃ _, _
          have hw := wrapi hlt (by omega)
          refine ⟨i + 1, by omega, by omega, Less.of rfl (by simp [go_sem, hw, hwrA, *]) (by simp [go_sem, sizesL_succ, hszA, *])⟩))
       ·intro hc; try simp at hc
        all_goals (
         refine rg [0,6,7,9,10,11,31,32,33,58] ?_
         intro k hk; simp -dsimp (maxSteps := 2000000) [go_sem, -decide_eq_true_eq, -decide_eq_false_iff_not, hx, hwi, hsl]
         repeat' first | apply And.intro | refine hk _ ?_ | intro hg | (refine CallK.intro (dc_impl_isTwo _) ?_; simp -dsimp (maxSteps := 2000000) [go_sem, -decide_eq_true_eq, -decide_eq_false_iff_not, hx, hwi, hsl]) | omega | exact True.intro
         all_goals clear hk k
         refine AW.cond rfl ?_ ?_
         ·intro hc; try simp at hc
          all_goals (
           have hk : isTwoB x.kind = true := by simpa using hc
           have hl := hq.2.1 hk
           have hsA := sizesL_at (e := e) hl.2.1
           have hsB := sizesL_at (e := e) hl.2.2.2
           have hsb := sz_bd hP (i := x.left.toNat) (by omega) (by omega)
           have hsb2 := sz_bd hP (i := x.right.toNat) (by omega) (by omega)
           have hw1 : IntKind.wrap .i64 (szA e x.left.toNat + szA e x.right.toNat) = szA e x.left.toNat + szA e x.right.toNat := wrap64 (by omega) (by omega)
           have hw2 : IntKind.wrap .i64 (1 + (szA e x.left.toNat + szA e x.right.toNat)) = 1 + (szA e x.left.toNat + szA e x.right.toNat) := wrap64 (by omega) (by omega)
           have hw3 : IntKind.wrap .i64 ((i : Int) - 1 - szA e x.right.toNat) = (i : Int) - 1 - szA e x.right.toNat := wrap64 (by omega) (by omega)
           refine rg [0,6,7,9,11,31,32,33] ?_
           intro k hk; simp +contextual -dsimp (maxSteps := 2000000) [go_sem, -decide_eq_true_eq, -decide_eq_false_iff_not, hx, hwi, hsl, hsA, hsB, hw3]
           repeat' first | apply And.intro | (refine Chk.keys ?_; simp only [go_sem, List.map_cons, List.map_nil, List.flatMap_cons, List.flatMap_nil, List.flatMap_append, List.append_nil, List.nil_append, List.cons_append]; decide +kernel) | refine hk _ ?_ | (intro hg; try simp only [decide_eq_true_eq, decide_eq_false_iff_not] at hg) | omega | exact True.intro
           all_goals clear hk k
           all_goals (
            refine rgN [0,6,7,11,31,32,33] (fun _ h => h) ?_
            intro k hk; simp -dsimp (maxSteps := 2000000) [go_sem, -decide_eq_true_eq, -decide_eq_false_iff_not, hx, hwi, hsl, hsA, hsB, hw1, hw2]
            repeat' first | apply And.intro | (refine Chk.keys ?_; simp only [go_sem, List.map_cons, List.map_nil, List.flatMap_cons, List.flatMap_nil, List.flatMap_append, List.append_nil, List.nil_append, List.cons_append]; decide +kernel) | refine hk _ ?_ | intro hg | omega | exact True.intro
            all_goals clear hk k
            refine rgN [0,6,7,31,32,33] (fun _ h => h) ?_
            intro k hk; simp -dsimp [go_sem, -decide_eq_true_eq, -decide_eq_false_iff_not, hx, hwi, hsl]
            repeat' first | apply And.intro | refine hk _ ?_ | intro hg | omega | exact True.intro
            all_goals clear hk k
            refine rgK ?_
            intro k hk; simp -dsimp [go_sem, -decide_eq_true_eq, -decide_eq_false_iff_not, hx, hwi, hsl]
            repeat' first | apply And.intro | refine hk _ ?_ | intro hg | omega | exact True.intro
            all_goals clear hk k
            show ∃ _, _
            have hw := wrapi hlt (by omega)
            refine ⟨i + 1, by omega, by omega, Less.of rfl (by simp [go_sem, hw, hwrA, *]) (by simp [go_sem, sizesL_succ, hszA, *])⟩))
         ·intro hc; try simp at hc
          all_goals (
           refine AW.skipN (fun _ h => h) ?_
           refine rgN [0,6,7,31,32,33] (fun _ h => h) ?_
           intro k hk; simp -dsimp [go_sem, -decide_eq_true_eq, -decide_eq_false_iff_not, hx, hwi, hsl]
           repeat' first | apply And.intro | refine hk _ ?_ | intro hg | omega | exact True.intro
           all_goals clear hk k
           refine rgK ?_
           intro k hk; simp -dsimp [go_sem, -decide_eq_true_eq, -decide_eq_false_iff_not, hx, hwi, hsl]
           repeat' first | apply And.intro | refine hk _ ?_ | intro hg | omega | exact True.intro
           all_goals clear hk k
           show ∃ _, _
           have hw := wrapi hlt (by omega)
           refine ⟨i + 1, by omega, by omega, Less.of rfl (by simp [go_sem, hw, hwrA, *]) (by simp [go_sem, sizesL_succ, hszA, *])⟩)))
     ·intro hc; try simp at hc
      all_goals (
       refine AW.exitN (fun _ h => h) ?_
       have hie : i = e.length := by omega
       subst hie
       have hsl := sizesL_len e e.length
       have hlast := sizesL_at (e := e) (show e.length - 1 < e.length by omega)
       have hwl : IntKind.wrap .i64 ((e.length : Int) - 1) = (e.length : Int) - 1 := wrap64 (by omega) (by omega)
       have hwt : ((e.length : Int) - 1).toNat = e.length - 1 := by omega
       refine rg [2] ?_
       intro k hk; simp +contextual -dsimp (maxSteps := 2000000) [go_sem, -decide_eq_true_eq, -decide_eq_false_iff_not, hwl, hwt, hlast, hsl]
       repeat' first | apply And.intro | refine hk _ ?_ | (intro hg; try simp only [decide_eq_true_eq, decide_eq_false_iff_not] at hg) | (refine CallK.intro (dc_impl_codeIf _ _) ?_; simp +contextual -dsimp (maxSteps := 2000000) [go_sem, -decide_eq_true_eq, -decide_eq_false_iff_not, hwl, hwt, hlast, hsl]) | omega | exact True.intro
       all_goals clear hk k
       all_goals (
        refine rt ?_
        first | (rw [exprF_len (by simpa using hc)]; simp [go_sem, Tryz.results174]; done) | (rw [exprF_node hR hlt hall (by rw [hxn]; assumption), hxn]; simp [go_sem, Tryz.results174]; done) | (rw [exprF_end hR hN]; simp [go_sem, Tryz.results174] <;> grind)))))

end Go.AM

/-! ### F5 -/
set_option linter.unusedVariables false
set_option linter.unusedSimpArgs false
set_option maxHeartbeats 600000
set_option maxRecDepth 100000
namespace Go.AM
open Go.Proofs

/-- impl.partType -/
theorem dc_impl_partType (k : Int) : DC Tryz.prog 189 [.int .i64 k] (.tup [.int .i64 (partT k), .int .i64 (ownT k)]) [] := by
 refine DC.intro tiOk Tryz.func189 rfl rfl rfl rfl rfl rfl rfl rfl [] ?_
 refine rg [0] ?_
 intro k hk; simp -dsimp [go_sem, -decide_eq_true_eq, -decide_eq_false_iff_not]
 repeat' first | apply And.intro | refine hk _ ?_ | intro hg | omega | exact True.intro
 all_goals clear hk k
 refine AW.seq ?_
 refine AW.block ?_
 refine rg [0,4] ?_
 intro k hk; simp -dsimp [go_sem, -decide_eq_true_eq, -decide_eq_false_iff_not]
 repeat' first | apply And.intro | refine hk _ ?_ | intro hg | omega | exact True.intro
 all_goals clear hk k
 refine AW.cond rfl ?_ ?_
 ·intro hc; try simp at hc
  all_goals (
   refine rg [2,3] ?_
   intro k hk; simp -dsimp [go_sem, -decide_eq_true_eq, -decide_eq_false_iff_not]
   repeat' first | apply And.intro | refine hk _ ?_ | intro hg | omega | exact True.intro
   all_goals clear hk k
   refine rt ?_
   simp [go_sem, Tryz.results189, partT, ownT] <;> grind)
 ·intro hc; try simp at hc
  all_goals (
   refine rg [7] ?_
   intro k hk; simp -dsimp [go_sem, -decide_eq_true_eq, -decide_eq_false_iff_not]
   repeat' first | apply And.intro | refine hk _ ?_ | intro hg | omega | exact True.intro
   all_goals clear hk k
   refine AW.cond rfl ?_ ?_
   ·intro hc; try simp at hc
    all_goals (
     refine rg [2,3] ?_
     intro k hk; simp -dsimp [go_sem, -decide_eq_true_eq, -decide_eq_false_iff_not]
     repeat' first | apply And.intro | refine hk _ ?_ | intro hg | omega | exact True.intro
     all_goals clear hk k
     refine rt ?_
     simp [go_sem, Tryz.results189, partT, ownT] <;> grind)
   ·intro hc; try simp at hc
    all_goals (
     refine AW.skipN (fun _ h => h) ?_
     refine rg [2,3] ?_
     intro k hk; simp -dsimp [go_sem, -decide_eq_true_eq, -decide_eq_false_iff_not]
     repeat' first | apply And.intro | refine hk _ ?_ | intro hg | omega | exact True.intro
     all_goals clear hk k
     refine rt ?_
     simp [go_sem, Tryz.results189, partT, ownT] <;> grind))

/-- impl.TypeOf -/
theorem dc_impl_TypeOf (e : List TNode) (he : e.length ≤ 9223372036854775807) : DC Tryz.prog 178 [.isl 4 (e.map TNode.ro)] (.agg [.int .i64 (typC e), .int .i64 (typV e)]) [] := by
 refine DC.intro tiOk Tryz.func178 rfl rfl rfl rfl rfl rfl rfl rfl [] ?_
 refine rg [0,2] ?_
 intro k hk; simp -dsimp [go_sem, -decide_eq_true_eq, -decide_eq_false_iff_not]
 repeat' first | apply And.intro | refine hk _ ?_ | intro hg | omega | exact True.intro | (have h9 := hr (by assumption); omega) | fail
 all_goals clear hk k
 refine AW.seq ?_
 refine rg [0,2,3] ?_
 intro k hk; simp -dsimp (maxSteps := 2000000) [go_sem, -decide_eq_true_eq, -decide_eq_false_iff_not]
 repeat' first | apply And.intro | refine hk _ ?_ | intro hg | (refine CallK.intro (dc_impl_ExprFault e he) ?_; simp -dsimp (maxSteps := 2000000) [go_sem, -decide_eq_true_eq, -decide_eq_false_iff_not]) | omega | exact True.intro | (have h9 := hr (by assumption); omega) | fail
 all_goals clear hk k
 refine rg [0,2,3,12] ?_
 intro k hk; simp -dsimp [go_sem, -decide_eq_true_eq, -decide_eq_false_iff_not]
 repeat' first | apply And.intro | refine hk _ ?_ | intro hg | omega | exact True.intro | (have h9 := hr (by assumption); omega) | fail
 all_goals clear hk k
 refine AW.cond rfl ?_ ?_
 ·intro hc; try simp at hc
  all_goals (
   refine rg [2] ?_
   intro k hk; simp -dsimp [go_sem, -decide_eq_true_eq, -decide_eq_false_iff_not]
   repeat' first | apply And.intro | refine hk _ ?_ | intro hg | omega | exact True.intro | (have h9 := hr (by assumption); omega) | fail
   all_goals clear hk k
   refine rt ?_
   first | (obtain ⟨h8, h9⟩ := typC_f (show exprF e ≠ 0 by first | assumption | simpa using hc); simp [go_sem, Tryz.results178, h8, h9]; done) | (obtain ⟨h8, h9⟩ := typC_b h0 (typU_hit hlt (by first | assumption | simpa using hc)); simp [go_sem, Tryz.results178, h8, h9]; done) | (obtain ⟨h8, h9⟩ := typC_k h0 hu; simp [go_sem, Tryz.results178, h8, h9]))
 ·intro hc; try simp at hc
  all_goals (
   refine AW.skipN (fun _ h => h) ?_
   have h0 : exprF e = 0 := by simpa using hc
   obtain ⟨hR, hP⟩ := exprF_zero h0
   have hlen := inR_iff.1 hR
   refine rg [0,2,4] ?_
   intro k hk; simp -dsimp [go_sem, -decide_eq_true_eq, -decide_eq_false_iff_not]
   repeat' first | apply And.intro | refine hk _ ?_ | intro hg | omega | exact True.intro | (have h9 := hr (by assumption); omega) | fail
   all_goals clear hk k
   refine AW.seq ?_
   refine rg [2,4,16,17,18] ?_
   intro k hk; simp -dsimp [go_sem, -decide_eq_true_eq, -decide_eq_false_iff_not]
   repeat' first | apply And.intro | refine hk _ ?_ | intro hg | omega | exact True.intro | (have h9 := hr (by assumption); omega) | fail
   all_goals clear hk k
   refine AW.block ?_
   refine AW.rename (nd := ?nd_1) 15 58 ?h1_1 ?h2_1 ?h4_1 ?kk_1
   (case h1_1 => exact rfl)
   (case h2_1 => simp [go_sem])
   (case h4_1 => simp [go_sem])
   refine AW.loopI (fun i : Nat => ⟨67, [(2, .ptr 2 2 0 0), (4, .sl 58 1 0 i), (16, .isl 4 (e.map TNode.ro)), (17, .int .i64 e.length), (18, .int .i64 i)], [(2, some ⟨2, [[.int .i64 0, .int .i64 0]]⟩), (58, some ⟨1, (typesL e i).map I1⟩)]⟩) (fun i => i ≤ e.length ∧ typU e i = false) (fun i => e.length - i) (0) (by simp [typU]) (Less.of rfl (by simp [go_sem]) (by simp [go_sem, typesL])) ?_
   rintro i ⟨hi, hu⟩
   refine AW.rename (nd := ?nd_2) 58 15 ?h1_2 ?h2_2 ?h4_2 ?kk_2
   (case h1_2 => exact rfl)
   (case h2_2 => simp [go_sem])
   (case h4_2 => simp [go_sem])
   refine rg [2,4,16,17,18,19] ?_
   intro k hk; simp -dsimp [go_sem, -decide_eq_true_eq, -decide_eq_false_iff_not]
   repeat' first | apply And.intro | refine hk _ ?_ | intro hg | omega | exact True.intro | (have h9 := hr (by assumption); omega) | fail
   all_goals clear hk k
   refine AW.seq ?_
   refine AW.cond rfl ?_ ?_
   ·intro hc; try simp at hc
    all_goals (
     have hlt : i < e.length := by assumption
     obtain ⟨x, hx⟩ := at_some hlt
     have hxA := nA_at hx
     have hpx := hP i hlt
     rw [nodeAt_at hx] at hpx
     have hq := nodeF_parts hpx
     have hl : 2 < x.kind → 0 ≤ x.left ∧ x.left.toNat < i := left_of hpx
     have hr := hq.2.1
     have htl := typesL_len e i
     have htk : List.take i ((typesL e i).map I1) = (typesL e i).map I1 := List.take_of_length_le (by simp [htl])
     have hsA : decide (2 < x.kind) = true → (typesL e i)[x.left.toNat]? = some (ownT (nA e x.left.toNat).kind) := fun h => typesL_at (hl (by simpa using h)).2
     have hsB : isTwoB x.kind = true → (typesL e i)[x.right.toNat]? = some (ownT (nA e x.right.toNat).kind) := fun h => typesL_at (hr h).2.2.2
     refine AW.skipN (fun _ h => h) ?_
     refine AW.seq ?_
     refine AW.block ?_
     refine rg [2,4,6,16,17,18] ?_
     intro k hk; simp -dsimp [go_sem, -decide_eq_true_eq, -decide_eq_false_iff_not, hx, htl, hsA, hsB]
     repeat' first | apply And.intro | refine hk _ ?_ | intro hg | omega | exact True.intro | (have h9 := hr (by assumption); omega) | fail
     all_goals clear hk k
     refine rg [2,4,6,7,8,16,17,18] ?_
     intro k hk; simp -dsimp (maxSteps := 2000000) [go_sem, -decide_eq_true_eq, -decide_eq_false_iff_not, hx, htl, hsA, hsB]
     repeat' first | apply And.intro | refine hk _ ?_ | intro hg | (refine CallK.intro (dc_impl_partType _) ?_; simp -dsimp (maxSteps := 2000000) [go_sem, -decide_eq_true_eq, -decide_eq_false_iff_not, hx, htl, hsA, hsB]) | omega | exact True.intro | (have h9 := hr (by assumption); omega) | fail
     all_goals clear hk k
     refine AW.seq ?_
     refine AW.cut ⟨67, [(2, .ptr 2 2 0 0), (4, .sl 15 1 0 i), (8, .int .i64 (ownT x.kind)), (16, .isl 4 (e.map TNode.ro)), (17, .int .i64 e.length), (18, .int .i64 i), (53, .bool (typBad e i))], [(2, some ⟨2, [[.int .i64 0, .int .i64 0]]⟩), (15, some ⟨1, (typesL e i).map I1⟩)]⟩ ?_ ?_
     ·skip
      refine rgK ?_
      intro k hk; simp +contextual -dsimp (maxSteps := 2000000) [go_sem, -decide_eq_true_eq, -decide_eq_false_iff_not, hx, htl, hsA, hsB]
      repeat' first | apply And.intro | refine hk _ ?_ | (intro hg; try simp only [decide_eq_true_eq, decide_eq_false_iff_not] at hg) | (refine CallK.intro (dc_impl_isTwo _) ?_; simp +contextual -dsimp (maxSteps := 2000000) [go_sem, -decide_eq_true_eq, -decide_eq_false_iff_not, hx, htl, hsA, hsB]) | omega | exact True.intro | (have h9 := hr (by assumption); omega) | fail
      all_goals clear hk k
      all_goals (show St.Less _ _; exact Less.of rfl (by simp [go_sem, typBad, hxA] <;> grind) (by simp [go_sem]))
     ·skip
      refine AW.cond rfl ?_ ?_
      ·intro hc; try simp at hc
       all_goals (
        refine rg [2] ?_
        intro k hk; simp -dsimp [go_sem, -decide_eq_true_eq, -decide_eq_false_iff_not, hx, htl, hsA, hsB]
        repeat' first | apply And.intro | refine hk _ ?_ | intro hg | omega | exact True.intro | (have h9 := hr (by assumption); omega) | fail
        all_goals clear hk k
        refine rt ?_
        first | (obtain ⟨h8, h9⟩ := typC_f (show exprF e ≠ 0 by first | assumption | simpa using hc); simp [go_sem, Tryz.results178, h8, h9]; done) | (obtain ⟨h8, h9⟩ := typC_b h0 (typU_hit hlt (by first | assumption | simpa using hc)); simp [go_sem, Tryz.results178, h8, h9]; done) | (obtain ⟨h8, h9⟩ := typC_k h0 hu; simp [go_sem, Tryz.results178, h8, h9]))
      ·intro hc; try simp at hc
       all_goals (
        refine AW.skipN (fun _ h => h) ?_
        refine rgN [2,4,16,17,18] (fun _ h => h) ?_
        intro k hk; simp -dsimp [go_sem, -decide_eq_true_eq, -decide_eq_false_iff_not, hx, htl, hsA, hsB]
        repeat' first | apply And.intro | refine hk _ ?_ | intro hg | omega | exact True.intro | (have h9 := hr (by assumption); omega) | fail
        all_goals clear hk k
        refine rgK ?_
        intro k hk; simp -dsimp [go_sem, -decide_eq_true_eq, -decide_eq_false_iff_not, hx, htl, hsA, hsB]
        repeat' first | apply And.intro | refine hk _ ?_ | intro hg | omega | exact True.intro | (have h9 := hr (by assumption); omega) | fail
        all_goals clear hk k
        show ∃ _, _
        have hw := wrapi hlt (by omega)
        have hub : typBad e i = false := by simpa using hc
        refine ⟨i + 1, ⟨by omega, typU_go hu hub⟩, by omega, Less.of rfl (by simp [go_sem, hw]) (by simp [go_sem, typesL_succ, hxA, htk])⟩))
   ·intro hc; try simp at hc
    all_goals (
     refine AW.exitN (fun _ h => h) ?_
     obtain rfl : i = e.length := by omega
     have htl := typesL_len e e.length
     have hlast := typesL_at (e := e) (show e.length - 1 < e.length by omega)
     have hwl : IntKind.wrap .i64 ((e.length : Int) - 1) = (e.length : Int) - 1 := wrap64 (by omega) (by omega)
     have hwt : ((e.length : Int) - 1).toNat = e.length - 1 := by omega
     refine rg [2] ?_
     intro k hk; simp -dsimp (maxSteps := 2000000) [go_sem, -decide_eq_true_eq, -decide_eq_false_iff_not, htl, hlast, hwl, hwt]
     repeat' first | apply And.intro | refine hk _ ?_ | intro hg | omega | exact True.intro | (have h9 := hr (by assumption); omega) | fail
     all_goals clear hk k
     refine rt ?_
     first | (obtain ⟨h8, h9⟩ := typC_f (show exprF e ≠ 0 by first | assumption | simpa using hc); simp [go_sem, Tryz.results178, h8, h9]; done) | (obtain ⟨h8, h9⟩ := typC_b h0 (typU_hit hlt (by first | assumption | simpa using hc)); simp [go_sem, Tryz.results178, h8, h9]; done) | (obtain ⟨h8, h9⟩ := typC_k h0 hu; simp [go_sem, Tryz.results178, h8, h9])))

end Go.AM

/-! ### F7 -/
set_option linter.unusedVariables false
set_option linter.unusedSimpArgs false
set_option maxHeartbeats 600000
set_option maxRecDepth 100000
namespace Go.AM
open Go.Proofs

/-- impl.typeFault -/
theorem dc_impl_typeFault (e : List TNode) (w : Int) (he : e.length ≤ 9223372036854775807) : DC Tryz.prog 146 [.isl 4 (e.map TNode.ro), .int .i64 w] (.int .i64 (typF e w)) [] := by
 refine DC.intro tiOk Tryz.func146 rfl rfl rfl rfl rfl rfl rfl rfl [] ?_
 refine rg [0,1] ?_
 intro k hk; simp -dsimp [go_sem, -decide_eq_true_eq, -decide_eq_false_iff_not]
 repeat' first | apply And.intro | refine hk _ ?_ | intro hg | omega | exact True.intro
 all_goals clear hk k
 refine AW.seq ?_
 refine rg [0,1,8] ?_
 intro k hk; simp -dsimp [go_sem, -decide_eq_true_eq, -decide_eq_false_iff_not]
 repeat' first | apply And.intro | refine hk _ ?_ | intro hg | omega | exact True.intro
 all_goals clear hk k
 refine AW.cond rfl ?_ ?_
 ·intro hc; try simp at hc
  all_goals (
   refine rg [4] ?_
   intro k hk; simp -dsimp [go_sem, -decide_eq_true_eq, -decide_eq_false_iff_not]
   repeat' first | apply And.intro | refine hk _ ?_ | intro hg | omega | exact True.intro
   all_goals clear hk k
   refine rt ?_
   simp [go_sem, Tryz.results146, typF, firstC_cons, firstC_nil] <;> grind)
 ·intro hc; try simp at hc
  all_goals (
   refine AW.skipN (fun _ h => h) ?_
   refine rg [1,5] ?_
   intro k hk; simp -dsimp (maxSteps := 2000000) [go_sem, -decide_eq_true_eq, -decide_eq_false_iff_not]
   repeat' first | apply And.intro | refine hk _ ?_ | intro hg | (refine CallK.intro (dc_impl_TypeOf e he) ?_; simp -dsimp (maxSteps := 2000000) [go_sem, -decide_eq_true_eq, -decide_eq_false_iff_not]) | omega | exact True.intro
   all_goals clear hk k
   refine rg [4] ?_
   intro k hk; simp -dsimp (maxSteps := 2000000) [go_sem, -decide_eq_true_eq, -decide_eq_false_iff_not]
   repeat' first | apply And.intro | (refine Chk.keys ?_; simp only [go_sem, List.map_cons, List.map_nil, List.flatMap_cons, List.flatMap_nil, List.flatMap_append, List.append_nil, List.nil_append, List.cons_append]; decide +kernel) | refine hk _ ?_ | intro hg | ((first | refine CallK.intro (dc_impl_codeIf _ _) ?_ | refine CallK.intro (dc_impl_firstCode [_, _] (by simp)) ?_ | refine CallK.intro (dc_impl_firstCode [_, _, _] (by simp)) ?_ | refine CallK.intro (dc_impl_firstCode [_, _, _, _] (by simp)) ?_); simp -dsimp (maxSteps := 2000000) [go_sem, -decide_eq_true_eq, -decide_eq_false_iff_not]) | omega | exact True.intro
   all_goals clear hk k
   refine rt ?_
   simp [go_sem, Tryz.results146, typF, firstC_cons, firstC_nil] <;> grind)

/-- impl.isSmall -/
theorem dc_impl_isSmall (c : UInt8) : DC Tryz.prog 186 [.int .u8 c.toNat] (.bool (isLow c)) [] := by
 refine DC.intro tiOk Tryz.func186 rfl rfl rfl rfl rfl rfl rfl rfl [] ?_
 refine rg [0] ?_
 intro k hk; simp -dsimp [go_sem, -decide_eq_true_eq, -decide_eq_false_iff_not]
 repeat' first | apply And.intro | refine hk _ ?_ | intro hg | omega | exact True.intro
 all_goals clear hk k
 refine rg [2] ?_
 intro k hk; simp +contextual -dsimp (maxSteps := 2000000) [go_sem, -decide_eq_true_eq, -decide_eq_false_iff_not]
 repeat' first | apply And.intro | refine hk _ ?_ | (intro hg; try simp only [decide_eq_true_eq, decide_eq_false_iff_not] at hg) | omega | exact True.intro
 all_goals clear hk k
 all_goals (
  refine rt ?_
  simp [go_sem, *, Tryz.results186, isLow, -decide_eq_true_eq, -decide_eq_false_iff_not])

/-- impl.NameFault -/
theorem dc_impl_NameFault (s : List UInt8) (hs : s.length ≤ 9223372036854775807) : DC Tryz.prog 173 [.str s] (.int .i64 (nameF s)) [] := by
 refine DC.intro tiOk Tryz.func173 rfl rfl rfl rfl rfl rfl rfl rfl [] ?_
 refine rg [0] ?_
 intro k hk; simp -dsimp [go_sem, -decide_eq_true_eq, -decide_eq_false_iff_not]
 repeat' first | apply And.intro | refine hk _ ?_ | intro hg | omega | exact True.intro
 all_goals clear hk k
 refine rg [2] ?_
 intro k hk; simp +contextual -dsimp (maxSteps := 2000000) [go_sem, -decide_eq_true_eq, -decide_eq_false_iff_not]
 repeat' first | apply And.intro | refine hk _ ?_ | (intro hg; try simp only [decide_eq_true_eq, decide_eq_false_iff_not] at hg) | ((first | refine CallK.intro (dc_impl_areAll 186 isLow dc_impl_isSmall s hs) ?_ | refine CallK.intro (dc_impl_codeIf _ _) ?_ | refine CallK.intro (dc_impl_firstCode [_, _] (by simp)) ?_ | refine CallK.intro (dc_impl_firstCode [_, _, _] (by simp)) ?_ | refine CallK.intro (dc_impl_firstCode [_, _, _, _] (by simp)) ?_); simp +contextual -dsimp (maxSteps := 2000000) [go_sem, -decide_eq_true_eq, -decide_eq_false_iff_not]) | omega | exact True.intro
 all_goals clear hk k
 all_goals (
  refine rt ?_
  simp [go_sem, Tryz.results173, nameF, firstC_cons, firstC_nil] at * <;> grind)

end Go.AM

/-! ### G4 -/
set_option linter.unusedVariables false
set_option linter.unusedSimpArgs false
set_option maxHeartbeats 600000
set_option maxRecDepth 100000
namespace Go.AM
open Go.Proofs

/-- impl.condFault -/
theorem dc_impl_condFault (p : List TStep) (ho : StepsOk p) (i : Nat) (hi : i < p.length) (hg : ∀ e ∈ p, e.gok) : DC Tryz.prog 145 [.isl 6 (p.map TStep.ro), .int .i64 (i : Nat)] (.int .i64 (shapeF p i)) [] := by
 have hlen := ho.len
 obtain ⟨x, hx⟩ := at_some hi
 have hxS := nS_at hx
 obtain ⟨g0, g1, g2⟩ := hg x (List.mem_of_getElem? hx)
 have hkm := kids_len p (i : Int)
 refine DC.intro tiOk Tryz.func145 rfl rfl rfl rfl rfl rfl rfl rfl [] ?_
 refine rg [0,1] ?_
 intro k hk; simp -dsimp [go_sem, -decide_eq_true_eq, -decide_eq_false_iff_not, hx]
 repeat' first | apply And.intro | refine hk _ ?_ | intro hg | omega | exact True.intro
 all_goals clear hk k
 refine rg [0,1,5,6] ?_
 intro k hk; simp -dsimp (maxSteps := 2000000) [go_sem, -decide_eq_true_eq, -decide_eq_false_iff_not, hx]
 repeat' first | apply And.intro | refine hk _ ?_ | intro hg | (refine CallK.intro (dc_impl_kidBounds _) ?_; simp -dsimp (maxSteps := 2000000) [go_sem, -decide_eq_true_eq, -decide_eq_false_iff_not, hx]) | omega | exact True.intro
 all_goals clear hk k
 refine rg [0,1,5,6,7] ?_
 intro k hk; simp -dsimp (maxSteps := 2000000) [go_sem, -decide_eq_true_eq, -decide_eq_false_iff_not, hx]
 repeat' first | apply And.intro | refine hk _ ?_ | intro hg | omega | exact True.intro
 all_goals clear hk k
 refine rg [0,1,7,8] ?_
 intro k hk; simp -dsimp (maxSteps := 2000000) [go_sem, -decide_eq_true_eq, -decide_eq_false_iff_not, hx]
 repeat' first | apply And.intro | refine hk _ ?_ | intro hg | ((first | refine CallK.intro (dc_impl_kids p (i : Int) (by omega)) ?_ | refine CallK.intro (dc_impl_inRange _ _ _) ?_ | refine CallK.intro (dc_impl_codeIf _ _) ?_ | refine CallK.intro (dc_impl_wantsCond p ho i hi) ?_ | refine CallK.intro (dc_impl_firstCode [_, _] (by simp)) ?_ | refine CallK.intro (dc_impl_firstCode [_, _, _] (by simp)) ?_ | refine CallK.intro (dc_impl_firstCode [_, _, _, _] (by simp)) ?_); simp -dsimp (maxSteps := 2000000) [go_sem, -decide_eq_true_eq, -decide_eq_false_iff_not, hx]) | omega | exact True.intro
 all_goals clear hk k
 refine AW.seq ?_
 refine rg [0,1,8,47] ?_
 intro k hk; simp +contextual -dsimp [go_sem, -decide_eq_true_eq, -decide_eq_false_iff_not, hx]
 repeat' first | apply And.intro | refine hk _ ?_ | (intro hg; try simp only [decide_eq_true_eq, decide_eq_false_iff_not] at hg) | omega | exact True.intro
 all_goals clear hk k
 all_goals (
  refine AW.cond rfl ?_ ?_
  ·intro hc; try simp at hc
   all_goals (
    refine rg [4] ?_
    intro k hk; simp -dsimp [go_sem, -decide_eq_true_eq, -decide_eq_false_iff_not, hx]
    repeat' first | apply And.intro | refine hk _ ?_ | intro hg | omega | exact True.intro
    all_goals clear hk k
    refine rt ?_
    simp [go_sem, Tryz.results145, shapeF, hxS, firstC_cons, firstC_nil] at * <;> grind)
  ·intro hc; try simp at hc
   all_goals (
    refine AW.skipN (fun _ h => h) ?_
    refine rg [4] ?_
    intro k hk; simp -dsimp (maxSteps := 2000000) [go_sem, -decide_eq_true_eq, -decide_eq_false_iff_not, hx]
    repeat' first | apply And.intro | refine hk _ ?_ | intro hg | (refine CallK.intro (dc_impl_ExprFault x.cond g1) ?_; simp -dsimp (maxSteps := 2000000) [go_sem, -decide_eq_true_eq, -decide_eq_false_iff_not, hx]) | omega | exact True.intro
    all_goals clear hk k
    refine rt ?_
    simp [go_sem, Tryz.results145, shapeF, hxS, firstC_cons, firstC_nil] at * <;> grind))

end Go.AM

/-! ### G5 -/
set_option linter.unusedVariables false
set_option linter.unusedSimpArgs false
set_option maxHeartbeats 600000
set_option maxRecDepth 100000
namespace Go.AM
open Go.Proofs

/-- impl.stepFault -/
theorem dc_impl_stepFault (s : TStep) (hg : s.gok) (l : List Int) (hl : ParOk l) (h24 : l.length ≤ 23) : DC Tryz.prog 144 [.agg s.ro, .op [nlc 1 (l.map I1), nlc 1 ((depsOf l).map I1)]] (.int .i64 (stepF l s)) [(1, .op [nlc 1 ((nxtL l s.par).map I1), nlc 1 ((nxtD l (depsOf l) s.par).map I1)])] := by
 obtain ⟨g0, g1, g2⟩ := hg
 have hdl := depsOf_len l
 refine DC.intro tiOk Tryz.func144 rfl rfl rfl rfl rfl rfl rfl (by simp [noW, noWo]) [] ?_
 refine rg [1,2] ?_
 intro k hk; simp -dsimp [go_sem, -decide_eq_true_eq, -decide_eq_false_iff_not]
 repeat' first | apply And.intro | refine hk _ ?_ | intro hg | omega | exact True.intro
 all_goals clear hk k
 refine rg [1,2,5,6] ?_
 intro k hk; simp -dsimp (maxSteps := 2000000) [go_sem, -decide_eq_true_eq, -decide_eq_false_iff_not]
 repeat' first | apply And.intro | refine hk _ ?_ | intro hg | (refine CallK.intro (dc_impl_argBounds _) ?_; simp -dsimp (maxSteps := 2000000) [go_sem, -decide_eq_true_eq, -decide_eq_false_iff_not]) | omega | exact True.intro
 all_goals clear hk k
 refine AW.cut ⟨96, [(1, .ptr 1901 2 0 0), (2, .ptr 2 6 0 0), (5, .int .i64 (lowA s.kind)), (6, .int .i64 (highA s.kind)), (7, .bool (alien s))], [(2, some ⟨6, [s.ro]⟩), (1901, some ⟨2, [[nlc 1 (l.map I1), nlc 1 ((depsOf l).map I1)]]⟩)]⟩ ?_ ?_
 ·skip
  refine rgK ?_
  intro k hk; simp +contextual -dsimp (maxSteps := 2000000) [go_sem, -decide_eq_true_eq, -decide_eq_false_iff_not]
  repeat' first | apply And.intro | refine hk _ ?_ | (intro hg; try simp only [decide_eq_true_eq, decide_eq_false_iff_not] at hg) | omega | exact True.intro
  all_goals clear hk k
  all_goals (show St.Less _ _; exact Less.of rfl (by simp [go_sem, alien] at * <;> grind) (by simp [go_sem]))
 ·skip
  refine AW.seq ?_
  refine AW.cut ⟨96, [(1, .ptr 1901 2 0 0), (2, .ptr 2 6 0 0), (5, .int .i64 (lowA s.kind)), (6, .int .i64 (highA s.kind)), (8, .int .i64 (if inR s.kind 1 8 = false ∨ alien s = true then 1 else parF l s.par))], [(2, some ⟨6, [s.ro]⟩), (1901, some ⟨2, [[nlc 1 ((nxtL l s.par).map I1), nlc 1 ((nxtD l (depsOf l) s.par).map I1)]]⟩)]⟩ ?_ ?_
  ·skip
   refine AW.regK tiOk (fun i => if i = 11 then [0] else []) ?_
   intro k hk; simp +contextual -dsimp (maxSteps := 2000000) [go_sem, -decide_eq_true_eq, -decide_eq_false_iff_not]
   repeat' first | apply And.intro | (refine Chk.keys ?_; simp only [go_sem, List.map_cons, List.map_nil, List.flatMap_cons, List.flatMap_nil, List.flatMap_append, List.append_nil, List.nil_append, List.cons_append]; decide +kernel) | refine hk _ ?_ | (intro hg; try simp only [decide_eq_true_eq, decide_eq_false_iff_not] at hg) | ((first | refine CallK.intro (dc_impl_inRange _ _ _) ?_ | refine CallK.intro (dc_impl_codeIf _ _) ?_ | refine CallK.intro (dc_parents_next l (depsOf l) s.par hl rfl (by omega)) ?_ | refine CallK.intro (dc_impl_firstCode [_, _] (by simp)) ?_ | refine CallK.intro (dc_impl_firstCode [_, _, _] (by simp)) ?_ | refine CallK.intro (dc_impl_firstCode [_, _, _, _] (by simp)) ?_); simp +contextual -dsimp (maxSteps := 2000000) [go_sem, -decide_eq_true_eq, -decide_eq_false_iff_not]) | omega | exact True.intro
   all_goals clear hk k
   all_goals (show St.Less _ _; exact Less.of rfl (by simp [go_sem, firstC_cons, firstC_nil] at * <;> grind) (by simp [go_sem]))
  ·skip
   refine rg [1,2,5,6,8,59] ?_
   intro k hk; simp -dsimp [go_sem, -decide_eq_true_eq, -decide_eq_false_iff_not]
   repeat' first | apply And.intro | refine hk _ ?_ | intro hg | omega | exact True.intro
   all_goals clear hk k
   refine AW.cond rfl ?_ ?_
   ·intro hc; try simp at hc
    all_goals try (exfalso; omega; done)
    all_goals (
     refine rg [1,4] ?_
     intro k hk; simp -dsimp [go_sem, -decide_eq_true_eq, -decide_eq_false_iff_not]
     repeat' first | apply And.intro | refine hk _ ?_ | intro hg | omega | exact True.intro
     all_goals clear hk k
     refine rt ?_
     first | (rw [stepF_good hz1 hz2 hz3]; simp [go_sem, Tryz.results144, hnL, hnD, firstC_cons, firstC_nil]; (try grind [inR]); done) | (simp [go_sem, Tryz.results144]; have := @inR_iff s.kind 1 8; unfold stepF; grind))
   ·intro hc; try simp at hc
    all_goals try (exfalso; omega; done)
    all_goals (
     refine AW.skipN (fun _ h => h) ?_
     refine AW.seq ?_
     have hz : inR s.kind 1 8 = true ∧ alien s = false ∧ parF l s.par = 0 := by grind
     obtain ⟨hz1, hz2, hz3⟩ := hz
     have hnL := nxtL_app hz3
     have hnD := nxtD_app hl hz3
     refine rg [1,2,5,6,9] ?_
     intro k hk; simp -dsimp (maxSteps := 2000000) [go_sem, -decide_eq_true_eq, -decide_eq_false_iff_not, hnL, hnD]
     repeat' first | apply And.intro | refine hk _ ?_ | intro hg | ((first | refine CallK.intro (dc_impl_parents_last _ _ _ (by simp [hdl]; omega)) ?_ | refine CallK.intro (dc_impl_codeIf _ _) ?_); simp -dsimp (maxSteps := 2000000) [go_sem, -decide_eq_true_eq, -decide_eq_false_iff_not, hnL, hnD]) | omega | exact True.intro
     all_goals clear hk k
     refine rg [1,2,5,6,9,66] ?_
     intro k hk; simp -dsimp [go_sem, -decide_eq_true_eq, -decide_eq_false_iff_not]
     repeat' first | apply And.intro | refine hk _ ?_ | intro hg | omega | exact True.intro
     all_goals clear hk k
     refine AW.cond rfl ?_ ?_
     ·intro hc; try simp at hc
      all_goals try (exfalso; omega; done)
      all_goals (
       refine rg [1,4] ?_
       intro k hk; simp -dsimp [go_sem, -decide_eq_true_eq, -decide_eq_false_iff_not]
       repeat' first | apply And.intro | refine hk _ ?_ | intro hg | omega | exact True.intro
       all_goals clear hk k
       refine rt ?_
       first | (rw [stepF_good hz1 hz2 hz3]; simp [go_sem, Tryz.results144, hnL, hnD, firstC_cons, firstC_nil]; (try grind [inR]); done) | (simp [go_sem, Tryz.results144]; have := @inR_iff s.kind 1 8; unfold stepF; grind))
     ·intro hc; try simp at hc
      all_goals try (exfalso; omega; done)
      all_goals (
       refine AW.skipN (fun _ h => h) ?_
       refine AW.seq ?_
       refine rg [1,2,5,6,69] ?_
       intro k hk; simp -dsimp [go_sem, -decide_eq_true_eq, -decide_eq_false_iff_not]
       repeat' first | apply And.intro | refine hk _ ?_ | intro hg | omega | exact True.intro
       all_goals clear hk k
       refine AW.block ?_
       refine rg [1,2,5,6,69,70] ?_
       intro k hk; simp -dsimp [go_sem, -decide_eq_true_eq, -decide_eq_false_iff_not]
       repeat' first | apply And.intro | refine hk _ ?_ | intro hg | omega | exact True.intro
       all_goals clear hk k
       refine AW.cond rfl ?_ ?_
       ·intro hc; try simp at hc
        all_goals try (exfalso; omega; done)
        all_goals (
         refine rg [1,4] ?_
         intro k hk; simp -dsimp (maxSteps := 2000000) [go_sem, -decide_eq_true_eq, -decide_eq_false_iff_not]
         repeat' first | apply And.intro | refine hk _ ?_ | intro hg | (refine CallK.intro (dc_impl_NameFault s.name g0) ?_; simp -dsimp (maxSteps := 2000000) [go_sem, -decide_eq_true_eq, -decide_eq_false_iff_not]) | omega | exact True.intro
         all_goals clear hk k
         refine rt ?_
         first | (rw [stepF_good hz1 hz2 hz3]; simp [go_sem, Tryz.results144, hnL, hnD, firstC_cons, firstC_nil]; (try grind [inR]); done) | (simp [go_sem, Tryz.results144]; have := @inR_iff s.kind 1 8; unfold stepF; grind))
       ·intro hc; try simp at hc
        all_goals try (exfalso; omega; done)
        all_goals (
         refine rg [1,2,5,6,75] ?_
         intro k hk; simp -dsimp [go_sem, -decide_eq_true_eq, -decide_eq_false_iff_not]
         repeat' first | apply And.intro | refine hk _ ?_ | intro hg | omega | exact True.intro
         all_goals clear hk k
         refine AW.cond rfl ?_ ?_
         ·intro hc; try simp at hc
          all_goals try (exfalso; omega; done)
          all_goals (
           refine rg [1,4] ?_
           intro k hk; simp -dsimp (maxSteps := 2000000) [go_sem, -decide_eq_true_eq, -decide_eq_false_iff_not]
           repeat' first | apply And.intro | (refine Chk.keys ?_; simp only [go_sem, List.map_cons, List.map_nil, List.flatMap_cons, List.flatMap_nil, List.flatMap_append, List.append_nil, List.nil_append, List.cons_append]; decide +kernel) | refine hk _ ?_ | intro hg | ((first | refine CallK.intro (dc_impl_inRange _ _ _) ?_ | refine CallK.intro (dc_impl_codeIf _ _) ?_ | refine CallK.intro (dc_impl_ExprFault s.expr g2) ?_ | refine CallK.intro (dc_impl_firstCode [_, _] (by simp)) ?_ | refine CallK.intro (dc_impl_firstCode [_, _, _] (by simp)) ?_ | refine CallK.intro (dc_impl_firstCode [_, _, _, _] (by simp)) ?_); simp -dsimp (maxSteps := 2000000) [go_sem, -decide_eq_true_eq, -decide_eq_false_iff_not]) | omega | exact True.intro
           all_goals clear hk k
           refine rt ?_
           first | (rw [stepF_good hz1 hz2 hz3]; simp [go_sem, Tryz.results144, hnL, hnD, firstC_cons, firstC_nil]; (try grind [inR]); done) | (simp [go_sem, Tryz.results144]; have := @inR_iff s.kind 1 8; unfold stepF; grind))
         ·intro hc; try simp at hc
          all_goals try (exfalso; omega; done)
          all_goals (
           refine AW.skipN (fun _ h => h) ?_
           refine rg [1,4] ?_
           intro k hk; simp -dsimp (maxSteps := 2000000) [go_sem, -decide_eq_true_eq, -decide_eq_false_iff_not]
           repeat' first | apply And.intro | refine hk _ ?_ | intro hg | ((first | refine CallK.intro (dc_impl_inRange _ _ _) ?_ | refine CallK.intro (dc_impl_codeIf _ _) ?_); simp -dsimp (maxSteps := 2000000) [go_sem, -decide_eq_true_eq, -decide_eq_false_iff_not]) | omega | exact True.intro
           all_goals clear hk k
           refine rt ?_
           first | (rw [stepF_good hz1 hz2 hz3]; simp [go_sem, Tryz.results144, hnL, hnD, firstC_cons, firstC_nil]; (try grind [inR]); done) | (simp [go_sem, Tryz.results144]; have := @inR_iff s.kind 1 8; unfold stepF; grind)))))

end Go.AM

/-! ### G6 -/
set_option linter.unusedVariables false
set_option linter.unusedSimpArgs false
set_option maxHeartbeats 600000
set_option maxRecDepth 100000
namespace Go.AM
open Go.Proofs

/-- impl.ProcFault -/
theorem dc_impl_ProcFault (p : List TStep) (hp : p.length ≤ 9223372036854775807) (hg : ∀ e ∈ p, e.gok) : DC Tryz.prog 120 [.isl 6 (p.map TStep.ro)] (.int .i64 (procF p)) [] := by
 refine DC.intro tiOk Tryz.func120 rfl rfl rfl rfl rfl rfl rfl rfl [] ?_
 refine rg [0] ?_
 intro k hk; simp -dsimp [go_sem, -decide_eq_true_eq, -decide_eq_false_iff_not]
 repeat' first | apply And.intro | refine hk _ ?_ | intro hg | omega | exact True.intro
 all_goals clear hk k
 refine AW.seq ?_
 refine rg [0,15] ?_
 intro k hk; simp -dsimp (maxSteps := 2000000) [go_sem, -decide_eq_true_eq, -decide_eq_false_iff_not]
 repeat' first | apply And.intro | refine hk _ ?_ | intro hg | (refine CallK.intro (dc_impl_inRange _ _ _) ?_; simp -dsimp (maxSteps := 2000000) [go_sem, -decide_eq_true_eq, -decide_eq_false_iff_not]) | omega | exact True.intro
 all_goals clear hk k
 refine AW.cond rfl ?_ ?_
 ·intro hc; try simp at hc
  all_goals (
   refine rg [2] ?_
   intro k hk; simp -dsimp [go_sem, -decide_eq_true_eq, -decide_eq_false_iff_not]
   repeat' first | apply And.intro | refine hk _ ?_ | intro hg | omega | exact True.intro
   all_goals clear hk k
   refine rt ?_
   first | (rw [procF_len (by simpa using hc)]; simp [go_sem, Tryz.results120]; done) | (rw [procF_ok hR h1 h2 h3]; simp [go_sem, Tryz.results120]; done) | (rw [procF_ty hR h1 h2 hlt hal3 (by first | assumption | simpa using hc)]; simp [go_sem, Tryz.results120]; done) | (rw [procF_shape hR h1 hlt hal2 (by first | assumption | simpa using hc)]; simp [go_sem, Tryz.results120]; done) | (rw [procF_one hR hlt hall (by rw [hxo]; first | assumption | simpa using hc), hxo]; simp [go_sem, Tryz.results120]))
 ·intro hc; try simp at hc
  all_goals (
   refine AW.skipN (fun _ h => h) ?_
   have hR : inR p.length 1 24 = true := by simpa using hc
   have hlen := inR_iff.1 hR
   have hts : depsOf [] = [] := rfl
   refine rg [0,3] ?_
   intro k hk; simp -dsimp [go_sem, -decide_eq_true_eq, -decide_eq_false_iff_not]
   repeat' first | apply And.intro | refine hk _ ?_ | intro hg | omega | exact True.intro
   all_goals clear hk k
   refine AW.seq ?_
   refine rg [0,3,18,19,20] ?_
   intro k hk; simp -dsimp [go_sem, -decide_eq_true_eq, -decide_eq_false_iff_not]
   repeat' first | apply And.intro | refine hk _ ?_ | intro hg | omega | exact True.intro
   all_goals clear hk k
   refine AW.block ?_
   refine AW.loopI (fun i : Nat => ⟨61, [(0, .isl 6 (p.map TStep.ro)), (3, .ptr 17 2 0 0), (18, .isl 6 (p.map TStep.ro)), (19, .int .i64 p.length), (20, .int .i64 i)], [(17, some ⟨2, [[nlc 1 ((parsT p i).map I1), nlc 1 ((depsOf (parsT p i)).map I1)]]⟩)]⟩) (fun i => i ≤ p.length ∧ ∀ k, k < i → oneF p k = 0) (fun i => p.length - i) (0) (by simp) (Less.of rfl (by simp [go_sem]) (by simp [go_sem, hts, parsT_zero])) ?_
   rintro i ⟨hi, hall⟩
   refine rg [0,3,18,19,20,21] ?_
   intro k hk; simp -dsimp [go_sem, -decide_eq_true_eq, -decide_eq_false_iff_not]
   repeat' first | apply And.intro | refine hk _ ?_ | intro hg | omega | exact True.intro
   all_goals clear hk k
   refine AW.seq ?_
   refine AW.cond rfl ?_ ?_
   ·intro hc; try simp at hc
    all_goals (
     have hlt : i < p.length := by assumption
     obtain ⟨x, hx⟩ := at_some hlt
     have hxo := oneF_T hx
     refine AW.skipN (fun _ h => h) ?_
     refine AW.seq ?_
     refine AW.block ?_
     have hlo := ones_T (by omega) hall
     refine rg [0,3,5,18,19,20] ?_
     intro k hk; simp -dsimp [go_sem, -decide_eq_true_eq, -decide_eq_false_iff_not, hx]
     repeat' first | apply And.intro | refine hk _ ?_ | intro hg | omega | exact True.intro
     all_goals clear hk k
     refine AW.reg tiOk (fun _ => [1]) [0,3,6,18,19,20] ?_
     intro k hk; simp -dsimp (maxSteps := 2000000) [go_sem, -decide_eq_true_eq, -decide_eq_false_iff_not, hx]
     repeat' first | apply And.intro | refine hk _ ?_ | intro hg | (refine CallK.intro (dc_impl_stepFault x (hg x (List.mem_of_getElem? hx)) (parsT p i) hlo (by rw [parsT_len (by omega)]; omega)) ?_; simp -dsimp (maxSteps := 2000000) [go_sem, -decide_eq_true_eq, -decide_eq_false_iff_not, hx]) | omega | exact True.intro
     all_goals clear hk k
     refine rg [0,3,6,18,19,20,28] ?_
     intro k hk; simp -dsimp [go_sem, -decide_eq_true_eq, -decide_eq_false_iff_not, hx]
     repeat' first | apply And.intro | refine hk _ ?_ | intro hg | omega | exact True.intro
     all_goals clear hk k
     refine AW.cond rfl ?_ ?_
     ·intro hc; try simp at hc
      all_goals (
       refine rg [2] ?_
       intro k hk; simp -dsimp [go_sem, -decide_eq_true_eq, -decide_eq_false_iff_not, hx]
       repeat' first | apply And.intro | refine hk _ ?_ | intro hg | omega | exact True.intro
       all_goals clear hk k
       refine rt ?_
       first | (rw [procF_len (by simpa using hc)]; simp [go_sem, Tryz.results120]; done) | (rw [procF_ok hR h1 h2 h3]; simp [go_sem, Tryz.results120]; done) | (rw [procF_ty hR h1 h2 hlt hal3 (by first | assumption | simpa using hc)]; simp [go_sem, Tryz.results120]; done) | (rw [procF_shape hR h1 hlt hal2 (by first | assumption | simpa using hc)]; simp [go_sem, Tryz.results120]; done) | (rw [procF_one hR hlt hall (by rw [hxo]; first | assumption | simpa using hc), hxo]; simp [go_sem, Tryz.results120]))
     ·intro hc; try simp at hc
      all_goals (
       refine AW.skipN (fun _ h => h) ?_
       refine rgK ?_
       intro k hk; simp -dsimp [go_sem, -decide_eq_true_eq, -decide_eq_false_iff_not, hx]
       repeat' first | apply And.intro | refine hk _ ?_ | intro hg | omega | exact True.intro
       all_goals clear hk k
       show ∃ _, _
       have hw := wrapi hlt (by omega)
       have hz : stepF (parsT p i) x = 0 := by simpa using hc
       have hpz := stepF_par hz
       have htn := parsT_next hx
       refine ⟨i + 1, ⟨by omega, upto hall (by rw [hxo]; exact hz)⟩, by omega, Less.of rfl (by simp [go_sem, hw]) (by simp [go_sem, htn, nxtL_app hpz, nxtD_deps (ones_T (by omega) hall) hpz])⟩))
   ·intro hc; try simp at hc
    all_goals (
     refine AW.exitN (fun _ h => h) ?_
     refine AW.seq ?_
     have h1 : ∀ k, k < p.length → oneF p k = 0 := fun k hk => hall k (by omega)
     have ho : StepsOk p := ⟨by omega, h1⟩
     refine rg [0,32,33] ?_
     intro k hk; simp -dsimp [go_sem, -decide_eq_true_eq, -decide_eq_false_iff_not]
     repeat' first | apply And.intro | refine hk _ ?_ | intro hg | omega | exact True.intro
     all_goals clear hk k
     refine AW.block ?_
     refine AW.loopI (fun i : Nat => ⟨61, [(0, .isl 6 (p.map TStep.ro)), (32, .int .i64 p.length), (33, .int .i64 i)], []⟩) (fun i => i ≤ p.length ∧ ∀ k, k < i → shapeF p k = 0) (fun i => p.length - i) (0) (by simp) (Less.of rfl (by simp [go_sem]) (by simp [go_sem])) ?_
     rintro i ⟨hi, hal2⟩
     refine rg [0,32,33,34] ?_
     intro k hk; simp -dsimp [go_sem, -decide_eq_true_eq, -decide_eq_false_iff_not]
     repeat' first | apply And.intro | refine hk _ ?_ | intro hg | omega | exact True.intro
     all_goals clear hk k
     refine AW.seq ?_
     refine AW.cond rfl ?_ ?_
     ·intro hc; try simp at hc
      all_goals (
       have hlt : i < p.length := by assumption
       refine AW.skipN (fun _ h => h) ?_
       refine AW.seq ?_
       refine AW.block ?_
       refine rg [0,7,32,33] ?_
       intro k hk; simp -dsimp [go_sem, -decide_eq_true_eq, -decide_eq_false_iff_not]
       repeat' first | apply And.intro | refine hk _ ?_ | intro hg | omega | exact True.intro
       all_goals clear hk k
       refine rg [0,8,32,33] ?_
       intro k hk; simp -dsimp (maxSteps := 2000000) [go_sem, -decide_eq_true_eq, -decide_eq_false_iff_not]
       repeat' first | apply And.intro | refine hk _ ?_ | intro hg | (refine CallK.intro (dc_impl_condFault p ho i hlt hg) ?_; simp -dsimp (maxSteps := 2000000) [go_sem, -decide_eq_true_eq, -decide_eq_false_iff_not]) | omega | exact True.intro
       all_goals clear hk k
       refine rg [0,8,32,33,40] ?_
       intro k hk; simp -dsimp [go_sem, -decide_eq_true_eq, -decide_eq_false_iff_not]
       repeat' first | apply And.intro | refine hk _ ?_ | intro hg | omega | exact True.intro
       all_goals clear hk k
       refine AW.cond rfl ?_ ?_
       ·intro hc; try simp at hc
        all_goals (
         refine rg [2] ?_
         intro k hk; simp -dsimp [go_sem, -decide_eq_true_eq, -decide_eq_false_iff_not]
         repeat' first | apply And.intro | refine hk _ ?_ | intro hg | omega | exact True.intro
         all_goals clear hk k
         refine rt ?_
         first | (rw [procF_len (by simpa using hc)]; simp [go_sem, Tryz.results120]; done) | (rw [procF_ok hR h1 h2 h3]; simp [go_sem, Tryz.results120]; done) | (rw [procF_ty hR h1 h2 hlt hal3 (by first | assumption | simpa using hc)]; simp [go_sem, Tryz.results120]; done) | (rw [procF_shape hR h1 hlt hal2 (by first | assumption | simpa using hc)]; simp [go_sem, Tryz.results120]; done) | (rw [procF_one hR hlt hall (by rw [hxo]; first | assumption | simpa using hc), hxo]; simp [go_sem, Tryz.results120]))
       ·intro hc; try simp at hc
        all_goals (
         refine AW.skipN (fun _ h => h) ?_
         refine rgK ?_
         intro k hk; simp -dsimp [go_sem, -decide_eq_true_eq, -decide_eq_false_iff_not]
         repeat' first | apply And.intro | refine hk _ ?_ | intro hg | omega | exact True.intro
         all_goals clear hk k
         show ∃ _, _
         have hw := wrapi hlt (by omega)
         refine ⟨i + 1, ⟨by omega, upto hal2 (by first | assumption | simpa using hc)⟩, by omega, Less.of rfl (by simp [go_sem, hw]) (by simp [go_sem])⟩))
     ·intro hc; try simp at hc
      all_goals (
       refine AW.exitN (fun _ h => h) ?_
       refine AW.seq ?_
       have h2 : ∀ k, k < p.length → shapeF p k = 0 := fun k hk => hal2 k (by omega)
       refine rg [43,44,45] ?_
       intro k hk; simp -dsimp [go_sem, -decide_eq_true_eq, -decide_eq_false_iff_not]
       repeat' first | apply And.intro | refine hk _ ?_ | intro hg | omega | exact True.intro
       all_goals clear hk k
       refine AW.block ?_
       refine AW.loopI (fun i : Nat => ⟨61, [(43, .isl 6 (p.map TStep.ro)), (44, .int .i64 p.length), (45, .int .i64 i)], []⟩) (fun i => i ≤ p.length ∧ ∀ k, k < i → tyF p k = 0) (fun i => p.length - i) (0) (by simp) (Less.of rfl (by simp [go_sem]) (by simp [go_sem])) ?_
       rintro i ⟨hi, hal3⟩
       refine rg [43,44,45,46] ?_
       intro k hk; simp -dsimp [go_sem, -decide_eq_true_eq, -decide_eq_false_iff_not]
       repeat' first | apply And.intro | refine hk _ ?_ | intro hg | omega | exact True.intro
       all_goals clear hk k
       refine AW.seq ?_
       refine AW.cond rfl ?_ ?_
       ·intro hc; try simp at hc
        all_goals (
         have hlt : i < p.length := by assumption
         obtain ⟨x, hx⟩ := at_some hlt
         have hxt := tyF_at hx
         obtain ⟨g0, g1, g2⟩ := hg x (List.mem_of_getElem? hx)
         have hfc : firstC [typF x.cond 2, typF x.expr 1] = tyF p i := by rw [hxt]; simp [firstC_cons, firstC_nil] <;> grind
         refine AW.skipN (fun _ h => h) ?_
         refine AW.seq ?_
         refine AW.block ?_
         refine rg [10,43,44,45] ?_
         intro k hk; simp -dsimp [go_sem, -decide_eq_true_eq, -decide_eq_false_iff_not, hx, hfc]
         repeat' first | apply And.intro | refine hk _ ?_ | intro hg | omega | exact True.intro
         all_goals clear hk k
         refine rg [11,43,44,45] ?_
         intro k hk; simp -dsimp (maxSteps := 2000000) [go_sem, -decide_eq_true_eq, -decide_eq_false_iff_not, hx, hfc]
         repeat' first | apply And.intro | (refine Chk.keys ?_; simp only [go_sem, List.map_cons, List.map_nil, List.flatMap_cons, List.flatMap_nil, List.flatMap_append, List.append_nil, List.nil_append, List.cons_append]; decide +kernel) | refine hk _ ?_ | intro hg | ((first | refine CallK.intro (dc_impl_typeFault x.cond 2 g1) ?_ | refine CallK.intro (dc_impl_typeFault x.expr 1 g2) ?_ | refine CallK.intro (dc_impl_firstCode [_, _] (by simp)) ?_ | refine CallK.intro (dc_impl_firstCode [_, _, _] (by simp)) ?_ | refine CallK.intro (dc_impl_firstCode [_, _, _, _] (by simp)) ?_); simp -dsimp (maxSteps := 2000000) [go_sem, -decide_eq_true_eq, -decide_eq_false_iff_not, hx, hfc]) | omega | exact True.intro
         all_goals clear hk k
         refine rg [11,43,44,45,58] ?_
         intro k hk; simp -dsimp [go_sem, -decide_eq_true_eq, -decide_eq_false_iff_not, hx, hfc]
         repeat' first | apply And.intro | refine hk _ ?_ | intro hg | omega | exact True.intro
         all_goals clear hk k
         refine AW.cond rfl ?_ ?_
         ·intro hc; try simp at hc
          all_goals (
           refine rg [2] ?_
           intro k hk; simp -dsimp [go_sem, -decide_eq_true_eq, -decide_eq_false_iff_not, hx, hfc]
           repeat' first | apply And.intro | refine hk _ ?_ | intro hg | omega | exact True.intro
           all_goals clear hk k
           refine rt ?_
           first | (rw [procF_len (by simpa using hc)]; simp [go_sem, Tryz.results120]; done) | (rw [procF_ok hR h1 h2 h3]; simp [go_sem, Tryz.results120]; done) | (rw [procF_ty hR h1 h2 hlt hal3 (by first | assumption | simpa using hc)]; simp [go_sem, Tryz.results120]; done) | (rw [procF_shape hR h1 hlt hal2 (by first | assumption | simpa using hc)]; simp [go_sem, Tryz.results120]; done) | (rw [procF_one hR hlt hall (by rw [hxo]; first | assumption | simpa using hc), hxo]; simp [go_sem, Tryz.results120]))
         ·intro hc; try simp at hc
          all_goals (
           refine AW.skipN (fun _ h => h) ?_
           refine rgK ?_
           intro k hk; simp -dsimp [go_sem, -decide_eq_true_eq, -decide_eq_false_iff_not, hx, hfc]
           repeat' first | apply And.intro | refine hk _ ?_ | intro hg | omega | exact True.intro
           all_goals clear hk k
           show ∃ _, _
           have hw := wrapi hlt (by omega)
           refine ⟨i + 1, ⟨by omega, upto hal3 (by first | assumption | simpa using hc)⟩, by omega, Less.of rfl (by simp [go_sem, hw]) (by simp [go_sem])⟩))
       ·intro hc; try simp at hc
        all_goals (
         refine AW.exitN (fun _ h => h) ?_
         have h3 : ∀ k, k < p.length → tyF p k = 0 := fun k hk => hal3 k (by omega)
         refine rg [2] ?_
         intro k hk; simp -dsimp [go_sem, -decide_eq_true_eq, -decide_eq_false_iff_not]
         repeat' first | apply And.intro | refine hk _ ?_ | intro hg | omega | exact True.intro
         all_goals clear hk k
         refine rt ?_
         first | (rw [procF_len (by simpa using hc)]; simp [go_sem, Tryz.results120]; done) | (rw [procF_ok hR h1 h2 h3]; simp [go_sem, Tryz.results120]; done) | (rw [procF_ty hR h1 h2 hlt hal3 (by first | assumption | simpa using hc)]; simp [go_sem, Tryz.results120]; done) | (rw [procF_shape hR h1 hlt hal2 (by first | assumption | simpa using hc)]; simp [go_sem, Tryz.results120]; done) | (rw [procF_one hR hlt hall (by rw [hxo]; first | assumption | simpa using hc), hxo]; simp [go_sem, Tryz.results120])))))

end Go.AM

