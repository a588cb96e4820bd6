/- Joined texts: G6 Pgb Br K1p Bt Bh Bi Bj Bk Bl Bm Bn Bo G7. -/
import Derived.Test.YtijoeghjkklaaaaB1
import Derived.Test.YtijoeghjkklaaaaB2
import Derived.Test.YtijoeghjkklaaaaB3
import Derived.Test.YtijoeghjkklaaaaB4
import Derived.Test.YtijoeghjkklaaaaB5
import Derived.Test.YtijoeghjkklaaaaB6
import Derived.Test.YtijoeghjkklaaaaB7
import Derived.Test.YtijoeghjkklaaaaB8
import Derived.Test.YtijoeghjkklaaaaB9
import Derived.Test.YtijoeghjkklaaaaB10
set_option linter.unusedVariables false
set_option linter.unusedSimpArgs false
set_option maxHeartbeats 600000
set_option maxRecDepth 100000
namespace Go.AM
open Go.Proofs
theorem dc_impl_ProcFault (p : List TStep) (hp : p.length ≤ 9223372036854775807) (hg : ∀ e ∈ p, e.gok) : DC Try.prog 13 [.isl 6 (p.map TStep.ro)] (.int .i64 (procF p)) [] := by
 refine DC.intro tiOk Try.func13 rfl rfl rfl rfl rfl rfl rfl rfl [] ?_
 refine rgA [0] ?_
 refine AW.seq ?_
 refine rg [0,15] ?_
 intro k hk; simp -dsimp (maxSteps := 2000000) [go_sem, -decide_eq_true_eq, -decide_eq_false_iff_not]
 repeat' first | apply And.intro | refine hk _ ?_ | intro hg | (refine CallK.intro (dc_impl_inRange _ _ _) ?_; simp -dsimp (maxSteps := 2000000) [go_sem, -decide_eq_true_eq, -decide_eq_false_iff_not]) | omega | exact True.intro
 all_goals clear hk k
 refine AW.cond rfl ?_ ?_
 ·intro hc; try simp at hc
  all_goals (
 refine rgA [2] ?_
 refine rt ?_
 first | (rw [procF_len (by simpa using hc)]; simp [go_sem, Try.results13]; done) | (rw [procF_ok hR h1 h2 h3]; simp [go_sem, Try.results13]; done) | (rw [procF_ty hR h1 h2 hlt hal3 (by first | assumption | simpa using hc)]; simp [go_sem, Try.results13]; done) | (rw [procF_shape hR h1 hlt hal2 (by first | assumption | simpa using hc)]; simp [go_sem, Try.results13]; done) | (rw [procF_one hR hlt hall (by rw [hxo]; first | assumption | simpa using hc), hxo]; simp [go_sem, Try.results13]))
 ·intro hc; try simp at hc
  all_goals (
 refine AW.skipN (fun _ h => h) ?_
 have hR : inR p.length 1 24 = true := by simpa using hc
 have hlen := inR_iff.1 hR
 have hts : depsOf [] = [] := rfl
 refine rgA [0,3] ?_
 refine AW.seq ?_
 refine rgA [0,3,18,19,20] ?_
 refine AW.block ?_
 refine AW.loopI (fun i : Nat => ⟨61, [(0, .isl 6 (p.map TStep.ro)), (3, .ptr 17 2 0 0), (18, .isl 6 (p.map TStep.ro)), (19, .int .i64 p.length), (20, .int .i64 i)], [(17, some ⟨2, [[nlc 1 ((parsT p i).map I1), nlc 1 ((depsOf (parsT p i)).map I1)]]⟩)]⟩) (fun i => i ≤ p.length ∧ ∀ k, k < i → oneF p k = 0) (fun i => p.length - i) (0) (by simp) (Less.of rfl (by simp [go_sem]) (by simp [go_sem, hts, parsT_zero])) ?_
 rintro i ⟨hi, hall⟩
 refine rgA [0,3,18,19,20,21] ?_
 refine AW.seq ?_
 refine AW.cond rfl ?_ ?_
 ·intro hc; try simp at hc
  all_goals (
 have hlt : i < p.length := by assumption
 obtain ⟨x, hx⟩ := at_some hlt
 have hxo := oneF_T hx
 refine AW.skipN (fun _ h => h) ?_
 refine AW.seq ?_
 refine AW.block ?_
 have hlo := ones_T (by omega) hall
 refine rg [0,3,5,18,19,20] ?_
 intro k hk; simp -dsimp [go_sem, -decide_eq_true_eq, -decide_eq_false_iff_not, hx]
 repeat' first | apply And.intro | refine hk _ ?_ | intro hg | omega | exact True.intro
 all_goals clear hk k
 refine AW.reg tiOk (fun _ => [1]) [0,3,6,18,19,20] ?_
 intro k hk; simp -dsimp (maxSteps := 2000000) [go_sem, -decide_eq_true_eq, -decide_eq_false_iff_not, hx]
 repeat' first | apply And.intro | refine hk _ ?_ | intro hg | (refine CallK.intro (dc_impl_stepFault x (hg x (List.mem_of_getElem? hx)) (parsT p i) hlo (by rw [parsT_len (by omega)]; omega)) ?_; simp -dsimp (maxSteps := 2000000) [go_sem, -decide_eq_true_eq, -decide_eq_false_iff_not, hx]) | omega | exact True.intro
 all_goals clear hk k
 refine rg [0,3,6,18,19,20,28] ?_
 intro k hk; simp -dsimp [go_sem, -decide_eq_true_eq, -decide_eq_false_iff_not, hx]
 repeat' first | apply And.intro | refine hk _ ?_ | intro hg | omega | exact True.intro
 all_goals clear hk k
 refine AW.cond rfl ?_ ?_
 ·intro hc; try simp at hc
  all_goals (
 refine rg [2] ?_
 intro k hk; simp -dsimp [go_sem, -decide_eq_true_eq, -decide_eq_false_iff_not, hx]
 repeat' first | apply And.intro | refine hk _ ?_ | intro hg | omega | exact True.intro
 all_goals clear hk k
 refine rt ?_
 first | (rw [procF_len (by simpa using hc)]; simp [go_sem, Try.results13]; done) | (rw [procF_ok hR h1 h2 h3]; simp [go_sem, Try.results13]; done) | (rw [procF_ty hR h1 h2 hlt hal3 (by first | assumption | simpa using hc)]; simp [go_sem, Try.results13]; done) | (rw [procF_shape hR h1 hlt hal2 (by first | assumption | simpa using hc)]; simp [go_sem, Try.results13]; done) | (rw [procF_one hR hlt hall (by rw [hxo]; first | assumption | simpa using hc), hxo]; simp [go_sem, Try.results13]))
 ·intro hc; try simp at hc
  all_goals (
 refine AW.skipN (fun _ h => h) ?_
 refine rgK ?_
 intro k hk; simp -dsimp [go_sem, -decide_eq_true_eq, -decide_eq_false_iff_not, hx]
 repeat' first | apply And.intro | refine hk _ ?_ | intro hg | omega | exact True.intro
 all_goals clear hk k
 show ∃ _, _
 have hw := wrapi hlt (by omega)
 have hz : stepF (parsT p i) x = 0 := by simpa using hc
 have hpz := stepF_par hz
 have htn := parsT_next hx
 refine ⟨i + 1, ⟨by omega, upto hall (by rw [hxo]; exact hz)⟩, by omega, Less.of rfl (by simp [go_sem, hw]) (by simp [go_sem, htn, nxtL_app hpz, nxtD_deps (ones_T (by omega) hall) hpz])⟩))
 ·intro hc; try simp at hc
  all_goals (
 refine AW.exitN (fun _ h => h) ?_
 refine AW.seq ?_
 have h1 : ∀ k, k < p.length → oneF p k = 0 := fun k hk => hall k (by omega)
 have ho : StepsOk p := ⟨by omega, h1⟩
 refine rgA [0,32,33] ?_
 refine AW.block ?_
 refine AW.loopI (fun i : Nat => ⟨61, [(0, .isl 6 (p.map TStep.ro)), (32, .int .i64 p.length), (33, .int .i64 i)], []⟩) (fun i => i ≤ p.length ∧ ∀ k, k < i → shapeF p k = 0) (fun i => p.length - i) (0) (by simp) (Less.of rfl (by simp [go_sem]) (by simp [go_sem])) ?_
 rintro i ⟨hi, hal2⟩
 refine rgA [0,32,33,34] ?_
 refine AW.seq ?_
 refine AW.cond rfl ?_ ?_
 ·intro hc; try simp at hc
  all_goals (
 have hlt : i < p.length := by assumption
 refine AW.skipN (fun _ h => h) ?_
 refine AW.seq ?_
 refine AW.block ?_
 refine rgA [0,7,32,33] ?_
 refine rg [0,8,32,33] ?_
 intro k hk; simp -dsimp (maxSteps := 2000000) [go_sem, -decide_eq_true_eq, -decide_eq_false_iff_not]
 repeat' first | apply And.intro | refine hk _ ?_ | intro hg | (refine CallK.intro (dc_impl_condFault p ho i hlt hg) ?_; simp -dsimp (maxSteps := 2000000) [go_sem, -decide_eq_true_eq, -decide_eq_false_iff_not]) | omega | exact True.intro
 all_goals clear hk k
 refine rgA [0,8,32,33,40] ?_
 refine AW.cond rfl ?_ ?_
 ·intro hc; try simp at hc
  all_goals (
 refine rgA [2] ?_
 refine rt ?_
 first | (rw [procF_len (by simpa using hc)]; simp [go_sem, Try.results13]; done) | (rw [procF_ok hR h1 h2 h3]; simp [go_sem, Try.results13]; done) | (rw [procF_ty hR h1 h2 hlt hal3 (by first | assumption | simpa using hc)]; simp [go_sem, Try.results13]; done) | (rw [procF_shape hR h1 hlt hal2 (by first | assumption | simpa using hc)]; simp [go_sem, Try.results13]; done) | (rw [procF_one hR hlt hall (by rw [hxo]; first | assumption | simpa using hc), hxo]; simp [go_sem, Try.results13]))
 ·intro hc; try simp at hc
  all_goals (
 refine AW.skipN (fun _ h => h) ?_
 refine rgKA ?_
 show ∃ _, _
 have hw := wrapi hlt (by omega)
 refine ⟨i + 1, ⟨by omega, upto hal2 (by first | assumption | simpa using hc)⟩, by omega, Less.of rfl (by simp [go_sem, hw]) (by simp [go_sem])⟩))
 ·intro hc; try simp at hc
  all_goals (
 refine AW.exitN (fun _ h => h) ?_
 refine AW.seq ?_
 have h2 : ∀ k, k < p.length → shapeF p k = 0 := fun k hk => hal2 k (by omega)
 refine rgA [43,44,45] ?_
 refine AW.block ?_
 refine AW.loopI (fun i : Nat => ⟨61, [(43, .isl 6 (p.map TStep.ro)), (44, .int .i64 p.length), (45, .int .i64 i)], []⟩) (fun i => i ≤ p.length ∧ ∀ k, k < i → tyF p k = 0) (fun i => p.length - i) (0) (by simp) (Less.of rfl (by simp [go_sem]) (by simp [go_sem])) ?_
 rintro i ⟨hi, hal3⟩
 refine rgA [43,44,45,46] ?_
 refine AW.seq ?_
 refine AW.cond rfl ?_ ?_
 ·intro hc; try simp at hc
  all_goals (
 have hlt : i < p.length := by assumption
 obtain ⟨x, hx⟩ := at_some hlt
 have hxt := tyF_at hx
 obtain ⟨g0, g1, g2⟩ := hg x (List.mem_of_getElem? hx)
 have hfc : firstC [typF x.cond 2, typF x.expr 1] = tyF p i := by rw [hxt]; simp [firstC_cons, firstC_nil] <;> grind
 refine AW.skipN (fun _ h => h) ?_
 refine AW.seq ?_
 refine AW.block ?_
 refine rg [10,43,44,45] ?_
 intro k hk; simp -dsimp [go_sem, -decide_eq_true_eq, -decide_eq_false_iff_not, hx, hfc]
 repeat' first | apply And.intro | refine hk _ ?_ | intro hg | omega | exact True.intro
 all_goals clear hk k
 refine rg [11,43,44,45] ?_
 intro k hk; simp -dsimp (maxSteps := 2000000) [go_sem, -decide_eq_true_eq, -decide_eq_false_iff_not, hx, hfc]
 repeat' first | ((refine Chk.keys ?_); simp only [go_sem, List.map_cons, List.map_nil, List.flatMap_cons, List.flatMap_nil, List.flatMap_append, List.append_nil, List.nil_append, List.cons_append]; decide +kernel) | apply And.intro | refine hk _ ?_ | intro hg | ((first | refine CallK.intro (dc_impl_typeFault x.cond 2 g1) ?_ | refine CallK.intro (dc_impl_typeFault x.expr 1 g2) ?_ | refine CallK.intro (dc_impl_firstCode [_, _] (by simp)) ?_ | refine CallK.intro (dc_impl_firstCode [_, _, _] (by simp)) ?_ | refine CallK.intro (dc_impl_firstCode [_, _, _, _] (by simp)) ?_); simp -dsimp (maxSteps := 2000000) [go_sem, -decide_eq_true_eq, -decide_eq_false_iff_not, hx, hfc]) | omega | exact True.intro
 all_goals clear hk k
 refine rg [11,43,44,45,58] ?_
 intro k hk; simp -dsimp [go_sem, -decide_eq_true_eq, -decide_eq_false_iff_not, hx, hfc]
 repeat' first | apply And.intro | refine hk _ ?_ | intro hg | omega | exact True.intro
 all_goals clear hk k
 refine AW.cond rfl ?_ ?_
 ·intro hc; try simp at hc
  all_goals (
 refine rg [2] ?_
 intro k hk; simp -dsimp [go_sem, -decide_eq_true_eq, -decide_eq_false_iff_not, hx, hfc]
 repeat' first | apply And.intro | refine hk _ ?_ | intro hg | omega | exact True.intro
 all_goals clear hk k
 refine rt ?_
 first | (rw [procF_len (by simpa using hc)]; simp [go_sem, Try.results13]; done) | (rw [procF_ok hR h1 h2 h3]; simp [go_sem, Try.results13]; done) | (rw [procF_ty hR h1 h2 hlt hal3 (by first | assumption | simpa using hc)]; simp [go_sem, Try.results13]; done) | (rw [procF_shape hR h1 hlt hal2 (by first | assumption | simpa using hc)]; simp [go_sem, Try.results13]; done) | (rw [procF_one hR hlt hall (by rw [hxo]; first | assumption | simpa using hc), hxo]; simp [go_sem, Try.results13]))
 ·intro hc; try simp at hc
  all_goals (
 refine AW.skipN (fun _ h => h) ?_
 refine rgK ?_
 intro k hk; simp -dsimp [go_sem, -decide_eq_true_eq, -decide_eq_false_iff_not, hx, hfc]
 repeat' first | apply And.intro | refine hk _ ?_ | intro hg | omega | exact True.intro
 all_goals clear hk k
 show ∃ _, _
 have hw := wrapi hlt (by omega)
 refine ⟨i + 1, ⟨by omega, upto hal3 (by first | assumption | simpa using hc)⟩, by omega, Less.of rfl (by simp [go_sem, hw]) (by simp [go_sem])⟩))
 ·intro hc; try simp at hc
  all_goals (
 refine AW.exitN (fun _ h => h) ?_
 have h3 : ∀ k, k < p.length → tyF p k = 0 := fun k hk => hal3 k (by omega)
 refine rgA [2] ?_
 refine rt ?_
 first | (rw [procF_len (by simpa using hc)]; simp [go_sem, Try.results13]; done) | (rw [procF_ok hR h1 h2 h3]; simp [go_sem, Try.results13]; done) | (rw [procF_ty hR h1 h2 hlt hal3 (by first | assumption | simpa using hc)]; simp [go_sem, Try.results13]; done) | (rw [procF_shape hR h1 hlt hal2 (by first | assumption | simpa using hc)]; simp [go_sem, Try.results13]; done) | (rw [procF_one hR hlt hall (by rw [hxo]; first | assumption | simpa using hc), hxo]; simp [go_sem, Try.results13])))))
end Go.AM
namespace Go.AM
def Kd (g : Nat → Nat → GR) (k : Int) : Prop := ∀ n, ∀ x ∈ (g k.toNat n).ns, 3 ≤ x.kind
theorem seq_kd {g : Nat → Nat → GR} {n : Nat} {ks : List Int} (h0 : ks ≠ []) (h : ∀ k ∈ ks, Kd g k) : ∀ i, i + 1 ≤ ks.length → ∀ x ∈ (seqN g n ks i).ns, 3 ≤ x.kind := by
 intro i
 induction i with
 | zero =>
  intro hi x hx
  obtain ⟨u, hu⟩ := at_some (l := ks) (i := 0) (by omega)
  have e : headI ks = u := by unfold headI; rw [List.getD_eq_getElem?_getD, hu]; rfl
  rw [seq_zero, e] at hx
  exact h u (List.mem_of_getElem? hu) n x hx
 | succ i ih =>
  intro hi x hx
  obtain ⟨u, hu⟩ := at_some (l := ks) (i := i + 1) (by omega)
  rw [seq_succ hu] at hx
  rcases List.mem_append.1 hx with hx | hx
  ·exact ih (by omega) x hx
  ·exact h u (List.mem_of_getElem? hu) _ x hx
theorem sd_kd {g : Nat → Nat → GR} {cd : Nat → List TNode} {n : Nat} {op : TGNode} (ho : 3 ≤ op.kind) {ks : List Int} (h : ∀ k ∈ ks, Kd g k) : ∀ i, i ≤ ks.length → ∀ x ∈ (sdN g cd n op ks i).ns, 3 ≤ x.kind := by
 intro i
 induction i with
 | zero => intro _ x hx; rw [sd_zero] at hx; rw [List.mem_singleton.1 hx]; exact ho
 | succ i ih =>
  intro hi x hx
  obtain ⟨u, hu⟩ := at_some (l := ks) (i := i) (by omega)
  rw [sd_succ hu] at hx
  rcases List.mem_append.1 hx with hx | hx
  ·exact ih (by omega) x hx
  ·exact h u (List.mem_of_getElem? hu) _ x hx
theorem sides_kd {g : Nat → Nat → GR} {cd : Nat → List TNode} {op cl : TGNode} (ho : 3 ≤ op.kind) (hc : 3 ≤ cl.kind) {ks : List Int} (h : ∀ k ∈ ks, Kd g k) (n : Nat) : ∀ x ∈ (sidesG g cd op cl ks n).ns, 3 ≤ x.kind := by
 intro x hx
 simp only [sidesG] at hx
 rcases List.mem_append.1 hx with hx | hx
 ·exact sd_kd ho h ks.length (Nat.le_refl _) x hx
 ·rw [List.mem_singleton.1 hx]; exact hc
theorem gstep_kd {p : List TStep} (hP : ProcOk p) : ∀ (f a : Nat), a < p.length → Kd (gstep p f) (a : Int) := by
 intro f
 induction f with
 | zero => intro a ha n x hx; simp [gstep] at hx
 | succ f ih =>
  intro a ha n x hx
  have hk : ∀ k ∈ kids p (a : Int), Kd (gstep p f) k := by
   intro k hk
   obtain ⟨m, rfl, h1, h2, _, _⟩ := hP.kid hk
   exact ih m h2
  have hm := hP.many ha
  rw [Int.toNat_natCast] at hx
  unfold gstep at hx
  have lf : ∀ y : TGNode, 3 ≤ y.kind → x ∈ (leafG y n).ns → 3 ≤ x.kind := by intro y hy h; rw [List.mem_singleton.1 h]; exact hy
  split at hx
  ·exact lf _ (by simp) hx
  split at hx
  ·exact lf _ (by simp) hx
  split at hx
  ·exact lf _ (by simp) hx
  split at hx
  ·exact lf _ (by simp) hx
  split at hx
  ·rename_i h1
   rw [h1] at hm
   have hlen := kid_one hm
   exact seq_kd (by intro e; rw [e] at hlen; simp at hlen) hk _ (by omega) x hx
  split at hx
  ·rename_i h8
   rw [h8] at hm
   have hlen := kid_two hm
   obtain ⟨k0, k1, hk2⟩ : ∃ k0 k1, kids p (a : Int) = [k0, k1] := by
    match hq : kids p (a : Int), hlen with
    | [x, y], _ => exact ⟨x, y, rfl⟩
   rw [hk2] at hk hx
   simp only [guardG, List.mem_append, List.mem_singleton] at hx
   rcases hx with (((hx | hx) | hx) | hx) | hx
   ·rw [hx]; simp
   ·exact hk k0 (by simp) _ x hx
   ·rw [hx]; simp
   ·exact hk k1 (by simp) _ x hx
   ·rw [hx]; simp
  split at hx
  ·exact sides_kd (by simp) (by simp) hk n x hx
  ·exact sides_kd (by simp) (by simp) hk n x hx
def isN (st : Int) (x : TGNode) : Bool := decide (x.step = st) && (decide (x.kind ≠ 1) && decide (x.kind ≠ 2))
theorem gNs_len (p : List TStep) : (gNs p).length = (gTop p).ns.length + 2 := by unfold gNs; rw [List.length_append, List.length_append]; simp only [List.length_singleton]; omega
theorem gNs_kind {p : List TStep} (hP : ProcOk p) {j : Nat} {x : TGNode} (h : (gNs p)[j]? = some x) : (j = 0 → x.kind = 1) ∧ (j + 1 = (gNs p).length → x.kind = 2) ∧ (0 < j → j + 1 < (gNs p).length → 3 ≤ x.kind) := by
 have hl := gNs_len p
 unfold gNs at h
 rw [List.append_assoc] at h
 refine ⟨fun e => ?_, fun e => ?_, fun e1 e2 => ?_⟩
 ·subst e; simp at h; rw [← h]
 ·have hj : j = 1 + (gTop p).ns.length := by omega
  subst hj
  rw [List.getElem?_append_right (by simp), List.getElem?_append_right (by simp)] at h
  simp at h; rw [← h]
 ·rw [List.getElem?_append_right (by simp; omega), List.getElem?_append_left (by simp; omega)] at h
  exact gstep_kd hP p.length 0 (by have := hP.len; omega) 1 x (List.mem_of_getElem? h)
def nfI (p : List TStep) (st : Int) : Int := idxF (isN st) (gNs p) 0
def nfC (p : List TStep) (st : Int) : Int := if procF p ≠ 0 then procF p else if inR st 0 ((p.length : Int) - 1) = false then 3 else if nfI p st < 0 then 4 else 0
def nfV (p : List TStep) (st : Int) : Int := if procF p ≠ 0 then 0 else if inR st 0 ((p.length : Int) - 1) = false then 0 else if nfI p st < 0 then 0 else nfI p st
end Go.AM
namespace Go.AM
open Go.Proofs
theorem dc_IndexGNode (f : Nat) (cs : List AV) (p : TGNode → Bool) (l : List TGNode) (hf : ∀ x ∈ l, DC Try.prog f [.agg x.ro, .ip cs] (.bool (p x)) []) (hl : l.length ≤ 9223372036854775807) : DC Try.prog 28 [.isl 5 (l.map TGNode.ro), .fn f [.ip cs]] (.int .i64 (idxF p l 0)) [] := by
 refine DC.intro tiOk Try.func28 rfl rfl rfl rfl rfl rfl rfl rfl [] ?_
 refine rgA [0,1] ?_
 refine AW.seq ?_
 refine rgA [0,1,7,8] ?_
 refine AW.block ?_
 refine AW.loopI (fun i : Nat => ⟨19, [(0, .isl 5 (l.map TGNode.ro)), (1, .fn f [.ip cs]), (7, .int .i64 l.length), (8, .int .i64 i)], []⟩) (fun i => i ≤ l.length ∧ idxF p l 0 = idxF p (l.drop i) i) (fun i => l.length - i) (0) (by simp) (Less.of rfl (by simp [go_sem]) (by simp [go_sem])) ?_
 rintro i ⟨hi, hinv⟩
 refine rgA [0,1,7,8,9] ?_
 refine AW.seq ?_
 refine AW.cond rfl ?_ ?_
 ·intro hc; try simp at hc
  all_goals (
 have hlt : i < l.length := by assumption
 obtain ⟨x, hx⟩ := at_some hlt
 refine AW.skipN (fun _ h => h) ?_
 refine AW.seq ?_
 refine AW.block ?_
 refine rg [0,1,5,7,8] ?_
 intro k hk; simp -dsimp [go_sem, -decide_eq_true_eq, -decide_eq_false_iff_not, hx]
 repeat' first | apply And.intro | refine hk _ ?_ | intro hg | omega | exact True.intro
 all_goals clear hk k
 refine rg [0,1,5,7,8,16] ?_
 intro k hk; simp -dsimp (maxSteps := 2000000) [go_sem, -decide_eq_true_eq, -decide_eq_false_iff_not, hx]
 repeat' first | apply And.intro | refine hk _ ?_ | intro hg | (refine CallK.intro (hf x (List.mem_of_getElem? hx)) ?_; simp -dsimp (maxSteps := 2000000) [go_sem, -decide_eq_true_eq, -decide_eq_false_iff_not, hx]) | omega | exact True.intro
 all_goals clear hk k
 refine AW.cond rfl ?_ ?_
 ·intro hc; try simp at hc
  all_goals (
 refine rg [4] ?_
 intro k hk; simp -dsimp [go_sem, -decide_eq_true_eq, -decide_eq_false_iff_not, hx]
 repeat' first | apply And.intro | refine hk _ ?_ | intro hg | omega | exact True.intro
 all_goals clear hk k
 refine rt ?_
 first | (rw [hinv, idxF_step hx, if_pos (by assumption)]; simp [go_sem, Try.results28]; done) | (rw [hinv, idxF_end (by omega)]; simp [go_sem, Try.results28]))
 ·intro hc; try simp at hc
  all_goals (
 refine AW.skipN (fun _ h => h) ?_
 refine rgK ?_
 intro k hk; simp -dsimp [go_sem, -decide_eq_true_eq, -decide_eq_false_iff_not, hx]
 repeat' first | apply And.intro | refine hk _ ?_ | intro hg | omega | exact True.intro
 all_goals clear hk k
 show ∃ _, _
 have hw := wrapi hlt hl
 refine ⟨i + 1, ⟨by omega, ?_⟩, by omega, Less.of rfl (by simp [go_sem, hw]) (by simp [go_sem])⟩
 rw [hinv, idxF_step hx, if_neg (by simp [*])]))
 ·intro hc; try simp at hc
  all_goals (
 refine AW.exitN (fun _ h => h) ?_
 refine rgA [4] ?_
 refine rt ?_
 first | (rw [hinv, idxF_step hx, if_pos (by assumption)]; simp [go_sem, Try.results28]; done) | (rw [hinv, idxF_end (by omega)]; simp [go_sem, Try.results28]))
theorem dc_impl_nodeFor_1 (x : TGNode) (st : Int) : DC Try.prog 29 [.agg x.ro, .ip [.int .i64 st]] (.bool (isN st x)) [] := by
 refine DC.intro tiOk Try.func29 rfl rfl rfl rfl rfl rfl rfl rfl [] ?_
 refine rgA [1,2] ?_
 refine rg [3] ?_
 intro k hk; simp +contextual -dsimp (maxSteps := 2000000) [go_sem, -decide_eq_true_eq, -decide_eq_false_iff_not]
 repeat' first | apply And.intro | refine hk _ ?_ | (intro hg; try simp only [decide_eq_true_eq, decide_eq_false_iff_not] at hg) | omega | exact True.intro
 all_goals clear hk k
 all_goals (
 refine rt ?_
 simp_all [go_sem, Try.results29, isN])
theorem dc_impl_nodeFor (l : List TGNode) (fs : List TFlow) (st : Int) (hl : l.length ≤ 1000) : DC Try.prog 16 [.agg [.isl 5 (l.map TGNode.ro), .isl 3 (fs.map TFlow.ro)], .int .i64 st] (.int .i64 (idxF (isN st) l 0)) [] := by
 refine DC.intro tiOk Try.func16 rfl rfl rfl rfl rfl rfl rfl rfl [] ?_
 refine rgA [2,3] ?_
 refine rg [4] ?_
 intro k hk; simp -dsimp (maxSteps := 2000000) [go_sem, -decide_eq_true_eq, -decide_eq_false_iff_not]
 repeat' first | apply And.intro | refine hk _ ?_ | intro hg | (refine CallK.intro (dc_IndexGNode 29 [.int .i64 st] (isN st) l (fun x _ => dc_impl_nodeFor_1 x st) (by omega)) ?_; simp -dsimp (maxSteps := 2000000) [go_sem, -decide_eq_true_eq, -decide_eq_false_iff_not]) | omega | exact True.intro
 all_goals clear hk k
 refine rt ?_
 simp [go_sem, Try.results16]
end Go.AM
namespace Go.AM
open Go.Proofs
theorem dc_impl_isPlace (n : Int) (m : Nat) (hm : m ≤ 9223372036854775807) : DC Try.prog 15 [.int .i64 n, .int .i64 (m : Nat)] (.bool (inR n 0 ((m : Int) - 1))) [] := by
 have hw : IntKind.wrap .i64 ((m : Int) - 1) = (m : Int) - 1 := wrap64 (by omega) (by omega)
 refine DC.intro tiOk Try.func15 rfl rfl rfl rfl rfl rfl rfl rfl [] ?_
 refine rg [0,1] ?_
 intro k hk; simp -dsimp [go_sem, -decide_eq_true_eq, -decide_eq_false_iff_not, hw]
 repeat' first | apply And.intro | refine hk _ ?_ | intro hg | omega | exact True.intro
 all_goals clear hk k
 refine rg [4] ?_
 intro k hk; simp -dsimp (maxSteps := 2000000) [go_sem, -decide_eq_true_eq, -decide_eq_false_iff_not, hw]
 repeat' first | apply And.intro | refine hk _ ?_ | intro hg | (refine CallK.intro (dc_impl_inRange _ _ _) ?_; simp -dsimp (maxSteps := 2000000) [go_sem, -decide_eq_true_eq, -decide_eq_false_iff_not, hw]) | omega | exact True.intro
 all_goals clear hk k
 refine rt ?_
 simp [go_sem, Try.results15]
end Go.AM
namespace Go.AM
open Go.Proofs
theorem dc_impl_NodeFor_bad (p : List TStep) (hg : p.length ≤ 9223372036854775807 ∧ ∀ e ∈ p, e.gok) (st : Int) (hl : procF p ≠ 0) : DC Try.prog 6 [.isl 6 (p.map TStep.ro), .int .i64 st] (.agg [.int .i64 (nfC p st), .int .i64 (nfV p st)]) [] := by
 refine DC.intro tiOk Try.func6 rfl rfl rfl rfl rfl rfl rfl rfl [] ?_
 refine rg [0,1,4] ?_
 intro k hk; simp -dsimp [go_sem, -decide_eq_true_eq, -decide_eq_false_iff_not, hl, firstC_cons, firstC_nil]
 repeat' first | apply And.intro | refine hk _ ?_ | intro hg | omega | exact True.intro
 all_goals clear hk k
 refine AW.seq ?_
 refine rg [0,1,4,5] ?_
 intro k hk; simp -dsimp (maxSteps := 2000000) [go_sem, -decide_eq_true_eq, -decide_eq_false_iff_not, hl, firstC_cons, firstC_nil]
 repeat' first | apply And.intro | refine hk _ ?_ | intro hg | ((first | refine CallK.intro (dc_impl_ProcFault p hg.1 hg.2) ?_ | refine CallK.intro (dc_impl_isPlace st p.length hg.1) ?_ | refine CallK.intro (dc_impl_codeIf _ _) ?_ | refine CallK.intro (dc_impl_firstCode [_, _] (by simp)) ?_ | refine CallK.intro (dc_impl_firstCode [_, _, _] (by simp)) ?_ | refine CallK.intro (dc_impl_firstCode [_, _, _, _] (by simp)) ?_); simp -dsimp (maxSteps := 2000000) [go_sem, -decide_eq_true_eq, -decide_eq_false_iff_not, hl, firstC_cons, firstC_nil]) | omega | exact True.intro
 all_goals clear hk k
 refine rg [0,1,4,5,18] ?_
 intro k hk; simp -dsimp [go_sem, -decide_eq_true_eq, -decide_eq_false_iff_not, hl, firstC_cons, firstC_nil]
 repeat' first | apply And.intro | refine hk _ ?_ | intro hg | omega | exact True.intro
 all_goals clear hk k
 refine AW.cond rfl ?_ ?_
 ·intro hc; try simp at hc
  all_goals try (exfalso; first | contradiction | omega | (simp_all; done); done)
  all_goals (
 refine rg [4] ?_
 intro k hk; simp -dsimp [go_sem, -decide_eq_true_eq, -decide_eq_false_iff_not, hl, firstC_cons, firstC_nil]
 repeat' first | apply And.intro | refine hk _ ?_ | intro hg | omega | exact True.intro
 all_goals clear hk k
 refine rt ?_
 simp_all [go_sem, Try.results6, nfC, nfV])
 ·intro hc; try simp at hc
  all_goals try (exfalso; first | contradiction | omega | (simp_all; done); done)
  all_goals (
 refine AW.skipN (fun _ h => h) ?_
 skip)
theorem dc_impl_NodeFor_rng (p : List TStep) (hg : p.length ≤ 9223372036854775807 ∧ ∀ e ∈ p, e.gok) (st : Int) (hl : procF p = 0) (hr : inR st 0 ((p.length : Int) - 1) = false) : DC Try.prog 6 [.isl 6 (p.map TStep.ro), .int .i64 st] (.agg [.int .i64 (nfC p st), .int .i64 (nfV p st)]) [] := by
 have hP := procOk hl
 have hpl := hP.len
 have hfw := gTop_few hP
 have hnl := gNs_len p
 have ht0 : List.take (gNs p).length ((gNs p).map TGNode.ro) = (gNs p).map TGNode.ro := List.take_of_length_le (by rw [List.length_map]; exact Nat.le_refl _)
 have ht1 : List.take (gNs p).length ((gNs p).map TGNode.oc) = (gNs p).map TGNode.oc := List.take_of_length_le (by rw [List.length_map]; exact Nat.le_refl _)
 have ht2 : List.take (srt TFlow.frm (gFl p)).length ((srt TFlow.frm (gFl p)).map TFlow.ro) = (srt TFlow.frm (gFl p)).map TFlow.ro := List.take_of_length_le (by rw [List.length_map]; exact Nat.le_refl _)
 have ht3 : List.take (srt TFlow.frm (gFl p)).length ((srt TFlow.frm (gFl p)).map TFlow.oc) = (srt TFlow.frm (gFl p)).map TFlow.oc := List.take_of_length_le (by rw [List.length_map]; exact Nat.le_refl _)
 refine DC.intro tiOk Try.func6 rfl rfl rfl rfl rfl rfl rfl rfl [] ?_
 refine rg [0,1,4] ?_
 intro k hk; simp -dsimp [go_sem, -decide_eq_true_eq, -decide_eq_false_iff_not, hl, hr, firstC_cons, firstC_nil]
 repeat' first | apply And.intro | refine hk _ ?_ | intro hg | omega | exact True.intro
 all_goals clear hk k
 refine AW.seq ?_
 refine rg [0,1,4,5] ?_
 intro k hk; simp -dsimp (maxSteps := 2000000) [go_sem, -decide_eq_true_eq, -decide_eq_false_iff_not, hl, hr, firstC_cons, firstC_nil]
 repeat' first | apply And.intro | refine hk _ ?_ | intro hg | ((first | refine CallK.intro (dc_impl_ProcFault p hg.1 hg.2) ?_ | refine CallK.intro (dc_impl_isPlace st p.length hg.1) ?_ | refine CallK.intro (dc_impl_codeIf _ _) ?_ | refine CallK.intro (dc_impl_firstCode [_, _] (by simp)) ?_ | refine CallK.intro (dc_impl_firstCode [_, _, _] (by simp)) ?_ | refine CallK.intro (dc_impl_firstCode [_, _, _, _] (by simp)) ?_); simp -dsimp (maxSteps := 2000000) [go_sem, -decide_eq_true_eq, -decide_eq_false_iff_not, hl, hr, firstC_cons, firstC_nil]) | omega | exact True.intro
 all_goals clear hk k
 refine rg [0,1,4,5,18] ?_
 intro k hk; simp -dsimp [go_sem, -decide_eq_true_eq, -decide_eq_false_iff_not, hl, hr, firstC_cons, firstC_nil]
 repeat' first | apply And.intro | refine hk _ ?_ | intro hg | omega | exact True.intro
 all_goals clear hk k
 refine AW.cond rfl ?_ ?_
 ·intro hc; try simp at hc
  all_goals try (exfalso; first | contradiction | omega | (simp_all; done); done)
  all_goals (
 refine rg [4] ?_
 intro k hk; simp -dsimp [go_sem, -decide_eq_true_eq, -decide_eq_false_iff_not, hl, hr, firstC_cons, firstC_nil]
 repeat' first | apply And.intro | refine hk _ ?_ | intro hg | omega | exact True.intro
 all_goals clear hk k
 refine rt ?_
 simp_all [go_sem, Try.results6, nfC, nfV])
 ·intro hc; try simp at hc
  all_goals try (exfalso; first | contradiction | omega | (simp_all; done); done)
  all_goals (
 refine AW.skipN (fun _ h => h) ?_
 skip)
theorem dc_impl_NodeFor_ok (p : List TStep) (hg : p.length ≤ 9223372036854775807 ∧ ∀ e ∈ p, e.gok) (st : Int) (hl : procF p = 0) (hr : inR st 0 ((p.length : Int) - 1) = true) : DC Try.prog 6 [.isl 6 (p.map TStep.ro), .int .i64 st] (.agg [.int .i64 (nfC p st), .int .i64 (nfV p st)]) [] := by
 have hP := procOk hl
 have hpl := hP.len
 have hfw := gTop_few hP
 have hnl := gNs_len p
 have ht0 : List.take (gNs p).length ((gNs p).map TGNode.ro) = (gNs p).map TGNode.ro := List.take_of_length_le (by rw [List.length_map]; exact Nat.le_refl _)
 have ht1 : List.take (gNs p).length ((gNs p).map TGNode.oc) = (gNs p).map TGNode.oc := List.take_of_length_le (by rw [List.length_map]; exact Nat.le_refl _)
 have ht2 : List.take (srt TFlow.frm (gFl p)).length ((srt TFlow.frm (gFl p)).map TFlow.ro) = (srt TFlow.frm (gFl p)).map TFlow.ro := List.take_of_length_le (by rw [List.length_map]; exact Nat.le_refl _)
 have ht3 : List.take (srt TFlow.frm (gFl p)).length ((srt TFlow.frm (gFl p)).map TFlow.oc) = (srt TFlow.frm (gFl p)).map TFlow.oc := List.take_of_length_le (by rw [List.length_map]; exact Nat.le_refl _)
 refine DC.intro tiOk Try.func6 rfl rfl rfl rfl rfl rfl rfl rfl [] ?_
 refine rg [0,1,4] ?_
 intro k hk; simp -dsimp [go_sem, -decide_eq_true_eq, -decide_eq_false_iff_not, hl, hr, firstC_cons, firstC_nil]
 repeat' first | apply And.intro | refine hk _ ?_ | intro hg | omega | exact True.intro
 all_goals clear hk k
 refine AW.seq ?_
 refine rg [0,1,4,5] ?_
 intro k hk; simp -dsimp (maxSteps := 2000000) [go_sem, -decide_eq_true_eq, -decide_eq_false_iff_not, hl, hr, firstC_cons, firstC_nil]
 repeat' first | apply And.intro | refine hk _ ?_ | intro hg | ((first | refine CallK.intro (dc_impl_ProcFault p hg.1 hg.2) ?_ | refine CallK.intro (dc_impl_isPlace st p.length hg.1) ?_ | refine CallK.intro (dc_impl_codeIf _ _) ?_ | refine CallK.intro (dc_impl_firstCode [_, _] (by simp)) ?_ | refine CallK.intro (dc_impl_firstCode [_, _, _] (by simp)) ?_ | refine CallK.intro (dc_impl_firstCode [_, _, _, _] (by simp)) ?_); simp -dsimp (maxSteps := 2000000) [go_sem, -decide_eq_true_eq, -decide_eq_false_iff_not, hl, hr, firstC_cons, firstC_nil]) | omega | exact True.intro
 all_goals clear hk k
 refine rg [0,1,4,5,18] ?_
 intro k hk; simp -dsimp [go_sem, -decide_eq_true_eq, -decide_eq_false_iff_not, hl, hr, firstC_cons, firstC_nil]
 repeat' first | apply And.intro | refine hk _ ?_ | intro hg | omega | exact True.intro
 all_goals clear hk k
 refine AW.cond rfl ?_ ?_
 ·intro hc; try simp at hc
  all_goals try (exfalso; first | contradiction | omega | (simp_all; done); done)
  all_goals (
 skip)
 ·intro hc; try simp at hc
  all_goals try (exfalso; first | contradiction | omega | (simp_all; done); done)
  all_goals (
 refine AW.skipN (fun _ h => h) ?_
 have hnf : idxF (isN st) (gNs p) 0 = nfI p st := rfl
 have hcn : ((fun x => List.map unown x) ∘ TGNode.oc) = TGNode.ro := funext TGNode_oc_un
 have hcf : ((fun x => List.map unown x) ∘ TFlow.oc) = TFlow.ro := funext TFlow_oc_un
 refine rg [4,6] ?_
 intro k hk; simp -dsimp (maxSteps := 2000000) [go_sem, -decide_eq_true_eq, -decide_eq_false_iff_not, hl, hr, firstC_cons, firstC_nil, hnf, ht0, ht1, ht2, ht3, hcn, hcf]
 repeat' first | apply And.intro | refine hk _ ?_ | intro hg | ((first | refine CallK.intro (dc_impl_graphOf p hP) ?_ | refine CallK.intro (dc_impl_nodeFor (gNs p) (srt TFlow.frm (gFl p)) st (by omega)) ?_); simp -dsimp (maxSteps := 2000000) [go_sem, -decide_eq_true_eq, -decide_eq_false_iff_not, hl, hr, firstC_cons, firstC_nil, hnf, ht0, ht1, ht2, ht3, hcn, hcf]) | omega | exact True.intro
 all_goals clear hk k
 refine AW.seq ?_
 refine rg [4,6,26] ?_
 intro k hk; simp -dsimp [go_sem, -decide_eq_true_eq, -decide_eq_false_iff_not, hl, hr, firstC_cons, firstC_nil]
 repeat' first | apply And.intro | refine hk _ ?_ | intro hg | omega | exact True.intro
 all_goals clear hk k
 refine AW.cond rfl ?_ ?_
 ·intro hc; try simp at hc
  all_goals try (exfalso; first | contradiction | omega | (simp_all; done); done)
  all_goals (
 refine rg [4] ?_
 intro k hk; simp -dsimp [go_sem, -decide_eq_true_eq, -decide_eq_false_iff_not, hl, hr, firstC_cons, firstC_nil]
 repeat' first | apply And.intro | refine hk _ ?_ | intro hg | omega | exact True.intro
 all_goals clear hk k
 refine rt ?_
 first | (have hneg : nfI p st < 0 := (by first | assumption | (simp at hc; assumption)); simp [go_sem, Try.results6, nfC, nfV, hl, hr, hneg]; done) | (have hneg : ¬ nfI p st < 0 := (by first | assumption | omega | (simp at hc; omega)); simp [go_sem, Try.results6, nfC, nfV, hl, hr, hneg]))
 ·intro hc; try simp at hc
  all_goals try (exfalso; first | contradiction | omega | (simp_all; done); done)
  all_goals (
 refine AW.skipN (fun _ h => h) ?_
 refine rg [4] ?_
 intro k hk; simp -dsimp [go_sem, -decide_eq_true_eq, -decide_eq_false_iff_not, hl, hr, firstC_cons, firstC_nil]
 repeat' first | apply And.intro | refine hk _ ?_ | intro hg | omega | exact True.intro
 all_goals clear hk k
 refine rt ?_
 first | (have hneg : nfI p st < 0 := (by first | assumption | (simp at hc; assumption)); simp [go_sem, Try.results6, nfC, nfV, hl, hr, hneg]; done) | (have hneg : ¬ nfI p st < 0 := (by first | assumption | omega | (simp at hc; omega)); simp [go_sem, Try.results6, nfC, nfV, hl, hr, hneg])))
theorem dc_impl_NodeFor (p : List TStep) (hg : p.length ≤ 9223372036854775807 ∧ ∀ e ∈ p, e.gok) (st : Int) : DC Try.prog 6 [.isl 6 (p.map TStep.ro), .int .i64 st] (.agg [.int .i64 (nfC p st), .int .i64 (nfV p st)]) [] := by
 by_cases hl : procF p = 0
 · cases hr : inR st 0 ((p.length : Int) - 1) with
  | true => exact dc_impl_NodeFor_ok p hg st hl hr
  | false => exact dc_impl_NodeFor_rng p hg st hl hr
 · exact dc_impl_NodeFor_bad p hg st hl
end Go.AM
namespace Go.AM
open Go.Proofs
set_option maxHeartbeats 4000000 in
theorem dc_spec_l6Link_n0 (ns : List TGNode) (fr to : Int) : DC Try.prog 60 [.op [nlc 5 (ns.map TGNode.oc), .nils], .int .i64 fr, .int .i64 to, .nils] (.tup []) [(0, .op [nlc 5 (ns.map TGNode.oc), .osl 3 [[AV.int .i64 fr, .int .i64 to, owc 4 (([] : List TNode).map TNode.ro)]]])] := by
 have hcl : ([] : List TNode).length ≤ 1048576 := by first | exact hc0 | simp
 refine DC.introG tiOk Try.func60 rfl rfl rfl rfl rfl rfl rfl (by simp [noW, noWo]) [] ?_
 refine rgA [0,1,8] ?_
 refine rgA [0,1,8,9] ?_
 refine AW.seq ?_
 refine AW.block ?_
 refine AW.loopI (fun _ : Nat => ⟨60, [(0, .ptr 1900 2 0 0), (1, .int .i64 fr), (8, .ptr 8 3 0 0), (9, .int .i64 0)], [(15, some ⟨4, ([] : List TNode).map TNode.ro⟩), (8, some ⟨3, [[.int .i64 fr, .int .i64 to, .sl 15 4 0 ([] : List TNode).length]]⟩), (1900, some ⟨2, [[nlc 5 (ns.map TGNode.oc), .nils]]⟩)]⟩) (fun _ => True) (fun _ => 0) (0) (trivial) (Less.of rfl (by simp [go_sem]) (by simp [go_sem])) ?_
 rintro i _
 refine AW.seq ?_
 refine rg [0,1,8,9,35] ?_
 intro k hk; simp -dsimp (maxSteps := 2000000) [go_sem, -decide_eq_true_eq, -decide_eq_false_iff_not]
 repeat' first | apply And.intro | refine hk _ ?_ | (intro hg; try simp only [decide_eq_true_eq, decide_eq_false_iff_not] at hg) | omega | exact True.intro
 all_goals clear hk k
 all_goals (
 refine AW.cond rfl ?_ ?_
 ·intro hc; try simp at hc
  all_goals try (exfalso; first | omega | (simp at hc; done); done)
  all_goals (
 refine AW.skipN (fun _ h => h) ?_
 refine AW.block ?_
 refine rgKA ?_
 show ∃ _, _
 exact absurd hc (by simp))
 ·intro hc; try simp at hc
  all_goals try (exfalso; first | omega | (simp at hc; done); done)
  all_goals (
 refine AW.exitN (fun _ h => h) ?_
 refine rgA [0,8,9,10] ?_
 refine rgE (fun _ => []) ?_
 intro k hk; simp -dsimp (maxSteps := 2000000) [go_sem, -decide_eq_true_eq, -decide_eq_false_iff_not]
 repeat' first | ((refine Chk.keys ?_); simp only [go_sem, List.map_cons, List.map_nil, List.flatMap_cons, List.flatMap_nil, List.flatMap_append, List.append_nil, List.nil_append, List.cons_append]; decide +kernel) | apply And.intro | refine hk _ ?_ | intro hg | omega | exact True.intro
 all_goals clear hk k
 refine ⟨.intro, And.intro (.inl rfl) ?_⟩
 refine Gh.fold 57 0 2 15 rfl rfl rfl rfl (by simp) (by decide) (by simp [go_sem]) ?_
 refine Gh.cellLe 57 0 2 (owc 4 (([] : List TNode).map TNode.ro)) rfl rfl rfl (by simp [go_sem]) ?_
 refine Gh.fold 1900 0 1 57 rfl rfl rfl rfl (by simp) (by decide) (by simp [go_sem]) ?_
 refine Gh.done ?_
 simp [go_sem, Try.results60]))
set_option maxHeartbeats 4000000 in
theorem dc_spec_l6Link_c0 (ns : List TGNode) (fr to : Int) (cc : List TNode) (hc0 : cc.length ≤ 1048576) : DC Try.prog 60 [.op [nlc 5 (ns.map TGNode.oc), .nils], .int .i64 fr, .int .i64 to, .isl 4 (cc.map TNode.ro)] (.tup []) [(0, .op [nlc 5 (ns.map TGNode.oc), .osl 3 [[AV.int .i64 fr, .int .i64 to, owc 4 (cc.map TNode.ro)]]])] := by
 have hcl : cc.length ≤ 1048576 := by first | exact hc0 | simp
 refine DC.introG tiOk Try.func60 rfl rfl rfl rfl rfl rfl rfl (by simp [noW, noWo]) [] ?_
 refine rgA [0,1,8] ?_
 refine rgA [0,1,8,9] ?_
 refine AW.seq ?_
 refine AW.block ?_
 refine AW.loopI (fun _ : Nat => ⟨60, [(0, .ptr 1900 2 0 0), (1, .int .i64 fr), (8, .ptr 8 3 0 0), (9, .int .i64 0)], [(15, some ⟨4, cc.map TNode.ro⟩), (8, some ⟨3, [[.int .i64 fr, .int .i64 to, .sl 15 4 0 cc.length]]⟩), (1900, some ⟨2, [[nlc 5 (ns.map TGNode.oc), .nils]]⟩)]⟩) (fun _ => True) (fun _ => 0) (0) (trivial) (Less.of rfl (by simp [go_sem]) (by simp [go_sem])) ?_
 rintro i _
 refine AW.seq ?_
 refine rg [0,1,8,9,35] ?_
 intro k hk; simp -dsimp (maxSteps := 2000000) [go_sem, -decide_eq_true_eq, -decide_eq_false_iff_not]
 repeat' first | apply And.intro | refine hk _ ?_ | (intro hg; try simp only [decide_eq_true_eq, decide_eq_false_iff_not] at hg) | omega | exact True.intro
 all_goals clear hk k
 all_goals (
 refine AW.cond rfl ?_ ?_
 ·intro hc; try simp at hc
  all_goals try (exfalso; first | omega | (simp at hc; done); done)
  all_goals (
 refine AW.skipN (fun _ h => h) ?_
 refine AW.block ?_
 refine rgKA ?_
 show ∃ _, _
 exact absurd hc (by simp))
 ·intro hc; try simp at hc
  all_goals try (exfalso; first | omega | (simp at hc; done); done)
  all_goals (
 refine AW.exitN (fun _ h => h) ?_
 refine rgA [0,8,9,10] ?_
 refine rgE (fun _ => []) ?_
 intro k hk; simp -dsimp (maxSteps := 2000000) [go_sem, -decide_eq_true_eq, -decide_eq_false_iff_not]
 repeat' first | ((refine Chk.keys ?_); simp only [go_sem, List.map_cons, List.map_nil, List.flatMap_cons, List.flatMap_nil, List.flatMap_append, List.append_nil, List.nil_append, List.cons_append]; decide +kernel) | apply And.intro | refine hk _ ?_ | intro hg | omega | exact True.intro
 all_goals clear hk k
 refine ⟨.intro, And.intro (.inl rfl) ?_⟩
 refine Gh.fold 57 0 2 15 rfl rfl rfl rfl (by simp) (by decide) (by simp [go_sem]) ?_
 refine Gh.cellLe 57 0 2 (owc 4 (cc.map TNode.ro)) rfl rfl rfl (by simp [go_sem]) ?_
 refine Gh.fold 1900 0 1 57 rfl rfl rfl rfl (by simp) (by decide) (by simp [go_sem]) ?_
 refine Gh.done ?_
 simp [go_sem, Try.results60]))
end Go.AM
namespace Go.AM
open Go.Proofs
set_option maxHeartbeats 8000000 in
theorem dc_spec_l6Link_nv (ns : List TGNode) (vs : List VF) (n : Nat) (hnl : n ≤ vs.length) (hvl : vs.length ≤ 1000) (fr to : Int) (h1 : ∀ (i : Nat) x, i < n → vs[i]? = some x → x.src ≤ fr) (h2 : ∀ x, vs[n]? = some x → fr < x.src) : DC Try.prog 60 [.op [nlc 5 (ns.map TGNode.oc), .osl 3 (vs.map VF.row)], .int .i64 fr, .int .i64 to, .nils] (.tup []) [(0, .op [nlc 5 (ns.map TGNode.oc), .osl 3 ((vs.map VF.row).take n ++ [AV.int .i64 fr, .int .i64 to, owc 4 (([] : List TNode).map TNode.ro)] :: (vs.map VF.row).drop n)])] := by
 have hcl : ([] : List TNode).length ≤ 1048576 := by first | exact hc0 | simp
 refine DC.introG tiOk Try.func60 rfl rfl rfl rfl rfl rfl rfl (by simp [noW, noWo]) [] ?_
 refine AW.thaw 1900 0 1 7001 rfl rfl rfl (by simp [go_sem]) ?_
 refine rgA [0,1,8] ?_
 refine rgA [0,1,8,9] ?_
 refine AW.seq ?_
 refine AW.block ?_
 refine AW.loopI (fun i : Nat => ⟨60, [(0, .ptr 1900 2 0 0), (1, .int .i64 fr), (8, .ptr 8 3 0 0), (9, .int .i64 (i : Nat))], [(15, some ⟨4, ([] : List TNode).map TNode.ro⟩), (8, some ⟨3, [[.int .i64 fr, .int .i64 to, .sl 15 4 0 ([] : List TNode).length]]⟩), (7001, some ⟨3, vs.map VF.row⟩), (1900, some ⟨2, [[nlc 5 (ns.map TGNode.oc), .sl 7001 3 0 vs.length]]⟩)]⟩) (fun i => i ≤ n) (fun i => n - i) (0) (Nat.zero_le _) (Less.of rfl (by simp [go_sem]) (by simp [go_sem])) ?_
 rintro i hi
 have hcs := link_look hnl hi h1 h2
 refine AW.seq ?_
 rcases hcs with ⟨h3, h4, x, hx, h5, h6⟩ | ⟨h3, h4, x, hx, h5, h6⟩ | ⟨h3, h4, x, hx, h5, h6⟩
 all_goals (
 refine rg [0,1,8,9,35] ?_
 intro k hk; simp -dsimp (maxSteps := 2000000) [go_sem, -decide_eq_true_eq, -decide_eq_false_iff_not, h4, hx, h5, h6]
 repeat' first | apply And.intro | refine hk _ ?_ | (intro hg; try simp only [decide_eq_true_eq, decide_eq_false_iff_not] at hg) | omega | exact True.intro
 all_goals clear hk k
 all_goals (
 refine AW.cond rfl ?_ ?_
 ·intro hc; try simp at hc
  all_goals try (exfalso; first | omega | contradiction | (simp at hc; done); done)
  all_goals (
 refine AW.skipN (fun _ h => h) ?_
 refine AW.block ?_
 refine rgKA ?_
 show ∃ _, _
 have hww : IntKind.wrap .i64 ((i : Int) + 1) = (i : Int) + 1 := wrap64 (by omega) (by omega)
 refine ⟨i + 1, by omega, by omega, Less.of rfl (by simp [go_sem, hww]) (by simp [go_sem])⟩)
 ·intro hc; try simp at hc
  all_goals try (exfalso; first | omega | contradiction | (simp at hc; done); done)
  all_goals (
 refine AW.exitN (fun _ h => h) ?_
 have hin : i = n := by omega
 have hmn : min n vs.length = n := Nat.min_eq_left hnl
 have htt : ((vs.map VF.row).take n).take n = (vs.map VF.row).take n := List.take_of_length_le (by rw [List.length_take]; omega)
 have hta : ∀ r : List AV, ((vs.map VF.row).take n ++ [r]).take (n + 1) = (vs.map VF.row).take n ++ [r] := fun r => List.take_of_length_le (by rw [List.length_append, List.length_take, List.length_map]; simp; omega)
 have hdd : ((vs.map VF.row).drop n).take (vs.length - n) = (vs.map VF.row).drop n := List.take_of_length_le (by rw [List.length_drop, List.length_map]; omega)
 refine rg [0,8,9,10] ?_
 intro k hk; simp -dsimp (maxSteps := 2000000) [go_sem, -decide_eq_true_eq, -decide_eq_false_iff_not, hin, hnl, hmn]
 repeat' first | apply And.intro | refine hk _ ?_ | intro hg | omega | exact True.intro
 all_goals clear hk k
 refine rgE (fun _ => []) ?_
 intro k hk; simp -dsimp (maxSteps := 2000000) [go_sem, -decide_eq_true_eq, -decide_eq_false_iff_not, hin, hnl, hmn, htt, hdd, hta]
 repeat' first | ((refine Chk.keys ?_); simp only [go_sem, List.map_cons, List.map_nil, List.flatMap_cons, List.flatMap_nil, List.flatMap_append, List.append_nil, List.nil_append, List.cons_append]; decide +kernel) | apply And.intro | refine hk _ ?_ | intro hg | omega | exact True.intro
 all_goals clear hk k
 refine ⟨.intro, And.intro (.inl rfl) ?_⟩
 refine Gh.fold 57 n 2 15 rfl (link_here hnl) rfl rfl (by simp) (by decide) (by simp [go_sem]) ?_
 rw [link_set hnl]
 refine Gh.cellLe 57 n 2 (owc 4 (([] : List TNode).map TNode.ro)) rfl (link_here hnl) rfl (by simp [go_sem]) ?_
 rw [link_set hnl]
 refine Gh.fold 1900 0 1 57 rfl rfl rfl rfl (by simp; omega) (by decide) (vf_tree (by simp [go_sem])) ?_
 refine Gh.done ?_
 simp [go_sem, Try.results60])))
set_option maxHeartbeats 8000000 in
theorem dc_spec_l6Link_cv (ns : List TGNode) (vs : List VF) (n : Nat) (hnl : n ≤ vs.length) (hvl : vs.length ≤ 1000) (fr to : Int) (h1 : ∀ (i : Nat) x, i < n → vs[i]? = some x → x.src ≤ fr) (h2 : ∀ x, vs[n]? = some x → fr < x.src) (cc : List TNode) (hc0 : cc.length ≤ 1048576) : DC Try.prog 60 [.op [nlc 5 (ns.map TGNode.oc), .osl 3 (vs.map VF.row)], .int .i64 fr, .int .i64 to, .isl 4 (cc.map TNode.ro)] (.tup []) [(0, .op [nlc 5 (ns.map TGNode.oc), .osl 3 ((vs.map VF.row).take n ++ [AV.int .i64 fr, .int .i64 to, owc 4 (cc.map TNode.ro)] :: (vs.map VF.row).drop n)])] := by
 have hcl : cc.length ≤ 1048576 := by first | exact hc0 | simp
 refine DC.introG tiOk Try.func60 rfl rfl rfl rfl rfl rfl rfl (by simp [noW, noWo]) [] ?_
 refine AW.thaw 1900 0 1 7001 rfl rfl rfl (by simp [go_sem]) ?_
 refine rgA [0,1,8] ?_
 refine rgA [0,1,8,9] ?_
 refine AW.seq ?_
 refine AW.block ?_
 refine AW.loopI (fun i : Nat => ⟨60, [(0, .ptr 1900 2 0 0), (1, .int .i64 fr), (8, .ptr 8 3 0 0), (9, .int .i64 (i : Nat))], [(15, some ⟨4, cc.map TNode.ro⟩), (8, some ⟨3, [[.int .i64 fr, .int .i64 to, .sl 15 4 0 cc.length]]⟩), (7001, some ⟨3, vs.map VF.row⟩), (1900, some ⟨2, [[nlc 5 (ns.map TGNode.oc), .sl 7001 3 0 vs.length]]⟩)]⟩) (fun i => i ≤ n) (fun i => n - i) (0) (Nat.zero_le _) (Less.of rfl (by simp [go_sem]) (by simp [go_sem])) ?_
 rintro i hi
 have hcs := link_look hnl hi h1 h2
 refine AW.seq ?_
 rcases hcs with ⟨h3, h4, x, hx, h5, h6⟩ | ⟨h3, h4, x, hx, h5, h6⟩ | ⟨h3, h4, x, hx, h5, h6⟩
 all_goals (
 refine rg [0,1,8,9,35] ?_
 intro k hk; simp -dsimp (maxSteps := 2000000) [go_sem, -decide_eq_true_eq, -decide_eq_false_iff_not, h4, hx, h5, h6]
 repeat' first | apply And.intro | refine hk _ ?_ | (intro hg; try simp only [decide_eq_true_eq, decide_eq_false_iff_not] at hg) | omega | exact True.intro
 all_goals clear hk k
 all_goals (
 refine AW.cond rfl ?_ ?_
 ·intro hc; try simp at hc
  all_goals try (exfalso; first | omega | contradiction | (simp at hc; done); done)
  all_goals (
 refine AW.skipN (fun _ h => h) ?_
 refine AW.block ?_
 refine rgKA ?_
 show ∃ _, _
 have hww : IntKind.wrap .i64 ((i : Int) + 1) = (i : Int) + 1 := wrap64 (by omega) (by omega)
 refine ⟨i + 1, by omega, by omega, Less.of rfl (by simp [go_sem, hww]) (by simp [go_sem])⟩)
 ·intro hc; try simp at hc
  all_goals try (exfalso; first | omega | contradiction | (simp at hc; done); done)
  all_goals (
 refine AW.exitN (fun _ h => h) ?_
 have hin : i = n := by omega
 have hmn : min n vs.length = n := Nat.min_eq_left hnl
 have htt : ((vs.map VF.row).take n).take n = (vs.map VF.row).take n := List.take_of_length_le (by rw [List.length_take]; omega)
 have hta : ∀ r : List AV, ((vs.map VF.row).take n ++ [r]).take (n + 1) = (vs.map VF.row).take n ++ [r] := fun r => List.take_of_length_le (by rw [List.length_append, List.length_take, List.length_map]; simp; omega)
 have hdd : ((vs.map VF.row).drop n).take (vs.length - n) = (vs.map VF.row).drop n := List.take_of_length_le (by rw [List.length_drop, List.length_map]; omega)
 refine rg [0,8,9,10] ?_
 intro k hk; simp -dsimp (maxSteps := 2000000) [go_sem, -decide_eq_true_eq, -decide_eq_false_iff_not, hin, hnl, hmn]
 repeat' first | apply And.intro | refine hk _ ?_ | intro hg | omega | exact True.intro
 all_goals clear hk k
 refine rgE (fun _ => []) ?_
 intro k hk; simp -dsimp (maxSteps := 2000000) [go_sem, -decide_eq_true_eq, -decide_eq_false_iff_not, hin, hnl, hmn, htt, hdd, hta]
 repeat' first | ((refine Chk.keys ?_); simp only [go_sem, List.map_cons, List.map_nil, List.flatMap_cons, List.flatMap_nil, List.flatMap_append, List.append_nil, List.nil_append, List.cons_append]; decide +kernel) | apply And.intro | refine hk _ ?_ | intro hg | omega | exact True.intro
 all_goals clear hk k
 refine ⟨.intro, And.intro (.inl rfl) ?_⟩
 refine Gh.fold 57 n 2 15 rfl (link_here hnl) rfl rfl (by simp) (by decide) (by simp [go_sem]) ?_
 rw [link_set hnl]
 refine Gh.cellLe 57 n 2 (owc 4 (cc.map TNode.ro)) rfl (link_here hnl) rfl (by simp [go_sem]) ?_
 rw [link_set hnl]
 refine Gh.fold 1900 0 1 57 rfl rfl rfl rfl (by simp; omega) (by decide) (vf_tree (by simp [go_sem])) ?_
 refine Gh.done ?_
 simp [go_sem, Try.results60])))
end Go.AM
namespace Go.AM
open Go.Proofs
theorem dc_link_n (ns : List TGNode) (fs : List TFlow) (hfl : fs.length ≤ 1000) (fr to : Int) : DC Try.prog 60 [.op (grw ns fs), .int .i64 fr, .int .i64 to, .nils] (.tup []) [(0, .op (grw ns (putK TFlow.frm fs ⟨fr, to, []⟩)))] := by
 by_cases h0 : fs = []
 · subst h0
   exact dc_spec_l6Link_n0 ns fr to
 · have hne : putK TFlow.frm fs ⟨fr, to, []⟩ ≠ [] := by unfold putK; simp
   have h := DC.unseenIns (P := Try.prog) (f := 60) (rest := [.int .i64 fr, .int .i64 to, .nils]) TFlow.frm TFlow.to (fun x => owc 4 (x.cond.map TNode.ro)) (fun x => owc_tree 4 _) fs (plF fs fr) (plF_le fs fr) (nlc 5 (ns.map TGNode.oc)) (nlc 5 (ns.map TGNode.oc)) (nlc_tree 5 _) (nlc_tree 5 _) [.int .i64 fr, .int .i64 to, owc 4 (([] : List TNode).map TNode.ro)] rfl (by intro x hx; simp at hx; rcases hx with rfl | rfl | rfl <;> first | rfl | exact owc_tree 4 _) (fun x w lab p v h => owc_slice h) (by
    intro vs hl hi
    refine dc_spec_l6Link_nv ns vs (plF fs fr) (by rw [hl]; exact plF_le fs fr) (by omega) fr to ?_ ?_
    · intro i x hin hx
      have hlt : i < fs.length := by have := plF_le fs fr; omega
      obtain ⟨y, hy⟩ := at_some hlt
      obtain ⟨u, hu⟩ := hi i y hy
      rw [hx] at hu
      have := plF_lt hin hy
      rw [Option.some.inj hu]; exact this
    · intro x hx
      have hlt : plF fs fr < fs.length := by have := at_lt hx; omega
      obtain ⟨y, hy⟩ := at_some hlt
      obtain ⟨u, hu⟩ := hi _ y hy
      rw [hx] at hu
      have := plF_ge hy
      rw [Option.some.inj hu]; exact this)
   have e1 : grw ns fs = [nlc 5 (ns.map TGNode.oc), .osl 3 (fs.map fun x => [AV.int .i64 x.frm, .int .i64 x.to, owc 4 (x.cond.map TNode.ro)])] := by rw [grw_eq, nlc_map h0]; rfl
   have e2 : grw ns (putK TFlow.frm fs ⟨fr, to, []⟩) = [nlc 5 (ns.map TGNode.oc), .osl 3 ((fs.map fun x => [AV.int .i64 x.frm, .int .i64 x.to, owc 4 (x.cond.map TNode.ro)]).take (plF fs fr) ++ [.int .i64 fr, .int .i64 to, owc 4 (([] : List TNode).map TNode.ro)] :: (fs.map fun x => [AV.int .i64 x.frm, .int .i64 x.to, owc 4 (x.cond.map TNode.ro)]).drop (plF fs fr))] := by
    rw [grw_eq, nlc_map hne, plF_put, List.map_append, List.map_cons, List.map_take, List.map_drop]; rfl
   rw [e1, e2]
   exact h
theorem dc_link_c (ns : List TGNode) (fs : List TFlow) (hfl : fs.length ≤ 1000) (fr to : Int) (cc : List TNode) (hc0 : cc.length ≤ 1048576) : DC Try.prog 60 [.op (grw ns fs), .int .i64 fr, .int .i64 to, .isl 4 (cc.map TNode.ro)] (.tup []) [(0, .op (grw ns (putK TFlow.frm fs ⟨fr, to, cc⟩)))] := by
 by_cases h0 : fs = []
 · subst h0
   exact dc_spec_l6Link_c0 ns fr to cc hc0
 · have hne : putK TFlow.frm fs ⟨fr, to, cc⟩ ≠ [] := by unfold putK; simp
   have h := DC.unseenIns (P := Try.prog) (f := 60) (rest := [.int .i64 fr, .int .i64 to, .isl 4 (cc.map TNode.ro)]) TFlow.frm TFlow.to (fun x => owc 4 (x.cond.map TNode.ro)) (fun x => owc_tree 4 _) fs (plF fs fr) (plF_le fs fr) (nlc 5 (ns.map TGNode.oc)) (nlc 5 (ns.map TGNode.oc)) (nlc_tree 5 _) (nlc_tree 5 _) [.int .i64 fr, .int .i64 to, owc 4 ((cc : List TNode).map TNode.ro)] rfl (by intro x hx; simp at hx; rcases hx with rfl | rfl | rfl <;> first | rfl | exact owc_tree 4 _) (fun x w lab p v h => owc_slice h) (by
    intro vs hl hi
    refine dc_spec_l6Link_cv ns vs (plF fs fr) (by rw [hl]; exact plF_le fs fr) (by omega) fr to ?_ ?_ cc hc0
    · intro i x hin hx
      have hlt : i < fs.length := by have := plF_le fs fr; omega
      obtain ⟨y, hy⟩ := at_some hlt
      obtain ⟨u, hu⟩ := hi i y hy
      rw [hx] at hu
      have := plF_lt hin hy
      rw [Option.some.inj hu]; exact this
    · intro x hx
      have hlt : plF fs fr < fs.length := by have := at_lt hx; omega
      obtain ⟨y, hy⟩ := at_some hlt
      obtain ⟨u, hu⟩ := hi _ y hy
      rw [hx] at hu
      have := plF_ge hy
      rw [Option.some.inj hu]; exact this)
   have e1 : grw ns fs = [nlc 5 (ns.map TGNode.oc), .osl 3 (fs.map fun x => [AV.int .i64 x.frm, .int .i64 x.to, owc 4 (x.cond.map TNode.ro)])] := by rw [grw_eq, nlc_map h0]; rfl
   have e2 : grw ns (putK TFlow.frm fs ⟨fr, to, cc⟩) = [nlc 5 (ns.map TGNode.oc), .osl 3 ((fs.map fun x => [AV.int .i64 x.frm, .int .i64 x.to, owc 4 (x.cond.map TNode.ro)]).take (plF fs fr) ++ [.int .i64 fr, .int .i64 to, owc 4 ((cc : List TNode).map TNode.ro)] :: (fs.map fun x => [AV.int .i64 x.frm, .int .i64 x.to, owc 4 (x.cond.map TNode.ro)]).drop (plF fs fr))] := by
    rw [grw_eq, nlc_map hne, plF_put, List.map_append, List.map_cons, List.map_take, List.map_drop]; rfl
   rw [e1, e2]
   exact h
end Go.AM
namespace Go.AM
open Go.Proofs
set_option maxHeartbeats 4000000 in
theorem dc_spec_l6Node_z (ns : List TGNode) (fs : List TFlow) (kd st ag : Int) (nm : List UInt8) (hn : ns.length ≤ 1000) : DC Try.prog 58 [.op (grw ns fs), .agg [.int .i64 kd, .int .i64 st, .str nm, .int .i64 ag, .nils]] (.int .i64 (ns.length : Nat)) [(0, .op (grw (ns ++ [(⟨kd, st, nm, ag, []⟩ : TGNode)]) fs))] := by
 have hne : nlc 5 ((ns ++ [(⟨kd, st, nm, ag, []⟩ : TGNode)]).map TGNode.oc) = .osl 5 ((ns ++ [(⟨kd, st, nm, ag, []⟩ : TGNode)]).map TGNode.oc) := by rw [List.map_append]; exact nlc_snoc _ _ _
 have htk : (ns.map TGNode.oc).take ns.length = ns.map TGNode.oc := List.take_of_length_le (by rw [List.length_map]; exact Nat.le_refl _)
 have hwl : IntKind.wrap .i64 ((ns.length : Nat) : Int) = ((ns.length : Nat) : Int) := wrap64 (by omega) (by omega)
 have hwz : IntKind.wrap .i64 0 = 0 := wrap64 (by omega) (by omega)
 refine DC.introG tiOk Try.func58 rfl rfl rfl rfl rfl rfl rfl (by simp [noW, noWo]) [] ?_
 refine rg [0,3] ?_
 intro k hk; simp -dsimp [go_sem, -decide_eq_true_eq, -decide_eq_false_iff_not, htk, hwl, hwz]
 repeat' first | apply And.intro | refine hk _ ?_ | intro hg | omega | exact True.intro
 all_goals clear hk k
 rcases nlN ns with ⟨hnc, hl0⟩ | ⟨hnc, hl0⟩
 all_goals (
 rw [hnc]
 try refine AW.thaw 1900 0 0 7001 rfl rfl rfl (by simp [go_sem]) ?_
 refine rg0 [0] ?_
 intro k hk; simp -dsimp (maxSteps := 2000000) [go_sem, -decide_eq_true_eq, -decide_eq_false_iff_not, htk, hwl, hwz]
 repeat' first | ((refine Chk.keys ?_); simp only [go_sem, List.map_cons, List.map_nil, List.flatMap_cons, List.flatMap_nil, List.flatMap_append, List.append_nil, List.nil_append, List.cons_append]; decide +kernel) | apply And.intro | refine hk _ ?_ | intro hg | omega | exact True.intro
 all_goals clear hk k
 first | refine AW.cellLe 12 0 4 (.isl 4 []) rfl rfl rfl (by simp [go_sem]) ?_ | refine AW.cellLe 12 ns.length 4 (.isl 4 []) rfl (app_here (by simp)) rfl (by simp [go_sem]) ?_
 refine rg [0,4] ?_
 intro k hk; simp -dsimp (maxSteps := 2000000) [go_sem, -decide_eq_true_eq, -decide_eq_false_iff_not, htk, hwl, hwz]
 repeat' first | apply And.intro | refine hk _ ?_ | intro hg | omega | exact True.intro
 all_goals clear hk k
 refine AW.ret ⟨.inr rfl, ?_⟩
 refine Gh.fold 1900 0 0 12 rfl rfl rfl rfl (by simp) (by decide) (by first | exact tree_snocA (by simp [go_sem]) (by simp [go_sem]) | (simp only [List.set_append, List.length_map, Nat.lt_irrefl, if_false, ite_false, Nat.sub_self, List.set_cons_zero]; exact tree_snocA (by simp [go_sem]) (by simp [go_sem])) | simp [go_sem]) ?_
 refine Gh.done ?_
 first | (subst hl0; simp [go_sem, Try.results58]; done) | (simp [go_sem, Try.results58, hne, List.set_append]; done) | simp [go_sem, Try.results58, hne, hl0, List.set_append])
set_option maxHeartbeats 4000000 in
theorem dc_spec_l6Node_o (ns : List TGNode) (fs : List TFlow) (kd st ag : Int) (nm : List UInt8) (e : List TNode) (hn : ns.length ≤ 1000) : DC Try.prog 58 [.op (grw ns fs), .agg [.int .i64 kd, .int .i64 st, .str nm, .int .i64 ag, .osl 4 (e.map TNode.ro)]] (.int .i64 (ns.length : Nat)) [(0, .op (grw (ns ++ [(⟨kd, st, nm, ag, e⟩ : TGNode)]) fs))] := by
 have hne : nlc 5 ((ns ++ [(⟨kd, st, nm, ag, e⟩ : TGNode)]).map TGNode.oc) = .osl 5 ((ns ++ [(⟨kd, st, nm, ag, e⟩ : TGNode)]).map TGNode.oc) := by rw [List.map_append]; exact nlc_snoc _ _ _
 have htk : (ns.map TGNode.oc).take ns.length = ns.map TGNode.oc := List.take_of_length_le (by rw [List.length_map]; exact Nat.le_refl _)
 have hwl : IntKind.wrap .i64 ((ns.length : Nat) : Int) = ((ns.length : Nat) : Int) := wrap64 (by omega) (by omega)
 have hwz : IntKind.wrap .i64 0 = 0 := wrap64 (by omega) (by omega)
 refine DC.introG tiOk Try.func58 rfl rfl rfl rfl rfl rfl rfl (by simp [noW, noWo]) [] ?_
 refine rg [0,3] ?_
 intro k hk; simp -dsimp [go_sem, -decide_eq_true_eq, -decide_eq_false_iff_not, htk, hwl, hwz]
 repeat' first | apply And.intro | refine hk _ ?_ | intro hg | omega | exact True.intro
 all_goals clear hk k
 rcases nlN ns with ⟨hnc, hl0⟩ | ⟨hnc, hl0⟩
 all_goals (
 rw [hnc]
 try refine AW.thaw 1900 0 0 7001 rfl rfl rfl (by simp [go_sem]) ?_
 refine rg0 [0] ?_
 intro k hk; simp -dsimp (maxSteps := 2000000) [go_sem, -decide_eq_true_eq, -decide_eq_false_iff_not, htk, hwl, hwz]
 repeat' first | ((refine Chk.keys ?_); simp only [go_sem, List.map_cons, List.map_nil, List.flatMap_cons, List.flatMap_nil, List.flatMap_append, List.append_nil, List.nil_append, List.cons_append]; decide +kernel) | apply And.intro | refine hk _ ?_ | intro hg | omega | exact True.intro
 all_goals clear hk k
 first | refine AW.fold 12 0 4 1901 rfl rfl rfl rfl (by simp) (by decide) (by simp [go_sem]) ?_ | refine AW.fold 12 ns.length 4 1901 rfl (app_here (by simp)) rfl rfl (by simp) (by decide) (by simp [go_sem]) ?_
 first | refine AW.cellLe 12 0 4 (owc 4 (e.map TNode.ro)) rfl rfl rfl (by simp [go_sem]) ?_ | refine AW.cellLe 12 ns.length 4 (owc 4 (e.map TNode.ro)) rfl (node_here (by simp)) rfl (by simp [go_sem]) ?_
 refine rg [0,4] ?_
 intro k hk; simp -dsimp (maxSteps := 2000000) [go_sem, -decide_eq_true_eq, -decide_eq_false_iff_not, htk, hwl, hwz]
 repeat' first | apply And.intro | refine hk _ ?_ | intro hg | omega | exact True.intro
 all_goals clear hk k
 refine AW.ret ⟨.inr rfl, ?_⟩
 refine Gh.fold 1900 0 0 12 rfl rfl rfl rfl (by simp) (by decide) (by first | exact tree_snocA (by simp [go_sem]) (by simp [go_sem]) | (simp only [List.set_append, List.length_map, Nat.lt_irrefl, if_false, ite_false, Nat.sub_self, List.set_cons_zero]; exact tree_snocA (by simp [go_sem]) (by simp [go_sem])) | simp [go_sem]) ?_
 refine Gh.done ?_
 first | (subst hl0; simp [go_sem, Try.results58]; done) | (simp [go_sem, Try.results58, hne, List.set_append]; done) | simp [go_sem, Try.results58, hne, hl0, List.set_append])
end Go.AM
namespace Go.AM
open Go.Proofs
set_option maxHeartbeats 8000000 in
theorem dc_spec_l6Guard (p : List TStep) (hP : ProcOk p) (f : Nat) (hS : ∀ (k : Int) (ns : List TGNode) (fs : List TFlow), 0 ≤ k → k.toNat < p.length → p.length ≤ k.toNat + f → ns.length + 3 * cK p f k ≤ 400 → fs.length + 5 * cK p f k ≤ 400 → DC Try.prog 59 [.op (grw ns fs), .isl 6 (p.map TStep.ro), .int .i64 k] (.tup [.int .i64 (gstep p f k.toNat ns.length).en, .int .i64 (gstep p f k.toNat ns.length).lv]) [(0, .op (grw (ns ++ (gstep p f k.toNat ns.length).ns) (lk fs (gstep p f k.toNat ns.length).fs)))]) (ns : List TGNode) (fs : List TFlow) (a : Nat) (ha : a < p.length) (hf : p.length ≤ a + f + 1) (hk2 : (kids p (a : Int)).length = 2) (hb1 : ns.length + 3 * cKs p f (kids p (a : Int)) ≤ 397) (hb2 : fs.length + 5 * cKs p f (kids p (a : Int)) ≤ 395) : DC Try.prog 81 [.op (grw ns fs), .isl 6 (p.map TStep.ro), .int .i64 (a : Nat)] (.tup [.int .i64 (guardG (gstep p f) ⟨11, a, [], (nS p a).arg, []⟩ ⟨12, a, [], 0, []⟩ ⟨13, a, [], 0, []⟩ (gI (kids p (a : Int)) 0) (gI (kids p (a : Int)) 1) ns.length).en, .int .i64 (guardG (gstep p f) ⟨11, a, [], (nS p a).arg, []⟩ ⟨12, a, [], 0, []⟩ ⟨13, a, [], 0, []⟩ (gI (kids p (a : Int)) 0) (gI (kids p (a : Int)) 1) ns.length).lv]) [(0, .op (grw (ns ++ (guardG (gstep p f) ⟨11, a, [], (nS p a).arg, []⟩ ⟨12, a, [], 0, []⟩ ⟨13, a, [], 0, []⟩ (gI (kids p (a : Int)) 0) (gI (kids p (a : Int)) 1) ns.length).ns) (lk fs (guardG (gstep p f) ⟨11, a, [], (nS p a).arg, []⟩ ⟨12, a, [], 0, []⟩ ⟨13, a, [], 0, []⟩ (gI (kids p (a : Int)) 0) (gI (kids p (a : Int)) 1) ns.length).fs)))] := by
 have hkl := kids_len p (a : Int)
 have hp := hP.len.2
 have hfw : ∀ k2 ∈ (kids p (a : Int)), Few p f (gstep p f) k2 := fun k2 h9 => by obtain ⟨m, rfl, h1, h2, _, _⟩ := hP.kid h9; exact gstep_few hP f m h2
 obtain ⟨x, hx⟩ := at_some ha
 have hx3 := gel hx
 have hxn := nS_at hx
 obtain ⟨u0, hu0⟩ := at_some (l := (kids p (a : Int))) (i := 0) (by omega)
 obtain ⟨u1, hu1⟩ := at_some (l := (kids p (a : Int))) (i := 1) (by omega)
 have hu03 := gel hu0
 have hu13 := gel hu1
 obtain ⟨um0, hum0, v1, v2, v4, v5⟩ := hP.kid (List.mem_of_getElem? hu0)
 obtain ⟨um1, hum1, w1, w2, w4, w5⟩ := hP.kid (List.mem_of_getElem? hu1)
 have hc0 : cKs p f (List.take 1 (kids p (a : Int))) = cKs p f (List.take 0 (kids p (a : Int))) + cK p f u0 := cKs_snoc hu0
 have hc1 : cKs p f (List.take 2 (kids p (a : Int))) = cKs p f (List.take 1 (kids p (a : Int))) + cK p f u1 := cKs_snoc hu1
 have hce : cKs p f (List.take 0 (kids p (a : Int))) = 0 := rfl
 have hcl := cKs_le p f (kids p (a : Int)) 2
 have hg0 : gI (kids p (a : Int)) 0 = u0 := by unfold gI; rw [List.getD_eq_getElem?_getD]; simp [hu0]
 have hg1 : gI (kids p (a : Int)) 1 = u1 := by unfold gI; rw [List.getD_eq_getElem?_getD]; simp [hu1]
 have hn0 := dc_spec_l6Node_z ns fs 11 (a : Int) x.arg [] (by omega)
 obtain ⟨N0, hN0⟩ : ∃ N, N = ns ++ [(⟨11, a, [], x.arg, []⟩ : TGNode)] := ⟨_, rfl⟩
 rw [← hN0] at hn0
 have l0 : N0.length = ns.length + 1 := by rw [hN0]; simp
 have hs0 := hS u0 N0 fs (by omega) (by omega) (by omega) (by omega) (by omega)
 rw [l0] at hs0
 obtain ⟨R0, hR0⟩ : ∃ N, N = gstep p f u0.toNat (ns.length + 1) := ⟨_, rfl⟩
 have hf0 := hfw u0 (List.mem_of_getElem? hu0) (ns.length + 1)
 rw [← hR0] at hs0 hf0
 obtain ⟨N1, hN1⟩ : ∃ N, N = N0 ++ R0.ns := ⟨_, rfl⟩
 obtain ⟨F1, hF1⟩ : ∃ N, N = lk fs R0.fs := ⟨_, rfl⟩
 rw [← hN1, ← hF1] at hs0
 have l1 : N1.length = ns.length + 1 + R0.ns.length := by rw [hN1, List.length_append, l0]
 have m1 : F1.length = fs.length + R0.fs.length := by rw [hF1, lk_len]
 have hn1 := dc_spec_l6Node_z N1 F1 12 (a : Int) 0 [] (by omega)
 obtain ⟨N2, hN2⟩ : ∃ N, N = N1 ++ [(⟨12, a, [], 0, []⟩ : TGNode)] := ⟨_, rfl⟩
 rw [← hN2] at hn1
 have l2 : N2.length = ns.length + 1 + R0.ns.length + 1 := by rw [hN2, List.length_append, l1]; rfl
 have hs1 := hS u1 N2 F1 (by omega) (by omega) (by omega) (by omega) (by omega)
 rw [l2] at hs1
 obtain ⟨R1, hR1⟩ : ∃ N, N = gstep p f u1.toNat (ns.length + 1 + R0.ns.length + 1) := ⟨_, rfl⟩
 have hf1 := hfw u1 (List.mem_of_getElem? hu1) (ns.length + 1 + R0.ns.length + 1)
 rw [← hR1] at hs1 hf1
 obtain ⟨N3, hN3⟩ : ∃ N, N = N2 ++ R1.ns := ⟨_, rfl⟩
 obtain ⟨F2, hF2⟩ : ∃ N, N = lk F1 R1.fs := ⟨_, rfl⟩
 rw [← hN3, ← hF2] at hs1
 have l3 : N3.length = ns.length + 1 + R0.ns.length + 1 + R1.ns.length := by rw [hN3, List.length_append, l2]
 have m2 : F2.length = F1.length + R1.fs.length := by rw [hF2, lk_len]
 have hn3 := dc_spec_l6Node_z N3 F2 13 (a : Int) 0 [] (by omega)
 obtain ⟨N4, hN4⟩ : ∃ N, N = N3 ++ [(⟨13, a, [], 0, []⟩ : TGNode)] := ⟨_, rfl⟩
 rw [← hN4] at hn3
 have hq0 := dc_link_n N4 F2 (by omega) (ns.length : Nat) R0.en
 obtain ⟨F3, hF3⟩ : ∃ N, N = putK TFlow.frm F2 (⟨(ns.length : Nat), R0.en, []⟩ : TFlow) := ⟨_, rfl⟩
 rw [← hF3] at hq0
 have m3 : F3.length = F2.length + 1 := by rw [hF3, ← lk_one, lk_len]; rfl
 have hq1 := dc_link_n N4 F3 (by omega) (ns.length : Nat) R1.en
 obtain ⟨F4, hF4⟩ : ∃ N, N = putK TFlow.frm F3 (⟨(ns.length : Nat), R1.en, []⟩ : TFlow) := ⟨_, rfl⟩
 rw [← hF4] at hq1
 have m4 : F4.length = F3.length + 1 := by rw [hF4, ← lk_one, lk_len]; rfl
 have hq2 := dc_link_n N4 F4 (by omega) R0.lv (N1.length : Nat)
 obtain ⟨F5, hF5⟩ : ∃ N, N = putK TFlow.frm F4 (⟨R0.lv, (N1.length : Nat), []⟩ : TFlow) := ⟨_, rfl⟩
 rw [← hF5] at hq2
 have m5 : F5.length = F4.length + 1 := by rw [hF5, ← lk_one, lk_len]; rfl
 have hq3 := dc_link_n N4 F5 (by omega) (N1.length : Nat) (N3.length : Nat)
 obtain ⟨F6, hF6⟩ : ∃ N, N = putK TFlow.frm F5 (⟨(N1.length : Nat), (N3.length : Nat), []⟩ : TFlow) := ⟨_, rfl⟩
 rw [← hF6] at hq3
 have m6 : F6.length = F5.length + 1 := by rw [hF6, ← lk_one, lk_len]; rfl
 have hq4 := dc_link_n N4 F6 (by omega) R1.lv (N3.length : Nat)
 obtain ⟨F7, hF7⟩ : ∃ N, N = putK TFlow.frm F6 (⟨R1.lv, (N3.length : Nat), []⟩ : TFlow) := ⟨_, rfl⟩
 rw [← hF7] at hq4
 have m7 : F7.length = F6.length + 1 := by rw [hF7, ← lk_one, lk_len]; rfl
 refine DC.intro tiOk Try.func81 rfl rfl rfl rfl rfl rfl rfl (by simp [noW, noWo]) [] ?_
 refine rgA [0,1,2] ?_
 refine rg [0,1,2,8] ?_
 intro k hk; simp -dsimp (maxSteps := 2000000) [go_sem, -decide_eq_true_eq, -decide_eq_false_iff_not]
 repeat' first | apply And.intro | refine hk _ ?_ | intro hg | (refine CallK.intro (dc_spec_l4Kids p (a : Int) hp (by rw [hP.par0]; omega)) ?_; simp -dsimp (maxSteps := 2000000) [go_sem, -decide_eq_true_eq, -decide_eq_false_iff_not]) | omega | exact True.intro
 all_goals clear hk k
 refine AW.reg tiOk (fun _ => [0]) [0,1,2,8,9] ?_
 intro k hk; simp -dsimp (maxSteps := 2000000) [go_sem, -decide_eq_true_eq, -decide_eq_false_iff_not, hx, hx3]
 repeat' first | apply And.intro | refine hk _ ?_ | intro hg | (refine CallK.intro (hn0) ?_; simp -dsimp (maxSteps := 2000000) [go_sem, -decide_eq_true_eq, -decide_eq_false_iff_not, hx, hx3]) | omega | exact True.intro
 all_goals clear hk k
 refine AW.reg tiOk (fun _ => [0]) [0,1,2,8,9,10,11] ?_
 intro k hk; simp -dsimp (maxSteps := 2000000) [go_sem, -decide_eq_true_eq, -decide_eq_false_iff_not, hu0, hu03, hk2]
 repeat' first | apply And.intro | refine hk _ ?_ | intro hg | (refine CallK.intro (hs0) ?_; simp -dsimp (maxSteps := 2000000) [go_sem, -decide_eq_true_eq, -decide_eq_false_iff_not, hu0, hu03, hk2]) | omega | exact True.intro
 all_goals clear hk k
 refine AW.reg tiOk (fun _ => [0]) [0,1,2,8,9,10,11,12] ?_
 intro k hk; simp -dsimp (maxSteps := 2000000) [go_sem, -decide_eq_true_eq, -decide_eq_false_iff_not]
 repeat' first | apply And.intro | refine hk _ ?_ | intro hg | (refine CallK.intro (hn1) ?_; simp -dsimp (maxSteps := 2000000) [go_sem, -decide_eq_true_eq, -decide_eq_false_iff_not]) | omega | exact True.intro
 all_goals clear hk k
 refine AW.reg tiOk (fun _ => [0]) [0,2,9,10,11,12,13,14] ?_
 intro k hk; simp -dsimp (maxSteps := 2000000) [go_sem, -decide_eq_true_eq, -decide_eq_false_iff_not, hu1, hu13, hk2]
 repeat' first | apply And.intro | refine hk _ ?_ | intro hg | (refine CallK.intro (hs1) ?_; simp -dsimp (maxSteps := 2000000) [go_sem, -decide_eq_true_eq, -decide_eq_false_iff_not, hu1, hu13, hk2]) | omega | exact True.intro
 all_goals clear hk k
 refine AW.reg tiOk (fun _ => [0]) [0,9,10,11,12,13,14,15] ?_
 intro k hk; simp -dsimp (maxSteps := 2000000) [go_sem, -decide_eq_true_eq, -decide_eq_false_iff_not]
 repeat' first | apply And.intro | refine hk _ ?_ | intro hg | (refine CallK.intro (hn3) ?_; simp -dsimp (maxSteps := 2000000) [go_sem, -decide_eq_true_eq, -decide_eq_false_iff_not]) | omega | exact True.intro
 all_goals clear hk k
 refine AW.reg tiOk (fun _ => [0]) [0,9,11,12,13,14,15] ?_
 intro k hk; simp -dsimp (maxSteps := 2000000) [go_sem, -decide_eq_true_eq, -decide_eq_false_iff_not]
 repeat' first | apply And.intro | refine hk _ ?_ | intro hg | (refine CallK.intro (hq0) ?_; simp -dsimp (maxSteps := 2000000) [go_sem, -decide_eq_true_eq, -decide_eq_false_iff_not]) | omega | exact True.intro
 all_goals clear hk k
 refine AW.reg tiOk (fun _ => [0]) [0,9,11,12,14,15] ?_
 intro k hk; simp -dsimp (maxSteps := 2000000) [go_sem, -decide_eq_true_eq, -decide_eq_false_iff_not]
 repeat' first | apply And.intro | refine hk _ ?_ | intro hg | (refine CallK.intro (hq1) ?_; simp -dsimp (maxSteps := 2000000) [go_sem, -decide_eq_true_eq, -decide_eq_false_iff_not]) | omega | exact True.intro
 all_goals clear hk k
 refine AW.reg tiOk (fun _ => [0]) [0,9,12,14,15] ?_
 intro k hk; simp -dsimp (maxSteps := 2000000) [go_sem, -decide_eq_true_eq, -decide_eq_false_iff_not]
 repeat' first | apply And.intro | refine hk _ ?_ | intro hg | (refine CallK.intro (hq2) ?_; simp -dsimp (maxSteps := 2000000) [go_sem, -decide_eq_true_eq, -decide_eq_false_iff_not]) | omega | exact True.intro
 all_goals clear hk k
 refine AW.reg tiOk (fun _ => [0]) [0,9,14,15] ?_
 intro k hk; simp -dsimp (maxSteps := 2000000) [go_sem, -decide_eq_true_eq, -decide_eq_false_iff_not]
 repeat' first | apply And.intro | refine hk _ ?_ | intro hg | (refine CallK.intro (hq3) ?_; simp -dsimp (maxSteps := 2000000) [go_sem, -decide_eq_true_eq, -decide_eq_false_iff_not]) | omega | exact True.intro
 all_goals clear hk k
 refine AW.reg tiOk (fun _ => [0]) [0,9,15] ?_
 intro k hk; simp -dsimp (maxSteps := 2000000) [go_sem, -decide_eq_true_eq, -decide_eq_false_iff_not]
 repeat' first | apply And.intro | refine hk _ ?_ | intro hg | (refine CallK.intro (hq4) ?_; simp -dsimp (maxSteps := 2000000) [go_sem, -decide_eq_true_eq, -decide_eq_false_iff_not]) | omega | exact True.intro
 all_goals clear hk k
 refine rgA [0,6,7] ?_
 refine rt ?_
 have hfi : (guardG (gstep p f) ⟨11, a, [], (nS p a).arg, []⟩ ⟨12, a, [], 0, []⟩ ⟨13, a, [], 0, []⟩ (gI (kids p (a : Int)) 0) (gI (kids p (a : Int)) 1) ns.length) = ⟨[(⟨11, a, [], x.arg, []⟩ : TGNode)] ++ R0.ns ++ [(⟨12, a, [], 0, []⟩ : TGNode)] ++ R1.ns ++ [(⟨13, a, [], 0, []⟩ : TGNode)], R0.fs ++ R1.fs ++ [⟨(ns.length : Nat), R0.en, []⟩, ⟨(ns.length : Nat), R1.en, []⟩, ⟨R0.lv, (N1.length : Nat), []⟩, ⟨(N1.length : Nat), (N3.length : Nat), []⟩, ⟨R1.lv, (N3.length : Nat), []⟩], (ns.length : Nat), (N3.length : Nat)⟩ := by simp only [guardG, hg0, hg1, hxn, ← hR0, ← hR1, l1, l3]
 rw [hfi]
 have hfl : lk fs (R0.fs ++ R1.fs ++ [⟨(ns.length : Nat), R0.en, []⟩, ⟨(ns.length : Nat), R1.en, []⟩, ⟨R0.lv, (N1.length : Nat), []⟩, ⟨(N1.length : Nat), (N3.length : Nat), []⟩, ⟨R1.lv, (N3.length : Nat), []⟩]) = F7 := by rw [lk_app, lk_app, ← hF1, ← hF2, hF7, hF6, hF5, hF4, hF3]; rfl
 simp only [hfl]
 simp only [hN4, hN3, hN2, hN1, hN0]
 simp [go_sem, Try.results81]
end Go.AM
namespace Go.AM
open Go.Proofs
set_option maxHeartbeats 8000000 in
theorem dc_spec_l6Many (p : List TStep) (hP : ProcOk p) (f : Nat) (hS : ∀ (k : Int) (ns : List TGNode) (fs : List TFlow), 0 ≤ k → k.toNat < p.length → p.length ≤ k.toNat + f → ns.length + 3 * cK p f k ≤ 400 → fs.length + 5 * cK p f k ≤ 400 → DC Try.prog 59 [.op (grw ns fs), .isl 6 (p.map TStep.ro), .int .i64 k] (.tup [.int .i64 (gstep p f k.toNat ns.length).en, .int .i64 (gstep p f k.toNat ns.length).lv]) [(0, .op (grw (ns ++ (gstep p f k.toNat ns.length).ns) (lk fs (gstep p f k.toNat ns.length).fs)))]) (ns : List TGNode) (fs : List TFlow) (a : Nat) (ha : a < p.length) (hf : p.length ≤ a + f + 1) (ok ck : Int) (hb1 : ns.length + 3 * cKs p f (kids p (a : Int)) ≤ 397) (hb2 : fs.length + 5 * cKs p f (kids p (a : Int)) ≤ 395) : DC Try.prog 80 [.op (grw ns fs), .isl 6 (p.map TStep.ro), .int .i64 (a : Nat), .int .i64 ok, .int .i64 ck] (.tup [.int .i64 (sidesG (gstep p f) (cdS p) (⟨ok, a, [], 0, []⟩ : TGNode) (⟨ck, a, [], 0, []⟩ : TGNode) (kids p (a : Int)) ns.length).en, .int .i64 (sidesG (gstep p f) (cdS p) (⟨ok, a, [], 0, []⟩ : TGNode) (⟨ck, a, [], 0, []⟩ : TGNode) (kids p (a : Int)) ns.length).lv]) [(0, .op (grw (ns ++ (sidesG (gstep p f) (cdS p) (⟨ok, a, [], 0, []⟩ : TGNode) (⟨ck, a, [], 0, []⟩ : TGNode) (kids p (a : Int)) ns.length).ns) (lk fs (sidesG (gstep p f) (cdS p) (⟨ok, a, [], 0, []⟩ : TGNode) (⟨ck, a, [], 0, []⟩ : TGNode) (kids p (a : Int)) ns.length).fs)))] := by
 have hkl := kids_len p (a : Int)
 have hp := hP.len.2
 have hfw : ∀ k2 ∈ (kids p (a : Int)), Few p f (gstep p f) k2 := fun k2 h9 => by obtain ⟨m, rfl, h1, h2, _, _⟩ := hP.kid h9; exact gstep_few hP f m h2
 have hnd0 := dc_spec_l6Node_z ns fs ok (a : Int) 0 [] (by omega)
 obtain ⟨N0, hN0⟩ : ∃ N, N = ns ++ [(⟨ok, a, [], 0, []⟩ : TGNode)] := ⟨_, rfl⟩
 rw [← hN0] at hnd0
 refine DC.intro tiOk Try.func80 rfl rfl rfl rfl rfl rfl rfl (by simp [noW, noWo]) [] ?_
 refine rgA [0,1,2,3,4] ?_
 refine AW.reg tiOk (fun _ => [0]) [0,1,2,4,12] ?_
 intro k hk; simp -dsimp (maxSteps := 2000000) [go_sem, -decide_eq_true_eq, -decide_eq_false_iff_not]
 repeat' first | apply And.intro | refine hk _ ?_ | intro hg | (refine CallK.intro (hnd0) ?_; simp -dsimp (maxSteps := 2000000) [go_sem, -decide_eq_true_eq, -decide_eq_false_iff_not]) | omega | exact True.intro
 all_goals clear hk k
 refine rg [0,1,2,4,12,13] ?_
 intro k hk; simp -dsimp (maxSteps := 2000000) [go_sem, -decide_eq_true_eq, -decide_eq_false_iff_not]
 repeat' first | apply And.intro | refine hk _ ?_ | intro hg | (refine CallK.intro (dc_spec_l4Kids p (a : Int) hp (by rw [hP.par0]; omega)) ?_; simp -dsimp (maxSteps := 2000000) [go_sem, -decide_eq_true_eq, -decide_eq_false_iff_not]) | omega | exact True.intro
 all_goals clear hk k
 refine rgA [0,1,2,4,12,13,14] ?_
 refine AW.seq ?_
 refine rgA [0,1,2,4,12,13,14,15] ?_
 refine AW.block ?_
 refine AW.rename (nd := ?nd_1) 28 60 ?h1_1 ?h2_1 ?h4_1 ?kk_1
 (case h1_1 => exact rfl)
 (case h2_1 => simp [go_sem])
 (case h4_1 => simp [go_sem])
 refine AW.loopI (fun q : Nat × List TGNode × List TFlow => ⟨81, [(0, .ptr 1900 2 0 0), (1, .isl 6 (p.map TStep.ro)), (2, .int .i64 (a : Nat)), (4, .int .i64 ck), (12, .int .i64 (ns.length : Nat)), (13, .sl 1027 1 0 (kids p (a : Int)).length), (14, .sl 60 1 0 q.1), (15, .int .i64 (q.1 : Nat))], [(60, some ⟨1, (sdN (gstep p f) (cdS p) ns.length (⟨ok, a, [], 0, []⟩ : TGNode) (kids p (a : Int)) q.1).os.map I1⟩), (1027, some ⟨1, (kids p (a : Int)).map I1⟩), (1900, some ⟨2, [grw q.2.1 q.2.2]⟩)]⟩) (fun q => q.1 ≤ (kids p (a : Int)).length ∧ q.2.1 = ns ++ (sdN (gstep p f) (cdS p) ns.length (⟨ok, a, [], 0, []⟩ : TGNode) (kids p (a : Int)) q.1).ns ∧ q.2.2 = lk fs (sdN (gstep p f) (cdS p) ns.length (⟨ok, a, [], 0, []⟩ : TGNode) (kids p (a : Int)) q.1).fs) (fun q => (kids p (a : Int)).length - q.1) ((0, N0, fs)) (⟨Nat.zero_le _, hN0, by simp only; rw [sd_zero]; rfl⟩) (Less.of rfl (by simp [go_sem, sd_zero]) (by simp [go_sem, sd_zero])) ?_
 rintro ⟨i, N1, F1⟩ ⟨hi, hN1, hF1⟩
 refine AW.rename (nd := ?nd_2) 60 28 ?h1_2 ?h2_2 ?h4_2 ?kk_2
 (case h1_2 => exact rfl)
 (case h2_2 => simp [go_sem])
 (case h4_2 => simp [go_sem])
 simp only at hi hN1 hF1
 have hf1 := sd_few (cd := cdS p) (n := ns.length) (op := (⟨ok, a, [], 0, []⟩ : TGNode)) hfw i hi
 have hc2 := cKs_le p f (kids p (a : Int)) i
 have hNl : N1.length = ns.length + (sdN (gstep p f) (cdS p) ns.length (⟨ok, a, [], 0, []⟩ : TGNode) (kids p (a : Int)) i).ns.length := by rw [hN1, List.length_append]
 have hFl : F1.length = fs.length + (sdN (gstep p f) (cdS p) ns.length (⟨ok, a, [], 0, []⟩ : TGNode) (kids p (a : Int)) i).fs.length := by rw [hF1, lk_len]
 have hol : (sdN (gstep p f) (cdS p) ns.length (⟨ok, a, [], 0, []⟩ : TGNode) (kids p (a : Int)) i).os.length = i := hf1.2.2
 refine AW.seq ?_
 refine rgA [0,1,2,4,12,13,14,15,32] ?_
 refine AW.cond rfl ?_ ?_
 ·intro hc; try simp at hc
  all_goals (
 have hlt : i < (kids p (a : Int)).length := by first | assumption | omega
 obtain ⟨u, hu⟩ := at_some (l := (kids p (a : Int))) (i := i) hlt
 have hu3 := gel hu
 obtain ⟨um, hum, hu1, hu2, hu4, hu5⟩ := hP.kid (List.mem_of_getElem? hu)
 have hc1 := cKs_snoc (p := p) (f := f) hu
 have hc3 := cKs_le p f (kids p (a : Int)) (i + 1)
 have hpz := cK_pos p f u
 have hcall := hS u N1 F1 (by omega) (by omega) (by omega) (by omega) (by omega)
 have hsd := sd_succ (g := gstep p f) (cd := cdS p) (n := ns.length) (op := (⟨ok, a, [], 0, []⟩ : TGNode)) hu
 rw [hNl] at hcall
 obtain ⟨R, hR⟩ : ∃ R, gstep p f u.toNat (ns.length + (sdN (gstep p f) (cdS p) ns.length (⟨ok, a, [], 0, []⟩ : TGNode) (kids p (a : Int)) i).ns.length) = R := ⟨_, rfl⟩
 have hfR := hfw u (List.mem_of_getElem? hu) (ns.length + (sdN (gstep p f) (cdS p) ns.length (⟨ok, a, [], 0, []⟩ : TGNode) (kids p (a : Int)) i).ns.length)
 unfold sdF at hsd
 rw [hR] at hcall hsd hfR
 obtain ⟨N2, hN2⟩ : ∃ N, N = N1 ++ R.ns := ⟨_, rfl⟩
 obtain ⟨F2, hF2⟩ : ∃ N, N = lk F1 R.fs := ⟨_, rfl⟩
 rw [← hN2, ← hF2] at hcall
 have hum2 : u.toNat = um := by omega
 obtain ⟨x, hx⟩ := at_some hu2
 have hx3 := gel hx
 have hcd : cdS p um = x.cond := by unfold cdS; rw [nS_at hx]
 rw [hum2, hcd] at hsd
 have hxs := hP.sml x (List.mem_of_getElem? hx)
 have hfl := dc_link_c N2 F2 (by rw [hF2, lk_len]; omega) (ns.length : Int) R.en x.cond (by have := hxs.2.1; omega)
 obtain ⟨F3, hF3⟩ : ∃ N, N = putK TFlow.frm F2 (⟨(ns.length : Int), R.en, x.cond⟩ : TFlow) := ⟨_, rfl⟩
 rw [← hF3] at hfl
 have htk : ((sdN (gstep p f) (cdS p) ns.length (⟨ok, a, [], 0, []⟩ : TGNode) (kids p (a : Int)) i).os.map I1).take i = (sdN (gstep p f) (cdS p) ns.length (⟨ok, a, [], 0, []⟩ : TGNode) (kids p (a : Int)) i).os.map I1 := List.take_of_length_le (by rw [List.length_map]; omega)
 have hu0b : (0 : Int) ≤ u := by omega
 have hult : u < (p.length : Nat) := by omega
 refine AW.skipN (fun _ h => h) ?_
 refine AW.seq ?_
 refine AW.block ?_
 refine AW.reg tiOk (fun _ => [0]) [0,1,2,4,12,13,14,15,16,17] ?_
 intro k hk; simp -dsimp (maxSteps := 2000000) [go_sem, -decide_eq_true_eq, -decide_eq_false_iff_not, hu, hu3]
 repeat' first | apply And.intro | refine hk _ ?_ | intro hg | (refine CallK.intro (hcall) ?_; simp -dsimp (maxSteps := 2000000) [go_sem, -decide_eq_true_eq, -decide_eq_false_iff_not, hu, hu3]) | omega | exact True.intro
 all_goals clear hk k
 refine AW.reg tiOk (fun _ => [0]) [0,1,2,4,12,13,14,15,17] ?_
 intro k hk; simp -dsimp (maxSteps := 2000000) [go_sem, -decide_eq_true_eq, -decide_eq_false_iff_not, hu, hu3, hx, hx3, hum2]
 repeat' first | apply And.intro | refine hk _ ?_ | intro hg | (refine CallK.intro (hfl) ?_; simp -dsimp (maxSteps := 2000000) [go_sem, -decide_eq_true_eq, -decide_eq_false_iff_not, hu, hu3, hx, hx3, hum2]) | omega | exact True.intro
 all_goals clear hk k
 refine rgN [0,1,2,4,12,13,14,15] (fun _ h => h) ?_
 intro k hk; simp -dsimp [go_sem, -decide_eq_true_eq, -decide_eq_false_iff_not, htk, hol]
 repeat' first | apply And.intro | refine hk _ ?_ | intro hg | omega | exact True.intro
 all_goals clear hk k
 refine rgKA ?_
 show ∃ _, _
 have hww : IntKind.wrap .i64 ((i : Int) + 1) = (i : Int) + 1 := wrap64 (by omega) (by omega)
 refine ⟨(i + 1, N2, F3), ⟨by simp only; omega, by simp only; rw [hsd, hN2, hN1]; simp, by simp only; rw [hsd, lk_app, lk_app, ← hF1, ← hF2, hF3]; rfl⟩, by simp only; omega, Less.of rfl (by simp [go_sem, hww, hsd, hol]) (by simp [go_sem, hsd])⟩)
 ·intro hc; try simp at hc
  all_goals (
 refine AW.exitN (fun _ h => h) ?_
 obtain rfl : i = (kids p (a : Int)).length := by first | omega | (simp at hc; omega)
 have hnd9 := dc_spec_l6Node_z N1 F1 ck (a : Int) 0 [] (by omega)
 obtain ⟨N3, hN3⟩ : ∃ N, N = N1 ++ [(⟨ck, a, [], 0, []⟩ : TGNode)] := ⟨_, rfl⟩
 rw [← hN3] at hnd9
 obtain ⟨OS, hOS⟩ : ∃ O, (sdN (gstep p f) (cdS p) ns.length (⟨ok, a, [], 0, []⟩ : TGNode) (kids p (a : Int)) (kids p (a : Int)).length).os = O := ⟨_, rfl⟩
 rw [hOS] at hol ⊢
 refine AW.reg tiOk (fun _ => [0]) [0,12,14,18] ?_
 intro k hk; simp -dsimp (maxSteps := 2000000) [go_sem, -decide_eq_true_eq, -decide_eq_false_iff_not]
 repeat' first | apply And.intro | refine hk _ ?_ | intro hg | (refine CallK.intro (hnd9) ?_; simp -dsimp (maxSteps := 2000000) [go_sem, -decide_eq_true_eq, -decide_eq_false_iff_not]) | omega | exact True.intro
 all_goals clear hk k
 refine AW.seq ?_
 refine rgA [0,12,14,18,19] ?_
 refine AW.block ?_
 refine AW.loopI (fun q : Nat × List TFlow => ⟨81, [(0, .ptr 1900 2 0 0), (12, .int .i64 (ns.length : Nat)), (14, .sl 28 1 0 (kids p (a : Int)).length), (18, .int .i64 (N1.length : Nat)), (19, .int .i64 (q.1 : Nat))], [(28, some ⟨1, OS.map I1⟩), (1900, some ⟨2, [grw N3 q.2]⟩)]⟩) (fun q => q.1 ≤ (kids p (a : Int)).length ∧ q.2 = lk F1 ((OS.take q.1).map fun o => (⟨o, (N1.length : Nat), []⟩ : TFlow))) (fun q => (kids p (a : Int)).length - q.1) ((0, F1)) (⟨Nat.zero_le _, rfl⟩) (Less.of rfl (by simp [go_sem]) (by simp [go_sem])) ?_
 rintro ⟨j, F4⟩ ⟨hj, hF4⟩
 simp only at hj hF4
 refine AW.seq ?_
 refine rg [0,12,14,18,19,69] ?_
 intro k hk; simp -dsimp [go_sem, -decide_eq_true_eq, -decide_eq_false_iff_not, hol]
 repeat' first | apply And.intro | refine hk _ ?_ | intro hg | omega | exact True.intro
 all_goals clear hk k
 refine AW.cond rfl ?_ ?_
 ·intro hc; try simp at hc
  all_goals (
 have hlt : j < (kids p (a : Int)).length := by first | assumption | omega
 obtain ⟨o, ho⟩ := at_some (l := OS) (i := j) (by omega)
 have ho3 := gel ho
 have hos := take_snoc ho
 have hF4l : F4.length = F1.length + j := by rw [hF4, lk_len, List.length_map, List.length_take]; omega
 have hfn := dc_link_n N3 F4 (by omega) o (N1.length : Int)
 obtain ⟨F5, hF5⟩ : ∃ N, N = putK TFlow.frm F4 (⟨o, (N1.length : Int), []⟩ : TFlow) := ⟨_, rfl⟩
 rw [← hF5] at hfn
 refine AW.skipN (fun _ h => h) ?_
 refine AW.seq ?_
 refine AW.block ?_
 refine AW.regN tiOk (fun _ => [0]) [0,12,14,18,19] (fun _ h => h) ?_
 intro k hk; simp -dsimp (maxSteps := 2000000) [go_sem, -decide_eq_true_eq, -decide_eq_false_iff_not, ho, ho3, hol]
 repeat' first | apply And.intro | refine hk _ ?_ | intro hg | (refine CallK.intro (hfn) ?_; simp -dsimp (maxSteps := 2000000) [go_sem, -decide_eq_true_eq, -decide_eq_false_iff_not, ho, ho3, hol]) | omega | exact True.intro
 all_goals clear hk k
 refine rgK ?_
 intro k hk; simp -dsimp [go_sem, -decide_eq_true_eq, -decide_eq_false_iff_not, ho, ho3, hol]
 repeat' first | apply And.intro | refine hk _ ?_ | intro hg | omega | exact True.intro
 all_goals clear hk k
 show ∃ _, _
 have hww : IntKind.wrap .i64 ((j : Int) + 1) = (j : Int) + 1 := wrap64 (by omega) (by omega)
 refine ⟨(j + 1, F5), ⟨by simp only; omega, by simp only; rw [hos, List.map_append, lk_app, ← hF4, hF5]; rfl⟩, by simp only; omega, Less.of rfl (by simp [go_sem, hww]) (by simp [go_sem])⟩)
 ·intro hc; try simp at hc
  all_goals (
 refine AW.exitN (fun _ h => h) ?_
 refine rgA [0,10,11] ?_
 refine rt ?_
 obtain rfl : j = (kids p (a : Int)).length := by first | omega | (simp at hc; omega)
 have hfi : sidesG (gstep p f) (cdS p) (⟨ok, a, [], 0, []⟩ : TGNode) (⟨ck, a, [], 0, []⟩ : TGNode) (kids p (a : Int)) ns.length = ⟨(sdN (gstep p f) (cdS p) ns.length (⟨ok, a, [], 0, []⟩ : TGNode) (kids p (a : Int)) (kids p (a : Int)).length).ns ++ [(⟨ck, a, [], 0, []⟩ : TGNode)], (sdN (gstep p f) (cdS p) ns.length (⟨ok, a, [], 0, []⟩ : TGNode) (kids p (a : Int)) (kids p (a : Int)).length).fs ++ OS.map fun o => (⟨o, (N1.length : Nat), []⟩ : TFlow), (ns.length : Nat), (N1.length : Nat)⟩ := by simp only [sidesG, hOS, hNl]
 rw [hfi]
 rw [List.take_of_length_le (by omega)] at hF4
 rw [lk_app, ← hF1, ← hF4, hN3, hN1]
 simp [go_sem, Try.results80]))
end Go.AM
namespace Go.AM
open Go.Proofs
set_option maxHeartbeats 8000000 in
theorem dc_spec_l6Step (p : List TStep) (hP : ProcOk p) (f : Nat) (hS : ∀ (k : Int) (ns : List TGNode) (fs : List TFlow), 0 ≤ k → k.toNat < p.length → p.length ≤ k.toNat + f → ns.length + 3 * cK p f k ≤ 400 → fs.length + 5 * cK p f k ≤ 400 → DC Try.prog 59 [.op (grw ns fs), .isl 6 (p.map TStep.ro), .int .i64 k] (.tup [.int .i64 (gstep p f k.toNat ns.length).en, .int .i64 (gstep p f k.toNat ns.length).lv]) [(0, .op (grw (ns ++ (gstep p f k.toNat ns.length).ns) (lk fs (gstep p f k.toNat ns.length).fs)))]) (ns : List TGNode) (fs : List TFlow) (a : Nat) (ha : a < p.length) (hf : p.length ≤ a + f + 1) (hb1 : ns.length + 3 * cK p (f + 1) (a : Int) ≤ 400) (hb2 : fs.length + 5 * cK p (f + 1) (a : Int) ≤ 400) : DC Try.prog 59 [.op (grw ns fs), .isl 6 (p.map TStep.ro), .int .i64 (a : Nat)] (.tup [.int .i64 (gstep p (f + 1) a ns.length).en, .int .i64 (gstep p (f + 1) a ns.length).lv]) [(0, .op (grw (ns ++ (gstep p (f + 1) a ns.length).ns) (lk fs (gstep p (f + 1) a ns.length).fs)))] := by
 have hkl := kids_len p (a : Int)
 have hp := hP.len.2
 have hfw : ∀ k2 ∈ (kids p (a : Int)), Few p f (gstep p f) k2 := fun k2 h9 => by obtain ⟨m, rfl, h1, h2, _, _⟩ := hP.kid h9; exact gstep_few hP f m h2
 obtain ⟨x, hx⟩ := at_some ha
 have hx3 := gel hx
 have hxn := nS_at hx
 have hck := cK_succ p f a
 have hmn := hP.many ha
 have hbr := hP.bare ha
 rw [hxn] at hmn hbr
 have hxs := hP.sml x (List.mem_of_getElem? hx)
 have hxe : x.expr.length ≤ 16 := hxs.2.2
 refine DC.intro tiOk Try.func59 rfl rfl rfl rfl rfl rfl rfl (by simp [noW, noWo]) [] ?_
 refine rgA [0,1,2] ?_
 refine rg [0,1,2,8] ?_
 intro k hk; simp -dsimp [go_sem, -decide_eq_true_eq, -decide_eq_false_iff_not, hx, hx3]
 repeat' first | apply And.intro | refine hk _ ?_ | intro hg | omega | exact True.intro
 all_goals clear hk k
 refine AW.seq ?_
 refine rgA [0,1,2,8,23] ?_
 refine AW.block ?_
 refine rgA [0,1,2,8,23,24] ?_
 refine AW.cond rfl ?_ ?_
 ·intro hc; try simp at hc
  all_goals try (exfalso; first | omega | contradiction; done)
  all_goals (
 have hk3 : x.kind = 3 := by first | assumption | simpa using hc
 have hg : (gstep p (f + 1) a ns.length) = sidesG (gstep p f) (cdS p) (⟨7, a, [], 0, []⟩ : TGNode) ⟨8, a, [], 0, []⟩ (kids p (a : Int)) ns.length := by unfold gstep; rw [hxn, if_neg (by omega), if_neg (by omega), if_neg (by omega), if_neg (by omega), if_neg (by omega), if_neg (by omega), if_pos hk3]
 refine AW.reg tiOk (fun _ => [0]) [0,6,7] ?_
 intro k hk; simp -dsimp (maxSteps := 2000000) [go_sem, -decide_eq_true_eq, -decide_eq_false_iff_not]
 repeat' first | apply And.intro | refine hk _ ?_ | intro hg | (refine CallK.intro ((dc_spec_l6Many p hP f hS ns fs a ha hf 7 8 (by omega) (by omega))) ?_; simp -dsimp (maxSteps := 2000000) [go_sem, -decide_eq_true_eq, -decide_eq_false_iff_not]) | omega | exact True.intro
 all_goals clear hk k
 refine rt ?_
 first | (rw [hg]; simp [go_sem, Try.results59]; done) | (have hb3 : highA x.kind = 0 := (by rw [hkd]; decide); have hg : (gstep p (f + 1) a ns.length) = leafG (⟨3, a, x.name, 0, []⟩ : TGNode) ns.length := (by unfold gstep; rw [hxn, if_pos hkd]); rw [hg]; have e1 := hbr.2.1 hb3; have e2 := hbr.2.2.1 (by omega); simp [go_sem, Try.results59, leafG, lk, e1, e2]; done) | (have e1 := hbr.1 (by omega); have e2 := hbr.2.2.1 (by omega); have hg : (gstep p (f + 1) a ns.length) = leafG (⟨4, a, [], x.arg, []⟩ : TGNode) ns.length := (by unfold gstep; rw [hxn, if_neg (by omega), if_pos hkd]); rw [hg]; simp [go_sem, Try.results59, leafG, lk, e1, e2]; done) | (have e1 := hbr.1 (by omega); have e2 := hbr.2.2.1 (by omega); have hg : (gstep p (f + 1) a ns.length) = leafG (⟨5, a, [], x.arg, []⟩ : TGNode) ns.length := (by unfold gstep; rw [hxn, if_neg (by omega), if_neg (by omega), if_pos hkd]); rw [hg]; simp [go_sem, Try.results59, leafG, lk, e1, e2]; done) | (have e1 := hbr.1 (by omega); have hg : (gstep p (f + 1) a ns.length) = leafG (⟨6, a, [], x.arg, x.expr⟩ : TGNode) ns.length := (by unfold gstep; rw [hxn, if_neg (by omega), if_neg (by omega), if_neg (by omega), if_pos hkd]); rw [hg]; simp [go_sem, Try.results59, leafG, lk, e1]; done))
 ·intro hc; try simp at hc
  all_goals try (exfalso; first | omega | contradiction; done)
  all_goals (
 refine rgA [0,1,2,8,23,32] ?_
 refine AW.cond rfl ?_ ?_
 ·intro hc; try simp at hc
  all_goals try (exfalso; first | omega | contradiction; done)
  all_goals (
 have hk4 : x.kind = 4 := by first | assumption | simpa using hc
 have hg : (gstep p (f + 1) a ns.length) = sidesG (gstep p f) (cdS p) (⟨9, a, [], 0, []⟩ : TGNode) ⟨10, a, [], 0, []⟩ (kids p (a : Int)) ns.length := by unfold gstep; rw [hxn, if_neg (by omega), if_neg (by omega), if_neg (by omega), if_neg (by omega), if_neg (by omega), if_neg (by omega), if_neg (by omega)]
 refine AW.reg tiOk (fun _ => [0]) [0,6,7] ?_
 intro k hk; simp -dsimp (maxSteps := 2000000) [go_sem, -decide_eq_true_eq, -decide_eq_false_iff_not]
 repeat' first | apply And.intro | refine hk _ ?_ | intro hg | (refine CallK.intro ((dc_spec_l6Many p hP f hS ns fs a ha hf 9 10 (by omega) (by omega))) ?_; simp -dsimp (maxSteps := 2000000) [go_sem, -decide_eq_true_eq, -decide_eq_false_iff_not]) | omega | exact True.intro
 all_goals clear hk k
 refine rt ?_
 first | (rw [hg]; simp [go_sem, Try.results59]; done) | (have hb3 : highA x.kind = 0 := (by rw [hkd]; decide); have hg : (gstep p (f + 1) a ns.length) = leafG (⟨3, a, x.name, 0, []⟩ : TGNode) ns.length := (by unfold gstep; rw [hxn, if_pos hkd]); rw [hg]; have e1 := hbr.2.1 hb3; have e2 := hbr.2.2.1 (by omega); simp [go_sem, Try.results59, leafG, lk, e1, e2]; done) | (have e1 := hbr.1 (by omega); have e2 := hbr.2.2.1 (by omega); have hg : (gstep p (f + 1) a ns.length) = leafG (⟨4, a, [], x.arg, []⟩ : TGNode) ns.length := (by unfold gstep; rw [hxn, if_neg (by omega), if_pos hkd]); rw [hg]; simp [go_sem, Try.results59, leafG, lk, e1, e2]; done) | (have e1 := hbr.1 (by omega); have e2 := hbr.2.2.1 (by omega); have hg : (gstep p (f + 1) a ns.length) = leafG (⟨5, a, [], x.arg, []⟩ : TGNode) ns.length := (by unfold gstep; rw [hxn, if_neg (by omega), if_neg (by omega), if_pos hkd]); rw [hg]; simp [go_sem, Try.results59, leafG, lk, e1, e2]; done) | (have e1 := hbr.1 (by omega); have hg : (gstep p (f + 1) a ns.length) = leafG (⟨6, a, [], x.arg, x.expr⟩ : TGNode) ns.length := (by unfold gstep; rw [hxn, if_neg (by omega), if_neg (by omega), if_neg (by omega), if_pos hkd]); rw [hg]; simp [go_sem, Try.results59, leafG, lk, e1]; done))
 ·intro hc; try simp at hc
  all_goals try (exfalso; first | omega | contradiction; done)
  all_goals (
 refine rgA [0,1,2,8,23,40] ?_
 refine AW.cond rfl ?_ ?_
 ·intro hc; try simp at hc
  all_goals try (exfalso; first | omega | contradiction; done)
  all_goals (
 have hk8x : x.kind = 8 := by first | assumption | simpa using hc
 have hk8 : (kids p (a : Int)).length = 2 := by rw [hk8x] at hmn; exact kid_two hmn
 have hg : (gstep p (f + 1) a ns.length) = (guardG (gstep p f) ⟨11, a, [], (nS p a).arg, []⟩ ⟨12, a, [], 0, []⟩ ⟨13, a, [], 0, []⟩ (gI (kids p (a : Int)) 0) (gI (kids p (a : Int)) 1) ns.length) := by unfold gstep; rw [hxn, if_neg (by omega), if_neg (by omega), if_neg (by omega), if_neg (by omega), if_neg (by omega), if_pos hk8x]
 refine AW.reg tiOk (fun _ => [0]) [0,6,7] ?_
 intro k hk; simp -dsimp (maxSteps := 2000000) [go_sem, -decide_eq_true_eq, -decide_eq_false_iff_not]
 repeat' first | apply And.intro | refine hk _ ?_ | intro hg | (refine CallK.intro ((dc_spec_l6Guard p hP f hS ns fs a ha hf hk8 (by omega) (by omega))) ?_; simp -dsimp (maxSteps := 2000000) [go_sem, -decide_eq_true_eq, -decide_eq_false_iff_not]) | omega | exact True.intro
 all_goals clear hk k
 refine rt ?_
 first | (rw [hg]; simp [go_sem, Try.results59]; done) | (have hb3 : highA x.kind = 0 := (by rw [hkd]; decide); have hg : (gstep p (f + 1) a ns.length) = leafG (⟨3, a, x.name, 0, []⟩ : TGNode) ns.length := (by unfold gstep; rw [hxn, if_pos hkd]); rw [hg]; have e1 := hbr.2.1 hb3; have e2 := hbr.2.2.1 (by omega); simp [go_sem, Try.results59, leafG, lk, e1, e2]; done) | (have e1 := hbr.1 (by omega); have e2 := hbr.2.2.1 (by omega); have hg : (gstep p (f + 1) a ns.length) = leafG (⟨4, a, [], x.arg, []⟩ : TGNode) ns.length := (by unfold gstep; rw [hxn, if_neg (by omega), if_pos hkd]); rw [hg]; simp [go_sem, Try.results59, leafG, lk, e1, e2]; done) | (have e1 := hbr.1 (by omega); have e2 := hbr.2.2.1 (by omega); have hg : (gstep p (f + 1) a ns.length) = leafG (⟨5, a, [], x.arg, []⟩ : TGNode) ns.length := (by unfold gstep; rw [hxn, if_neg (by omega), if_neg (by omega), if_pos hkd]); rw [hg]; simp [go_sem, Try.results59, leafG, lk, e1, e2]; done) | (have e1 := hbr.1 (by omega); have hg : (gstep p (f + 1) a ns.length) = leafG (⟨6, a, [], x.arg, x.expr⟩ : TGNode) ns.length := (by unfold gstep; rw [hxn, if_neg (by omega), if_neg (by omega), if_neg (by omega), if_pos hkd]); rw [hg]; simp [go_sem, Try.results59, leafG, lk, e1]; done))
 ·intro hc; try simp at hc
  all_goals try (exfalso; first | omega | contradiction; done)
  all_goals (
 refine rgA [0,1,2,8,48] ?_
 refine AW.cond rfl ?_ ?_
 ·intro hc; try simp at hc
  all_goals try (exfalso; first | omega | contradiction; done)
  all_goals (
 have hk1x : x.kind = 1 := by first | assumption | simpa using hc
 have hk1 : 1 ≤ (kids p (a : Int)).length := by rw [hk1x] at hmn; exact kid_one hmn
 have hg : (gstep p (f + 1) a ns.length) = seqN (gstep p f) ns.length (kids p (a : Int)) ((kids p (a : Int)).length - 1) := by unfold gstep; rw [hxn, if_neg (by omega), if_neg (by omega), if_neg (by omega), if_neg (by omega), if_pos hk1x]
 have hne : (kids p (a : Int)) ≠ [] := List.ne_nil_of_length_pos (by omega)
 obtain ⟨u0, hu0⟩ := at_some (l := (kids p (a : Int))) (i := 0) (by omega)
 have hu03 := gel hu0
 obtain ⟨um0, hum0, w1, w2, w4, w5⟩ := hP.kid (List.mem_of_getElem? hu0)
 have hd0 : headI (kids p (a : Int)) = u0 := by unfold headI; rw [List.getD_eq_getElem?_getD, hu0]; rfl
 have hc00 : cKs p f (List.take 1 (kids p (a : Int))) = cKs p f (List.take 0 (kids p (a : Int))) + cK p f u0 := cKs_snoc hu0
 have hcl0 := cKs_le p f (kids p (a : Int)) 1
 have hce0 : cKs p f (List.take 0 (kids p (a : Int))) = 0 := rfl
 have hcall0 := hS u0 ns fs (by omega) (by omega) (by omega) (by omega) (by omega)
 obtain ⟨R0, hR0⟩ : ∃ R, seqN (gstep p f) ns.length (kids p (a : Int)) 0 = R := ⟨_, rfl⟩
 have hR1 := hR0
 rw [seq_zero, hd0] at hR1
 rw [hR1] at hcall0
 obtain ⟨N0, hN0⟩ : ∃ N, N = ns ++ R0.ns := ⟨_, rfl⟩
 obtain ⟨F0, hF0⟩ : ∃ N, N = lk fs R0.fs := ⟨_, rfl⟩
 rw [← hN0, ← hF0] at hcall0
 refine rg [0,1,9] ?_
 intro k hk; simp -dsimp (maxSteps := 2000000) [go_sem, -decide_eq_true_eq, -decide_eq_false_iff_not]
 repeat' first | apply And.intro | refine hk _ ?_ | intro hg | (refine CallK.intro (dc_spec_l4Kids p (a : Int) hp (by rw [hP.par0]; omega)) ?_; simp -dsimp (maxSteps := 2000000) [go_sem, -decide_eq_true_eq, -decide_eq_false_iff_not]) | omega | exact True.intro
 all_goals clear hk k
 refine AW.reg tiOk (fun _ => [0]) [0,1,9,10,11] ?_
 intro k hk; simp -dsimp (maxSteps := 2000000) [go_sem, -decide_eq_true_eq, -decide_eq_false_iff_not, hu0, hu03]
 repeat' first | apply And.intro | refine hk _ ?_ | intro hg | (refine CallK.intro (hcall0) ?_; simp -dsimp (maxSteps := 2000000) [go_sem, -decide_eq_true_eq, -decide_eq_false_iff_not, hu0, hu03]) | omega | exact True.intro
 all_goals clear hk k
 refine AW.seq ?_
 refine rgA [0,1,9,10,11,12] ?_
 refine AW.block ?_
 refine AW.loopI (fun q : Nat × Nat × List TGNode × List TFlow => ⟨113, [(0, .ptr 1900 2 0 0), (1, .isl 6 (p.map TStep.ro)), (9, .sl 1052 1 0 (kids p (a : Int)).length), (10, .int .i64 (seqN (gstep p f) ns.length (kids p (a : Int)) q.1).en), (11, .int .i64 (seqN (gstep p f) ns.length (kids p (a : Int)) q.1).lv), (12, .int .i64 (q.2.1 : Nat))], [(1052, some ⟨1, (kids p (a : Int)).map I1⟩), (1900, some ⟨2, [grw q.2.2.1 q.2.2.2]⟩)]⟩) (fun q => q.1 ≤ (kids p (a : Int)).length - 1 ∧ q.2.1 = q.1 + 1 ∧ q.2.2.1 = ns ++ (seqN (gstep p f) ns.length (kids p (a : Int)) q.1).ns ∧ q.2.2.2 = lk fs (seqN (gstep p f) ns.length (kids p (a : Int)) q.1).fs) (fun q => (kids p (a : Int)).length - 1 - q.1) ((0, 1, N0, F0)) (⟨Nat.zero_le _, rfl, by simp only; rw [hR0]; exact hN0, by simp only; rw [hR0]; exact hF0⟩) (Less.of rfl (by simp [go_sem, hR0]) (by simp [go_sem, hR0])) ?_
 rintro ⟨i, e, N1, F1⟩ ⟨hi, he, hN1, hF1⟩
 simp only at hi he hN1 hF1
 refine AW.seq ?_
 refine rg [0,1,9,10,11,12,65] ?_
 intro k hk; simp -dsimp [go_sem, -decide_eq_true_eq, -decide_eq_false_iff_not, hu0]
 repeat' first | apply And.intro | refine hk _ ?_ | intro hg | omega | exact True.intro
 all_goals clear hk k
 refine AW.cond rfl ?_ ?_
 ·intro hc; try simp at hc
  all_goals try (exfalso; first | omega | contradiction; done)
  all_goals (
 have hlt : e < (kids p (a : Int)).length := by first | assumption | omega
 obtain ⟨u, hu⟩ := at_some (l := (kids p (a : Int))) (i := e) hlt
 have hu3 := gel hu
 have hu9 : (kids p (a : Int))[i + 1]? = some u := by rw [← he]; exact hu
 obtain ⟨um, hum, hu1, hu2, hu4, hu5⟩ := hP.kid (List.mem_of_getElem? hu)
 have hf1 := seq_few (n := ns.length) hne hfw i (by omega)
 have hc1 := cKs_snoc (p := p) (f := f) hu9
 have hc2 := cKs_le p f (kids p (a : Int)) (i + 1 + 1)
 have hpz := cK_pos p f u
 have hNl : N1.length = ns.length + (seqN (gstep p f) ns.length (kids p (a : Int)) i).ns.length := by rw [hN1, List.length_append]
 have hFl : F1.length = fs.length + (seqN (gstep p f) ns.length (kids p (a : Int)) i).fs.length := by rw [hF1, lk_len]
 have hcall := hS u N1 F1 (by omega) (by omega) (by omega) (by omega) (by omega)
 have hsq := seq_succ (g := gstep p f) (n := ns.length) hu9
 rw [hNl] at hcall
 obtain ⟨R, hR⟩ : ∃ R, gstep p f u.toNat (ns.length + (seqN (gstep p f) ns.length (kids p (a : Int)) i).ns.length) = R := ⟨_, rfl⟩
 have hfR := hfw u (List.mem_of_getElem? hu) (ns.length + (seqN (gstep p f) ns.length (kids p (a : Int)) i).ns.length)
 unfold seqF at hsq
 rw [hR] at hcall hsq hfR
 obtain ⟨N2, hN2⟩ : ∃ N, N = N1 ++ R.ns := ⟨_, rfl⟩
 obtain ⟨F2, hF2⟩ : ∃ N, N = lk F1 R.fs := ⟨_, rfl⟩
 rw [← hN2, ← hF2] at hcall
 have hfn := dc_link_n N2 F2 (by rw [hF2, lk_len]; omega) (seqN (gstep p f) ns.length (kids p (a : Int)) i).lv R.en
 obtain ⟨F3, hF3⟩ : ∃ N, N = putK TFlow.frm F2 (⟨(seqN (gstep p f) ns.length (kids p (a : Int)) i).lv, R.en, []⟩ : TFlow) := ⟨_, rfl⟩
 rw [← hF3] at hfn
 refine AW.skipN (fun _ h => h) ?_
 refine AW.seq ?_
 refine AW.block ?_
 refine AW.reg tiOk (fun _ => [0]) [0,1,9,10,11,12,13,14] ?_
 intro k hk; simp -dsimp (maxSteps := 2000000) [go_sem, -decide_eq_true_eq, -decide_eq_false_iff_not, hu, hu3]
 repeat' first | apply And.intro | refine hk _ ?_ | intro hg | (refine CallK.intro (hcall) ?_; simp -dsimp (maxSteps := 2000000) [go_sem, -decide_eq_true_eq, -decide_eq_false_iff_not, hu, hu3]) | omega | exact True.intro
 all_goals clear hk k
 refine AW.reg tiOk (fun _ => [0]) [0,1,9,10,12,14] ?_
 intro k hk; simp -dsimp (maxSteps := 2000000) [go_sem, -decide_eq_true_eq, -decide_eq_false_iff_not]
 repeat' first | apply And.intro | refine hk _ ?_ | intro hg | (refine CallK.intro (hfn) ?_; simp -dsimp (maxSteps := 2000000) [go_sem, -decide_eq_true_eq, -decide_eq_false_iff_not]) | omega | exact True.intro
 all_goals clear hk k
 refine rgNA [0,1,9,10,11,12] (fun _ h => h) ?_
 refine rgKA ?_
 show ∃ _, _
 have hww : IntKind.wrap .i64 ((e : Int) + 1) = (e : Int) + 1 := wrap64 (by omega) (by omega)
 refine ⟨(i + 1, e + 1, N2, F3), ⟨by simp only; omega, by simp only; omega, by simp only; rw [hsq, hN2, hN1]; simp, by simp only; rw [hsq, lk_app, lk_app, ← hF1, ← hF2, hF3]; rfl⟩, by simp only; omega, Less.of rfl (by simp [go_sem, hww, hsq]) (by simp [go_sem, hsq])⟩)
 ·intro hc; try simp at hc
  all_goals try (exfalso; first | omega | contradiction; done)
  all_goals (
 refine AW.exitN (fun _ h => h) ?_
 obtain rfl : i = (kids p (a : Int)).length - 1 := by omega
 subst hN1 hF1
 refine rgA [0,6,7] ?_
 refine rt ?_
 first | (rw [hg]; simp [go_sem, Try.results59]; done) | (have hb3 : highA x.kind = 0 := (by rw [hkd]; decide); have hg : (gstep p (f + 1) a ns.length) = leafG (⟨3, a, x.name, 0, []⟩ : TGNode) ns.length := (by unfold gstep; rw [hxn, if_pos hkd]); rw [hg]; have e1 := hbr.2.1 hb3; have e2 := hbr.2.2.1 (by omega); simp [go_sem, Try.results59, leafG, lk, e1, e2]; done) | (have e1 := hbr.1 (by omega); have e2 := hbr.2.2.1 (by omega); have hg : (gstep p (f + 1) a ns.length) = leafG (⟨4, a, [], x.arg, []⟩ : TGNode) ns.length := (by unfold gstep; rw [hxn, if_neg (by omega), if_pos hkd]); rw [hg]; simp [go_sem, Try.results59, leafG, lk, e1, e2]; done) | (have e1 := hbr.1 (by omega); have e2 := hbr.2.2.1 (by omega); have hg : (gstep p (f + 1) a ns.length) = leafG (⟨5, a, [], x.arg, []⟩ : TGNode) ns.length := (by unfold gstep; rw [hxn, if_neg (by omega), if_neg (by omega), if_pos hkd]); rw [hg]; simp [go_sem, Try.results59, leafG, lk, e1, e2]; done) | (have e1 := hbr.1 (by omega); have hg : (gstep p (f + 1) a ns.length) = leafG (⟨6, a, [], x.arg, x.expr⟩ : TGNode) ns.length := (by unfold gstep; rw [hxn, if_neg (by omega), if_neg (by omega), if_neg (by omega), if_pos hkd]); rw [hg]; simp [go_sem, Try.results59, leafG, lk, e1]; done)))
 ·intro hc; try simp at hc
  all_goals try (exfalso; first | omega | contradiction; done)
  all_goals (
 refine AW.skipN (fun _ h => h) ?_
 have hk4 : x.kind = 2 ∨ x.kind = 5 ∨ x.kind = 6 ∨ x.kind = 7 := by omega
 rcases hk4 with hkd | hkd | hkd | hkd
 all_goals (
 refine rg [0,2,8,15] ?_
 intro k hk; simp -dsimp (maxSteps := 2000000) [go_sem, -decide_eq_true_eq, -decide_eq_false_iff_not, hkd]
 repeat' first | apply And.intro | refine hk _ ?_ | intro hg | omega | exact True.intro
 all_goals clear hk k
 refine AW.reg tiOk (fun i => if i = 18 then [0, 1] else []) [0,16] ?_
 intro k hk; simp -dsimp (maxSteps := 2000000) [go_sem, -decide_eq_true_eq, -decide_eq_false_iff_not, hkd]
 repeat' first | ((refine Chk.keys ?_); simp only [go_sem, List.map_cons, List.map_nil, List.flatMap_cons, List.flatMap_nil, List.flatMap_append, List.append_nil, List.nil_append, List.cons_append]; decide +kernel) | apply And.intro | refine hk _ ?_ | intro hg | ((first | refine CallK.intro ((dc_spec_l6Node_o ns fs 3 (a : Int) x.arg x.name x.expr (by omega))) ?_ | refine CallK.intro ((dc_spec_l6Node_o ns fs 4 (a : Int) x.arg x.name x.expr (by omega))) ?_ | refine CallK.intro ((dc_spec_l6Node_o ns fs 5 (a : Int) x.arg x.name x.expr (by omega))) ?_ | refine CallK.intro ((dc_spec_l6Node_o ns fs 6 (a : Int) x.arg x.name x.expr (by omega))) ?_); simp -dsimp (maxSteps := 2000000) [go_sem, -decide_eq_true_eq, -decide_eq_false_iff_not, hkd]) | omega | exact True.intro
 all_goals clear hk k
 refine rgA [0,6,7] ?_
 refine rt ?_
 first | (rw [hg]; simp [go_sem, Try.results59]; done) | (have hb3 : highA x.kind = 0 := (by rw [hkd]; decide); have hg : (gstep p (f + 1) a ns.length) = leafG (⟨3, a, x.name, 0, []⟩ : TGNode) ns.length := (by unfold gstep; rw [hxn, if_pos hkd]); rw [hg]; have e1 := hbr.2.1 hb3; have e2 := hbr.2.2.1 (by omega); simp [go_sem, Try.results59, leafG, lk, e1, e2]; done) | (have e1 := hbr.1 (by omega); have e2 := hbr.2.2.1 (by omega); have hg : (gstep p (f + 1) a ns.length) = leafG (⟨4, a, [], x.arg, []⟩ : TGNode) ns.length := (by unfold gstep; rw [hxn, if_neg (by omega), if_pos hkd]); rw [hg]; simp [go_sem, Try.results59, leafG, lk, e1, e2]; done) | (have e1 := hbr.1 (by omega); have e2 := hbr.2.2.1 (by omega); have hg : (gstep p (f + 1) a ns.length) = leafG (⟨5, a, [], x.arg, []⟩ : TGNode) ns.length := (by unfold gstep; rw [hxn, if_neg (by omega), if_neg (by omega), if_pos hkd]); rw [hg]; simp [go_sem, Try.results59, leafG, lk, e1, e2]; done) | (have e1 := hbr.1 (by omega); have hg : (gstep p (f + 1) a ns.length) = leafG (⟨6, a, [], x.arg, x.expr⟩ : TGNode) ns.length := (by unfold gstep; rw [hxn, if_neg (by omega), if_neg (by omega), if_neg (by omega), if_pos hkd]); rw [hg]; simp [go_sem, Try.results59, leafG, lk, e1]; done))))))
theorem dc_gstep_spec (p : List TStep) (hP : ProcOk p) : ∀ f : Nat, ∀ (k : Int) (ns : List TGNode) (fs : List TFlow), 0 ≤ k → k.toNat < p.length → p.length ≤ k.toNat + f → ns.length + 3 * cK p f k ≤ 400 → fs.length + 5 * cK p f k ≤ 400 → DC Try.prog 59 [.op (grw ns fs), .isl 6 (p.map TStep.ro), .int .i64 k] (.tup [.int .i64 (gstep p f k.toNat ns.length).en, .int .i64 (gstep p f k.toNat ns.length).lv]) [(0, .op (grw (ns ++ (gstep p f k.toNat ns.length).ns) (lk fs (gstep p f k.toNat ns.length).fs)))] := by
 intro f
 induction f with
 | zero => intro k ns fs h0 h1 h2; omega
 | succ f ih =>
  intro k ns fs h0 h1 h2 h3 h4
  obtain ⟨a, rfl⟩ : ∃ a : Nat, k = a := ⟨_, (Int.toNat_of_nonneg h0).symm⟩
  rw [Int.toNat_natCast] at h1 h2 ⊢
  exact dc_spec_l6Step p hP f ih ns fs a h1 (by omega) h3 h4
end Go.AM
namespace Go.AM
open Go.Proofs
set_option maxHeartbeats 8000000 in
theorem dc_spec_l6Graph (p : List TStep) (hP : ProcOk p) : DC Try.prog 37 [.isl 6 (p.map TStep.ro)] (.agg [.osl 5 ((gNs p).map TGNode.oc), .osl 3 ((srt TFlow.frm (gFl p)).map TFlow.oc)]) [] := by
 have hp := hP.len
 have hfw := gTop_few hP
 have hcp := (grow_ok hP).1
 have hck : cK p p.length 0 ≤ 24 := hcp
 obtain ⟨R, hR⟩ : ∃ N, N = gTop p := ⟨_, rfl⟩
 rw [← hR] at hfw
 have hn0 := dc_spec_l6Node_z [] [] 1 0 0 [] (by simp)
 obtain ⟨N0, hN0⟩ : ∃ N, N = ([] : List TGNode) ++ [(⟨1, 0, [], 0, []⟩ : TGNode)] := ⟨_, rfl⟩
 rw [← hN0] at hn0
 have l0 : N0.length = 1 := by rw [hN0]; rfl
 have hs0 := dc_gstep_spec p hP p.length 0 N0 [] (by omega) (by simp; omega) (by simp) (by omega) (by simp; omega)
 rw [l0] at hs0
 have hRt : gstep p p.length (0 : Int).toNat 1 = R := by rw [hR]; rfl
 rw [hRt] at hs0
 obtain ⟨N1, hN1⟩ : ∃ N, N = N0 ++ R.ns := ⟨_, rfl⟩
 obtain ⟨F1, hF1⟩ : ∃ N, N = lk [] R.fs := ⟨_, rfl⟩
 rw [← hN1, ← hF1] at hs0
 have l1 : N1.length = 1 + R.ns.length := by rw [hN1, List.length_append, l0]
 have m1 : F1.length = R.fs.length := by rw [hF1, lk_len]; simp
 have hn1 := dc_spec_l6Node_z N1 F1 2 0 0 [] (by omega)
 obtain ⟨N2, hN2⟩ : ∃ N, N = N1 ++ [(⟨2, 0, [], 0, []⟩ : TGNode)] := ⟨_, rfl⟩
 rw [← hN2] at hn1
 have hq0 := dc_link_n N2 F1 (by omega) 0 R.en
 obtain ⟨F2, hF2⟩ : ∃ N, N = putK TFlow.frm F1 (⟨0, R.en, []⟩ : TFlow) := ⟨_, rfl⟩
 rw [← hF2] at hq0
 have m2 : F2.length = F1.length + 1 := by rw [hF2, ← lk_one, lk_len]; rfl
 have hq1 := dc_link_n N2 F2 (by omega) R.lv (N1.length : Nat)
 obtain ⟨F3, hF3⟩ : ∃ N, N = putK TFlow.frm F2 (⟨R.lv, (N1.length : Nat), []⟩ : TFlow) := ⟨_, rfl⟩
 rw [← hF3] at hq1
 have m3 : F3.length = F2.length + 1 := by rw [hF3, ← lk_one, lk_len]; rfl
 have hgn : gNs p = N2 := by unfold gNs; rw [hN2, hN1, hN0, ← hR]; simp
 have hgf : srt TFlow.frm (gFl p) = F3 := by rw [← lk_srt]; unfold gFl; rw [lk_app, lk_app, ← hR, ← hF1, hF3, hF2, l1]; rfl
 rw [hgn, hgf]
 have hne2 : nlc 5 (N2.map TGNode.oc) = .osl 5 (N2.map TGNode.oc) := nlc_map (by rw [hN2]; simp) 5
 have hne3 : nlc 3 (F3.map TFlow.oc) = .osl 3 (F3.map TFlow.oc) := nlc_map (by intro e; rw [e] at m3; simp at m3) 3
 refine DC.intro tiOk Try.func37 rfl rfl rfl rfl rfl rfl rfl rfl [1000] ?_
 refine rgA [0,2] ?_
 refine rgA [0,2,3] ?_
 refine AW.reg tiOk (fun _ => [0]) [0,2,3,4] ?_
 intro k hk; simp -dsimp (maxSteps := 2000000) [go_sem, -decide_eq_true_eq, -decide_eq_false_iff_not]
 repeat' first | apply And.intro | refine hk _ ?_ | intro hg | (refine CallK.intro (hn0) ?_; simp -dsimp (maxSteps := 2000000) [go_sem, -decide_eq_true_eq, -decide_eq_false_iff_not]) | omega | exact True.intro
 all_goals clear hk k
 refine AW.reg tiOk (fun _ => [0]) [2,3,4,5,6] ?_
 intro k hk; simp -dsimp (maxSteps := 2000000) [go_sem, -decide_eq_true_eq, -decide_eq_false_iff_not]
 repeat' first | apply And.intro | refine hk _ ?_ | intro hg | (refine CallK.intro (hs0) ?_; simp -dsimp (maxSteps := 2000000) [go_sem, -decide_eq_true_eq, -decide_eq_false_iff_not]) | omega | exact True.intro
 all_goals clear hk k
 refine AW.reg tiOk (fun _ => [0]) [2,3,4,5,6,7] ?_
 intro k hk; simp -dsimp (maxSteps := 2000000) [go_sem, -decide_eq_true_eq, -decide_eq_false_iff_not]
 repeat' first | apply And.intro | refine hk _ ?_ | intro hg | (refine CallK.intro (hn1) ?_; simp -dsimp (maxSteps := 2000000) [go_sem, -decide_eq_true_eq, -decide_eq_false_iff_not]) | omega | exact True.intro
 all_goals clear hk k
 refine AW.reg tiOk (fun _ => [0]) [2,3,6,7] ?_
 intro k hk; simp -dsimp (maxSteps := 2000000) [go_sem, -decide_eq_true_eq, -decide_eq_false_iff_not]
 repeat' first | apply And.intro | refine hk _ ?_ | intro hg | (refine CallK.intro (hq0) ?_; simp -dsimp (maxSteps := 2000000) [go_sem, -decide_eq_true_eq, -decide_eq_false_iff_not]) | omega | exact True.intro
 all_goals clear hk k
 refine AW.reg tiOk (fun _ => [0]) [2,3] ?_
 intro k hk; simp -dsimp (maxSteps := 2000000) [go_sem, -decide_eq_true_eq, -decide_eq_false_iff_not]
 repeat' first | apply And.intro | refine hk _ ?_ | intro hg | (refine CallK.intro (hq1) ?_; simp -dsimp (maxSteps := 2000000) [go_sem, -decide_eq_true_eq, -decide_eq_false_iff_not]) | omega | exact True.intro
 all_goals clear hk k
 rw [hne2, hne3]
 refine AW.thaw 3 0 0 7001 rfl rfl rfl (by simp [go_sem]) ?_
 refine AW.thaw 3 0 1 7002 rfl rfl rfl (by simp [go_sem]) ?_
 refine rgA [2] ?_
 refine rt ?_
 simp [go_sem, Try.results37]
end Go.AM
namespace Go.AM
open Go.Proofs
theorem dc_spec_l4Deep (p : List TStep) (hp : p.length ≤ 24) (m : Nat) (hm : m ≤ p.length) (hl : ParOk ((pars p).take m)) (a : Int) (ha : -1 ≤ a ∧ a < m) : DC Try.prog 72 [.isl 6 (p.map TStep.ro), .int .i64 a] (.int .i64 (dep ((pars p).take m) a)) [] := by
 have hL : ((pars p).take m).length = m := take_len hm
 have hd1 := dep_small hl (a := a) (by omega)
 refine DC.intro tiOk Try.func72 rfl rfl rfl rfl rfl rfl rfl rfl [] ?_
 refine rgA [0,1] ?_
 refine rgA [0,1,5] ?_
 refine AW.seq ?_
 refine AW.block ?_
 refine AW.loopI (fun j : Int × Int => ⟨20, [(0, .isl 6 (p.map TStep.ro)), (1, .int .i64 j.1), (5, .int .i64 j.2)], []⟩) (fun j => -1 ≤ j.1 ∧ j.1 < m ∧ j.2 + dep ((pars p).take m) j.1 = dep ((pars p).take m) a ∧ 0 ≤ j.2) (fun j => (j.1 + 1).toNat) ((a, 0)) (by refine ⟨by simp only; omega, by simp only; omega, by simp only; omega, by simp only; omega⟩) (Less.of rfl (by simp [go_sem]) (by simp [go_sem])) ?_
 rintro ⟨b, n⟩ ⟨hb1, hb2, hinv, hn0⟩
 simp only at hb1 hb2 hinv hn0
 have hd2 := dep_small hl (a := b) (by omega)
 have hn50 : n < 50 := by omega
 refine AW.seq ?_
 refine AW.cut ⟨20, [(0, .isl 6 (p.map TStep.ro)), (1, .int .i64 b), (5, .int .i64 n), (11, .bool (decide (0 ≤ b)))], []⟩ ?_ ?_
 ·skip
  refine rgK ?_
  intro k hk; simp +contextual -dsimp [go_sem, -decide_eq_true_eq, -decide_eq_false_iff_not]
  repeat' first | apply And.intro | refine hk _ ?_ | (intro hg; try simp only [decide_eq_true_eq, decide_eq_false_iff_not] at hg) | omega | exact True.intro
  all_goals clear hk k
  all_goals (show St.Less _ _; exact Less.of rfl (by simp [go_sem] <;> first | omega | grind) (by simp [go_sem]))
 ·skip
  refine AW.cond rfl ?_ ?_
  ·intro hc; try simp at hc
   all_goals try (exfalso; omega; done)
   all_goals (
 have h0 : 0 ≤ b := by simpa using hc
 obtain ⟨k, hk⟩ : ∃ k : Nat, b = k := ⟨_, (Int.toNat_of_nonneg h0).symm⟩
 subst hk
 obtain ⟨x, hx⟩ := at_some (l := p) (show k < p.length by omega)
 have hpk := hl k (by omega)
 have hpa := pars_at hx (m := m) (by omega)
 rw [hpa] at hpk
 have hde := dep_eq hl h0 (by omega)
 rw [Int.toNat_natCast, hpa] at hde
 have hwn : IntKind.wrap .i64 (n + 1) = n + 1 := wrap64 (by omega) (by omega)
 refine AW.skipN (fun _ h => h) ?_
 refine AW.block ?_
 refine rg [0,1,5] ?_
 intro k hk; simp -dsimp [go_sem, -decide_eq_true_eq, -decide_eq_false_iff_not, hx, hwn]
 repeat' first | apply And.intro | refine hk _ ?_ | intro hg | omega | exact True.intro
 all_goals clear hk k
 refine rgK ?_
 intro k hk; simp -dsimp [go_sem, -decide_eq_true_eq, -decide_eq_false_iff_not, hx, hwn]
 repeat' first | apply And.intro | refine hk _ ?_ | intro hg | omega | exact True.intro
 all_goals clear hk k
 show ∃ _, _
 refine ⟨(x.par, n + 1), ⟨by simp only; omega, by simp only; omega, by simp only; omega, by simp only; omega⟩, by simp only; omega, Less.of rfl (by simp [go_sem]) (by simp [go_sem])⟩)
  ·intro hc; try simp at hc
   all_goals try (exfalso; omega; done)
   all_goals (
 refine AW.exitN (fun _ h => h) ?_
 refine rgA [4] ?_
 refine rt ?_
 have hbn : b < 0 := (by simpa using hc)
 rw [dep_neg hbn] at hinv
 rw [← hinv]
 simp [go_sem, Try.results72])
theorem dc_spec_l4Line (p : List TStep) (hp : p.length ≤ 24) (i : Nat) (x : TStep) (hx : p[i]? = some x) (h0 : 0 < i) (hl : ParOk ((pars p).take i)) : DC Try.prog 71 [.isl 6 (p.map TStep.ro), .int .i64 (i : Nat)] (.bool (upB ((pars p).take i) ((i : Int) - 1) x.par)) [] := by
 have hi := at_lt hx
 have hL : ((pars p).take i).length = i := take_len (by omega)
 have hwi : IntKind.wrap .i64 ((i : Int) - 1) = (i : Int) - 1 := wrap64 (by omega) (by omega)
 refine DC.intro tiOk Try.func71 rfl rfl rfl rfl rfl rfl rfl rfl [] ?_
 refine rg [0,1] ?_
 intro k hk; simp -dsimp [go_sem, -decide_eq_true_eq, -decide_eq_false_iff_not, hx, hwi]
 repeat' first | apply And.intro | refine hk _ ?_ | intro hg | omega | exact True.intro
 all_goals clear hk k
 refine AW.seq ?_
 refine rg [0,1,5] ?_
 intro k hk; simp -dsimp [go_sem, -decide_eq_true_eq, -decide_eq_false_iff_not, hx, hwi]
 repeat' first | apply And.intro | refine hk _ ?_ | intro hg | omega | exact True.intro
 all_goals clear hk k
 refine AW.block ?_
 refine AW.loopI (fun a : Int => ⟨22, [(0, .isl 6 (p.map TStep.ro)), (1, .int .i64 (i : Nat)), (5, .int .i64 a)], []⟩) (fun a => -1 ≤ a ∧ a < i ∧ upB ((pars p).take i) a x.par = upB ((pars p).take i) ((i : Int) - 1) x.par) (fun a => (a + 1).toNat) ((i : Int) - 1) (by refine ⟨by omega, by omega, rfl⟩) (Less.of rfl (by simp [go_sem]) (by simp [go_sem])) ?_
 rintro a ⟨ha0, ha1, hinv⟩
 refine AW.seq ?_
 refine rg [0,1,5,9] ?_
 intro k hk; simp -dsimp [go_sem, -decide_eq_true_eq, -decide_eq_false_iff_not, hx, hwi]
 repeat' first | apply And.intro | refine hk _ ?_ | intro hg | omega | exact True.intro
 all_goals clear hk k
 refine AW.cond rfl ?_ ?_
 ·intro hc; try simp at hc
  all_goals (
 have h0a : 0 ≤ a := by simpa using hc
 obtain ⟨k, hk⟩ : ∃ k : Nat, a = k := ⟨_, (Int.toNat_of_nonneg h0a).symm⟩
 subst hk
 obtain ⟨y, hy⟩ := at_some (l := p) (show k < p.length by omega)
 have hpk := hl k (by omega)
 have hpa := pars_at hy (m := i) (by omega)
 rw [hpa] at hpk
 refine AW.skipN (fun _ h => h) ?_
 refine AW.seq ?_
 refine AW.block ?_
 refine rg [0,1,5,21] ?_
 intro k hk; simp -dsimp (maxSteps := 2000000) [go_sem, -decide_eq_true_eq, -decide_eq_false_iff_not, hx, hwi, hy]
 repeat' first | apply And.intro | refine hk _ ?_ | intro hg | omega | exact True.intro
 all_goals clear hk k
 refine AW.cond rfl ?_ ?_
 ·intro hc; try simp at hc
  all_goals (
 refine rg [4] ?_
 intro k hk; simp -dsimp [go_sem, -decide_eq_true_eq, -decide_eq_false_iff_not, hx, hwi, hy]
 repeat' first | apply And.intro | refine hk _ ?_ | intro hg | omega | exact True.intro
 all_goals clear hk k
 refine rt ?_
 first | (have hu : upB ((pars p).take i) ((i : Int) - 1) x.par = true := (by rw [← hinv, upB_eq hl h0a (by omega), if_pos (by first | assumption | simpa using hc)]); simp [go_sem, Try.results71, hu]; done) | (have hu : upB ((pars p).take i) ((i : Int) - 1) x.par = false := (by rw [← hinv]; exact upB_neg (by omega)); simp [go_sem, Try.results71, hu]))
 ·intro hc; try simp at hc
  all_goals (
 refine AW.skipN (fun _ h => h) ?_
 refine rgK ?_
 intro k hk; simp -dsimp [go_sem, -decide_eq_true_eq, -decide_eq_false_iff_not, hx, hwi, hy]
 repeat' first | apply And.intro | refine hk _ ?_ | intro hg | omega | exact True.intro
 all_goals clear hk k
 show ∃ _, _
 refine ⟨y.par, ⟨by omega, by omega, ?_⟩, by omega, Less.of rfl (by simp [go_sem]) (by simp [go_sem])⟩
 rw [← hinv, upB_eq hl h0a (by omega), if_neg (by first | assumption | simpa using hc), Int.toNat_natCast, hpa]))
 ·intro hc; try simp at hc
  all_goals (
 refine AW.exitN (fun _ h => h) ?_
 refine rg [4] ?_
 intro k hk; simp -dsimp [go_sem, -decide_eq_true_eq, -decide_eq_false_iff_not, hx, hwi]
 repeat' first | apply And.intro | refine hk _ ?_ | intro hg | omega | exact True.intro
 all_goals clear hk k
 refine rt ?_
 first | (have hu : upB ((pars p).take i) ((i : Int) - 1) x.par = true := (by rw [← hinv, upB_eq hl h0a (by omega), if_pos (by first | assumption | simpa using hc)]); simp [go_sem, Try.results71, hu]; done) | (have hu : upB ((pars p).take i) ((i : Int) - 1) x.par = false := (by rw [← hinv]; exact upB_neg (by omega)); simp [go_sem, Try.results71, hu]))
end Go.AM
