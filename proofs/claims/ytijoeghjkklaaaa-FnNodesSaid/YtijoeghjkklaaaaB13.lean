/- Joined texts: Bu Bp Pgd L27. -/
import Derived.Test.YtijoeghjkklaaaaB1
import Derived.Test.YtijoeghjkklaaaaB2
import Derived.Test.YtijoeghjkklaaaaB3
import Derived.Test.YtijoeghjkklaaaaB4
import Derived.Test.YtijoeghjkklaaaaB5
import Derived.Test.YtijoeghjkklaaaaB6
import Derived.Test.YtijoeghjkklaaaaB7
import Derived.Test.YtijoeghjkklaaaaB8
import Derived.Test.YtijoeghjkklaaaaB9
import Derived.Test.YtijoeghjkklaaaaB10
import Derived.Test.YtijoeghjkklaaaaB11
import Derived.Test.YtijoeghjkklaaaaB12
set_option linter.unusedVariables false
set_option linter.unusedSimpArgs false
set_option maxHeartbeats 600000
set_option maxRecDepth 100000
namespace Go.AM
open Go.Proofs
theorem dc_spec_NodeFor_bad (p : List TStep) (hg : p.length ≤ 9223372036854775807 ∧ ∀ e ∈ p, e.gok) (st : Int) (hl : procF p ≠ 0) : DC Try.prog 7 [.isl 6 (p.map TStep.ro), .int .i64 st] (.agg [.int .i64 (nfC p st), .int .i64 (nfV p st)]) [] := by
 have hw1 : IntKind.wrap .i64 ((p.length : Int) - 1) = (p.length : Int) - 1 := by have := hg.1; exact wrap64 (by omega) (by omega)
 refine DC.intro tiOk Try.func7 rfl rfl rfl rfl rfl rfl rfl rfl [] ?_
 refine rg [0,1,4] ?_
 intro k hk; simp -dsimp [go_sem, -decide_eq_true_eq, -decide_eq_false_iff_not, hl, hw1]
 repeat' first | apply And.intro | refine hk _ ?_ | intro hg | omega | exact True.intro
 all_goals clear hk k
 refine rg [0,1,4,5] ?_
 intro k hk; simp -dsimp (maxSteps := 2000000) [go_sem, -decide_eq_true_eq, -decide_eq_false_iff_not, hl, hw1]
 repeat' first | apply And.intro | refine hk _ ?_ | intro hg | (refine CallK.intro (dc_spec_GraphOf_bad p hg hl) ?_; simp -dsimp (maxSteps := 2000000) [go_sem, -decide_eq_true_eq, -decide_eq_false_iff_not, hl, hw1]) | omega | exact True.intro
 all_goals clear hk k
 refine AW.seq ?_
 refine rg [0,1,4,5,11] ?_
 intro k hk; simp -dsimp [go_sem, -decide_eq_true_eq, -decide_eq_false_iff_not, hl, hw1]
 repeat' first | apply And.intro | refine hk _ ?_ | intro hg | omega | exact True.intro
 all_goals clear hk k
 refine AW.cond rfl ?_ ?_
 ·intro hc; try simp at hc
  all_goals try (exfalso; first | contradiction | omega | (simp_all; done); done)
  all_goals (
 refine rg [4] ?_
 intro k hk; simp -dsimp [go_sem, -decide_eq_true_eq, -decide_eq_false_iff_not, hl, hw1]
 repeat' first | apply And.intro | refine hk _ ?_ | intro hg | omega | exact True.intro
 all_goals clear hk k
 refine rt ?_
 simp_all [go_sem, Try.results7, nfC, nfV])
 ·intro hc; try simp at hc
  all_goals try (exfalso; first | contradiction | omega | (simp_all; done); done)
  all_goals (
 refine AW.skipN (fun _ h => h) ?_
 refine AW.seq ?_
 skip)
theorem dc_spec_NodeFor_rng (p : List TStep) (hg : p.length ≤ 9223372036854775807 ∧ ∀ e ∈ p, e.gok) (st : Int) (hl : procF p = 0) (hr : inR st 0 ((p.length : Int) - 1) = false) : DC Try.prog 7 [.isl 6 (p.map TStep.ro), .int .i64 st] (.agg [.int .i64 (nfC p st), .int .i64 (nfV p st)]) [] := by
 have hP := procOk hl
 have hpl := hP.len
 have hfw := gTop_few hP
 have hnl := gNs_len p
 have ht0 : List.take (gNs p).length ((gNs p).map TGNode.ro) = (gNs p).map TGNode.ro := List.take_of_length_le (by rw [List.length_map]; exact Nat.le_refl _)
 have ht1 : List.take (gNs p).length ((gNs p).map TGNode.oc) = (gNs p).map TGNode.oc := List.take_of_length_le (by rw [List.length_map]; exact Nat.le_refl _)
 have ht2 : List.take (srt TFlow.frm (gFl p)).length ((srt TFlow.frm (gFl p)).map TFlow.ro) = (srt TFlow.frm (gFl p)).map TFlow.ro := List.take_of_length_le (by rw [List.length_map]; exact Nat.le_refl _)
 have ht3 : List.take (srt TFlow.frm (gFl p)).length ((srt TFlow.frm (gFl p)).map TFlow.oc) = (srt TFlow.frm (gFl p)).map TFlow.oc := List.take_of_length_le (by rw [List.length_map]; exact Nat.le_refl _)
 have hw1 : IntKind.wrap .i64 ((p.length : Int) - 1) = (p.length : Int) - 1 := by have := hg.1; exact wrap64 (by omega) (by omega)
 refine DC.intro tiOk Try.func7 rfl rfl rfl rfl rfl rfl rfl rfl [] ?_
 refine rg [0,1,4] ?_
 intro k hk; simp -dsimp [go_sem, -decide_eq_true_eq, -decide_eq_false_iff_not, hl, hr, hw1]
 repeat' first | apply And.intro | refine hk _ ?_ | intro hg | omega | exact True.intro
 all_goals clear hk k
 refine rg [0,1,4,5] ?_
 intro k hk; simp -dsimp (maxSteps := 2000000) [go_sem, -decide_eq_true_eq, -decide_eq_false_iff_not, hl, hr, hw1]
 repeat' first | apply And.intro | refine hk _ ?_ | intro hg | (refine CallK.intro (dc_spec_GraphOf_ok p hg hl) ?_; simp -dsimp (maxSteps := 2000000) [go_sem, -decide_eq_true_eq, -decide_eq_false_iff_not, hl, hr, hw1]) | omega | exact True.intro
 all_goals clear hk k
 refine AW.seq ?_
 refine rg [0,1,4,5,11] ?_
 intro k hk; simp -dsimp [go_sem, -decide_eq_true_eq, -decide_eq_false_iff_not, hl, hr, hw1]
 repeat' first | apply And.intro | refine hk _ ?_ | intro hg | omega | exact True.intro
 all_goals clear hk k
 refine AW.cond rfl ?_ ?_
 ·intro hc; try simp at hc
  all_goals try (exfalso; first | contradiction | omega | (simp_all; done); done)
  all_goals (
 refine rg [4] ?_
 intro k hk; simp -dsimp [go_sem, -decide_eq_true_eq, -decide_eq_false_iff_not, hl, hr, hw1]
 repeat' first | apply And.intro | refine hk _ ?_ | intro hg | omega | exact True.intro
 all_goals clear hk k
 refine rt ?_
 simp_all [go_sem, Try.results7, nfC, nfV])
 ·intro hc; try simp at hc
  all_goals try (exfalso; first | contradiction | omega | (simp_all; done); done)
  all_goals (
 refine AW.skipN (fun _ h => h) ?_
 refine AW.seq ?_
 refine rg [1,4,5,20] ?_
 intro k hk; simp -dsimp (maxSteps := 2000000) [go_sem, -decide_eq_true_eq, -decide_eq_false_iff_not, hl, hr, hw1]
 repeat' first | apply And.intro | refine hk _ ?_ | intro hg | (refine CallK.intro (dc_spec_l1In _ _ _) ?_; simp -dsimp (maxSteps := 2000000) [go_sem, -decide_eq_true_eq, -decide_eq_false_iff_not, hl, hr, hw1]) | omega | exact True.intro
 all_goals clear hk k
 refine AW.cond rfl ?_ ?_
 ·intro hc; try simp at hc
  all_goals try (exfalso; first | contradiction | omega | (simp_all; done); done)
  all_goals (
 refine rg [4] ?_
 intro k hk; simp -dsimp [go_sem, -decide_eq_true_eq, -decide_eq_false_iff_not, hl, hr, hw1]
 repeat' first | apply And.intro | refine hk _ ?_ | intro hg | omega | exact True.intro
 all_goals clear hk k
 refine rt ?_
 simp_all [go_sem, Try.results7, nfC, nfV])
 ·intro hc; try simp at hc
  all_goals try (exfalso; first | contradiction | omega | (simp_all; done); done)
  all_goals (
 refine AW.skipN (fun _ h => h) ?_
 skip))
theorem dc_spec_NodeFor_ok (p : List TStep) (hg : p.length ≤ 9223372036854775807 ∧ ∀ e ∈ p, e.gok) (st : Int) (hl : procF p = 0) (hr : inR st 0 ((p.length : Int) - 1) = true) : DC Try.prog 7 [.isl 6 (p.map TStep.ro), .int .i64 st] (.agg [.int .i64 (nfC p st), .int .i64 (nfV p st)]) [] := by
 have hP := procOk hl
 have hpl := hP.len
 have hfw := gTop_few hP
 have hnl := gNs_len p
 have ht0 : List.take (gNs p).length ((gNs p).map TGNode.ro) = (gNs p).map TGNode.ro := List.take_of_length_le (by rw [List.length_map]; exact Nat.le_refl _)
 have ht1 : List.take (gNs p).length ((gNs p).map TGNode.oc) = (gNs p).map TGNode.oc := List.take_of_length_le (by rw [List.length_map]; exact Nat.le_refl _)
 have ht2 : List.take (srt TFlow.frm (gFl p)).length ((srt TFlow.frm (gFl p)).map TFlow.ro) = (srt TFlow.frm (gFl p)).map TFlow.ro := List.take_of_length_le (by rw [List.length_map]; exact Nat.le_refl _)
 have ht3 : List.take (srt TFlow.frm (gFl p)).length ((srt TFlow.frm (gFl p)).map TFlow.oc) = (srt TFlow.frm (gFl p)).map TFlow.oc := List.take_of_length_le (by rw [List.length_map]; exact Nat.le_refl _)
 have hw1 : IntKind.wrap .i64 ((p.length : Int) - 1) = (p.length : Int) - 1 := by have := hg.1; exact wrap64 (by omega) (by omega)
 refine DC.intro tiOk Try.func7 rfl rfl rfl rfl rfl rfl rfl rfl [] ?_
 refine rg [0,1,4] ?_
 intro k hk; simp -dsimp [go_sem, -decide_eq_true_eq, -decide_eq_false_iff_not, hl, hr, hw1]
 repeat' first | apply And.intro | refine hk _ ?_ | intro hg | omega | exact True.intro
 all_goals clear hk k
 refine rg [0,1,4,5] ?_
 intro k hk; simp -dsimp (maxSteps := 2000000) [go_sem, -decide_eq_true_eq, -decide_eq_false_iff_not, hl, hr, hw1]
 repeat' first | apply And.intro | refine hk _ ?_ | intro hg | (refine CallK.intro (dc_spec_GraphOf_ok p hg hl) ?_; simp -dsimp (maxSteps := 2000000) [go_sem, -decide_eq_true_eq, -decide_eq_false_iff_not, hl, hr, hw1]) | omega | exact True.intro
 all_goals clear hk k
 refine AW.seq ?_
 refine rg [0,1,4,5,11] ?_
 intro k hk; simp -dsimp [go_sem, -decide_eq_true_eq, -decide_eq_false_iff_not, hl, hr, hw1]
 repeat' first | apply And.intro | refine hk _ ?_ | intro hg | omega | exact True.intro
 all_goals clear hk k
 refine AW.cond rfl ?_ ?_
 ·intro hc; try simp at hc
  all_goals try (exfalso; first | contradiction | omega | (simp_all; done); done)
  all_goals (
 skip)
 ·intro hc; try simp at hc
  all_goals try (exfalso; first | contradiction | omega | (simp_all; done); done)
  all_goals (
 refine AW.skipN (fun _ h => h) ?_
 refine AW.seq ?_
 refine rg [1,4,5,20] ?_
 intro k hk; simp -dsimp (maxSteps := 2000000) [go_sem, -decide_eq_true_eq, -decide_eq_false_iff_not, hl, hr, hw1]
 repeat' first | apply And.intro | refine hk _ ?_ | intro hg | (refine CallK.intro (dc_spec_l1In _ _ _) ?_; simp -dsimp (maxSteps := 2000000) [go_sem, -decide_eq_true_eq, -decide_eq_false_iff_not, hl, hr, hw1]) | omega | exact True.intro
 all_goals clear hk k
 refine AW.cond rfl ?_ ?_
 ·intro hc; try simp at hc
  all_goals try (exfalso; first | contradiction | omega | (simp_all; done); done)
  all_goals (
 skip)
 ·intro hc; try simp at hc
  all_goals try (exfalso; first | contradiction | omega | (simp_all; done); done)
  all_goals (
 refine AW.skipN (fun _ h => h) ?_
 refine AW.fold 5 0 1 1008 rfl rfl rfl rfl (by simp) (by decide) (by simp [go_sem]) ?_
 refine AW.fold 5 0 2 2008 rfl rfl rfl rfl (by simp) (by decide) (by simp [go_sem]) ?_
 refine rg [4,6] ?_
 intro k hk; simp -dsimp (maxSteps := 2000000) [go_sem, -decide_eq_true_eq, -decide_eq_false_iff_not, hl, hr, hw1]
 repeat' first | apply And.intro | refine hk _ ?_ | intro hg | (refine CallK.intro (dc_spec_l10Node p hP (srt TFlow.frm (gFl p)) st) ?_; simp -dsimp (maxSteps := 2000000) [go_sem, -decide_eq_true_eq, -decide_eq_false_iff_not, hl, hr, hw1]) | omega | exact True.intro
 all_goals clear hk k
 refine AW.seq ?_
 refine rg [4,6,26] ?_
 intro k hk; simp -dsimp [go_sem, -decide_eq_true_eq, -decide_eq_false_iff_not, hl, hr, hw1]
 repeat' first | apply And.intro | refine hk _ ?_ | intro hg | omega | exact True.intro
 all_goals clear hk k
 refine AW.cond rfl ?_ ?_
 ·intro hc; try simp at hc
  all_goals try (exfalso; first | contradiction | omega | (simp_all; done); done)
  all_goals (
 refine rg [4] ?_
 intro k hk; simp -dsimp [go_sem, -decide_eq_true_eq, -decide_eq_false_iff_not, hl, hr, hw1]
 repeat' first | apply And.intro | refine hk _ ?_ | intro hg | omega | exact True.intro
 all_goals clear hk k
 refine rt ?_
 first | (have hneg : nfI p st < 0 := (by first | assumption | (simp at hc; assumption)); simp [go_sem, Try.results7, nfC, nfV, hl, hr, hneg]; done) | (have hneg : ¬ nfI p st < 0 := (by first | assumption | omega | (simp at hc; omega)); simp [go_sem, Try.results7, nfC, nfV, hl, hr, hneg]))
 ·intro hc; try simp at hc
  all_goals try (exfalso; first | contradiction | omega | (simp_all; done); done)
  all_goals (
 refine AW.skipN (fun _ h => h) ?_
 refine rg [4] ?_
 intro k hk; simp -dsimp [go_sem, -decide_eq_true_eq, -decide_eq_false_iff_not, hl, hr, hw1]
 repeat' first | apply And.intro | refine hk _ ?_ | intro hg | omega | exact True.intro
 all_goals clear hk k
 refine rt ?_
 first | (have hneg : nfI p st < 0 := (by first | assumption | (simp at hc; assumption)); simp [go_sem, Try.results7, nfC, nfV, hl, hr, hneg]; done) | (have hneg : ¬ nfI p st < 0 := (by first | assumption | omega | (simp at hc; omega)); simp [go_sem, Try.results7, nfC, nfV, hl, hr, hneg]))))
theorem dc_spec_NodeFor (p : List TStep) (hg : p.length ≤ 9223372036854775807 ∧ ∀ e ∈ p, e.gok) (st : Int) : DC Try.prog 7 [.isl 6 (p.map TStep.ro), .int .i64 st] (.agg [.int .i64 (nfC p st), .int .i64 (nfV p st)]) [] := by
 by_cases hl : procF p = 0
 · cases hr : inR st 0 ((p.length : Int) - 1) with
  | true => exact dc_spec_NodeFor_ok p hg st hl hr
  | false => exact dc_spec_NodeFor_rng p hg st hl hr
 · exact dc_spec_NodeFor_bad p hg st hl
end Go.AM
namespace Go.AM
open Go.Proofs
theorem dc_impl_GraphOf_ok (p : List TStep) (hg : p.length ≤ 9223372036854775807 ∧ ∀ e ∈ p, e.gok) (hl : procF p = 0) : DC Try.prog 8 [.isl 6 (p.map TStep.ro)] (.agg [.int .i64 0, .osl 5 ((gNs p).map TGNode.oc), .osl 3 ((srt TFlow.frm (gFl p)).map TFlow.oc)]) [] := by
 have hP := procOk hl
 refine DC.intro tiOk Try.func8 rfl rfl rfl rfl rfl rfl rfl rfl [1000] ?_
 refine rg [0,2] ?_
 intro k hk; simp -dsimp [go_sem, -decide_eq_true_eq, -decide_eq_false_iff_not, hl]
 repeat' first | apply And.intro | refine hk _ ?_ | intro hg | omega | exact True.intro
 all_goals clear hk k
 refine AW.seq ?_
 refine rg [0,2,3] ?_
 intro k hk; simp -dsimp (maxSteps := 2000000) [go_sem, -decide_eq_true_eq, -decide_eq_false_iff_not, hl]
 repeat' first | apply And.intro | refine hk _ ?_ | intro hg | (refine CallK.intro (dc_impl_ProcFault p hg.1 hg.2) ?_; simp -dsimp (maxSteps := 2000000) [go_sem, -decide_eq_true_eq, -decide_eq_false_iff_not, hl]) | omega | exact True.intro
 all_goals clear hk k
 refine rg [0,2,3,7] ?_
 intro k hk; simp -dsimp [go_sem, -decide_eq_true_eq, -decide_eq_false_iff_not, hl]
 repeat' first | apply And.intro | refine hk _ ?_ | intro hg | omega | exact True.intro
 all_goals clear hk k
 refine AW.cond rfl ?_ ?_
 ·intro hc; try simp at hc
  all_goals try (exfalso; contradiction; done)
  all_goals (
 refine rg [2] ?_
 intro k hk; simp -dsimp [go_sem, -decide_eq_true_eq, -decide_eq_false_iff_not, hl]
 repeat' first | apply And.intro | refine hk _ ?_ | intro hg | omega | exact True.intro
 all_goals clear hk k
 refine rt ?_
 simp [go_sem, Try.results8])
 ·intro hc; try simp at hc
  all_goals try (exfalso; contradiction; done)
  all_goals (
 refine AW.skipN (fun _ h => h) ?_
 refine rg [2] ?_
 intro k hk; simp -dsimp (maxSteps := 2000000) [go_sem, -decide_eq_true_eq, -decide_eq_false_iff_not, hl]
 repeat' first | apply And.intro | refine hk _ ?_ | intro hg | (refine CallK.intro (dc_impl_graphOf p hP) ?_; simp -dsimp (maxSteps := 2000000) [go_sem, -decide_eq_true_eq, -decide_eq_false_iff_not, hl]) | omega | exact True.intro
 all_goals clear hk k
 refine rt ?_
 simp [go_sem, Try.results8])
end Go.AM
namespace Go.AM
def NdOk (p : List TStep) (x : TGNode) : Prop := ∃ s : Nat, x.step = s ∧ s < p.length ∧ (x.kind = 3 ↔ (nS p s).kind = 2) ∧ x.name = (nS p s).name ∧ x.arg = (nS p s).arg
def FirstOk (p : List TStep) (l : List TGNode) : Prop := ∀ (i : Nat) x, l[i]? = some x → (∀ (j : Nat) y, j < i → l[j]? = some y → y.step ≠ x.step) → NdOk p x
theorem fo_one {p : List TStep} {x : TGNode} (h : NdOk p x) : FirstOk p [x] := by
 intro i y hy _
 cases i with
 | zero => simp at hy; rw [← hy]; exact h
 | succ i => simp at hy
theorem fo_app {p : List TStep} {a b : List TGNode} (ha : FirstOk p a) (hb : FirstOk p b) : FirstOk p (a ++ b) := by
 intro i x hx hf
 rcases Nat.lt_or_ge i a.length with h | h
 ·rw [List.getElem?_append_left h] at hx
  exact ha i x hx fun j y hj hy => hf j y hj (by rw [List.getElem?_append_left (by omega)]; exact hy)
 ·rw [List.getElem?_append_right h] at hx
  refine hb _ x hx fun j y hj hy => hf (j + a.length) y (by omega) ?_
  rw [List.getElem?_append_right (by omega), Nat.add_sub_cancel]; exact hy
theorem fo_dup {p : List TStep} {l : List TGNode} {c y : TGNode} (h : FirstOk p l) (hy : y ∈ l) (he : y.step = c.step) : FirstOk p (l ++ [c]) := by
 intro i x hx hf
 rcases Nat.lt_or_ge i l.length with h1 | h1
 ·rw [List.getElem?_append_left h1] at hx
  exact h i x hx fun j y hj hy => hf j y hj (by rw [List.getElem?_append_left (by omega)]; exact hy)
 ·rw [List.getElem?_append_right h1] at hx
  have e : i - l.length = 0 := by
   rcases Nat.eq_zero_or_pos (i - l.length) with e | e
   ·exact e
   ·rw [List.getElem?_eq_none (by simp; omega)] at hx; cases hx
  rw [e] at hx
  simp at hx
  obtain ⟨j, hj⟩ := List.mem_iff_getElem?.1 hy
  have hjl := at_lt hj
  exact absurd (by rw [he, hx]) (hf j y (by omega) (by rw [List.getElem?_append_left hjl]; exact hj))
def Fo (p : List TStep) (g : Nat → Nat → GR) (k : Int) : Prop := ∀ n, FirstOk p (g k.toNat n).ns
theorem seq_fo {p : List TStep} {g : Nat → Nat → GR} {n : Nat} {ks : List Int} (h0 : ks ≠ []) (h : ∀ k ∈ ks, Fo p g k) : ∀ i, i + 1 ≤ ks.length → FirstOk p (seqN g n ks i).ns := by
 intro i
 induction i with
 | zero =>
  intro hi
  obtain ⟨u, hu⟩ := at_some (l := ks) (i := 0) (by omega)
  have e : headI ks = u := by unfold headI; rw [List.getD_eq_getElem?_getD, hu]; rfl
  rw [seq_zero, e]
  exact h u (List.mem_of_getElem? hu) n
 | succ i ih =>
  intro hi
  obtain ⟨u, hu⟩ := at_some (l := ks) (i := i + 1) (by omega)
  rw [seq_succ hu]
  exact fo_app (ih (by omega)) (h u (List.mem_of_getElem? hu) _)
theorem sd_fo {p : List TStep} {g : Nat → Nat → GR} {cd : Nat → List TNode} {n : Nat} {op : TGNode} (ho : NdOk p op) {ks : List Int} (h : ∀ k ∈ ks, Fo p g k) : ∀ i, i ≤ ks.length → FirstOk p (sdN g cd n op ks i).ns ∧ op ∈ (sdN g cd n op ks i).ns := by
 intro i
 induction i with
 | zero => intro _; rw [sd_zero]; exact ⟨fo_one ho, List.mem_singleton.2 rfl⟩
 | succ i ih =>
  intro hi
  obtain ⟨u, hu⟩ := at_some (l := ks) (i := i) (by omega)
  have h1 := ih (by omega)
  rw [sd_succ hu]
  exact ⟨fo_app h1.1 (h u (List.mem_of_getElem? hu) _), List.mem_append_left _ h1.2⟩
theorem sides_fo {p : List TStep} {g : Nat → Nat → GR} {cd : Nat → List TNode} {op cl : TGNode} (ho : NdOk p op) (hc : op.step = cl.step) {ks : List Int} (h : ∀ k ∈ ks, Fo p g k) (n : Nat) : FirstOk p (sidesG g cd op cl ks n).ns := by
 have h1 := sd_fo (cd := cd) (n := n) ho h ks.length (Nat.le_refl _)
 simp only [sidesG]
 exact fo_dup h1.1 h1.2 hc
theorem gstep_fo {p : List TStep} (hP : ProcOk p) : ∀ (f a : Nat), a < p.length → Fo p (gstep p f) (a : Int) := by
 intro f
 induction f with
 | zero => intro a ha n i x hx; simp [gstep] at hx
 | succ f ih =>
  intro a ha n
  have hk : ∀ k ∈ kids p (a : Int), Fo p (gstep p f) k := by
   intro k hk
   obtain ⟨m, rfl, h1, h2, _, _⟩ := hP.kid hk
   exact ih m h2
  have hm := hP.many ha
  have hb := hP.bare ha
  rw [Int.toNat_natCast]
  unfold gstep
  split
  ·rename_i h2
   exact fo_one ⟨a, rfl, ha, by simp [h2], rfl, (hb.2.1 (by rw [h2]; decide)).symm⟩
  split
  ·rename_i h5
   exact fo_one ⟨a, rfl, ha, by simp [h5], (hb.1 (by omega)).symm, rfl⟩
  split
  ·rename_i h6
   exact fo_one ⟨a, rfl, ha, by simp [h6], (hb.1 (by omega)).symm, rfl⟩
  split
  ·rename_i h7
   exact fo_one ⟨a, rfl, ha, by simp [h7], (hb.1 (by omega)).symm, rfl⟩
  split
  ·rename_i h1
   rw [h1] at hm
   have hlen := kid_one hm
   exact seq_fo (by intro e; rw [e] at hlen; simp at hlen) hk _ (by omega)
  split
  ·rename_i h8
   have hm8 := hm
   rw [h8] at hm8
   have hlen := kid_two hm8
   obtain ⟨k0, k1, hk2⟩ : ∃ k0 k1, kids p (a : Int) = [k0, k1] := by
    match hq : kids p (a : Int), hlen with
    | [x, y], _ => exact ⟨x, y, rfl⟩
   rw [hk2] at hk ⊢
   have q0 : gI [k0, k1] 0 = k0 := rfl
   have q1 : gI [k0, k1] 1 = k1 := rfl
   simp only [guardG, q0, q1]
   have ho : NdOk p (⟨11, a, [], (nS p a).arg, []⟩ : TGNode) := ⟨a, rfl, ha, by simp [h8], (hb.1 (by omega)).symm, rfl⟩
   have hmem : ∀ l : List TGNode, (⟨11, a, [], (nS p a).arg, []⟩ : TGNode) ∈ [(⟨11, a, [], (nS p a).arg, []⟩ : TGNode)] ++ l := fun l => by simp
   refine fo_dup (y := ⟨11, a, [], (nS p a).arg, []⟩) (fo_app (fo_dup (y := ⟨11, a, [], (nS p a).arg, []⟩) (fo_app (fo_one ho) (hk k0 (by simp) _)) (by simp) rfl) (hk k1 (by simp) _)) (by simp) rfl
  split
  ·rename_i h3
   exact sides_fo (op := ⟨7, a, [], 0, []⟩) (cl := ⟨8, a, [], 0, []⟩) ⟨a, rfl, ha, by simp [h3], (hb.1 (by omega)).symm, (hb.2.1 (by rw [h3]; decide)).symm⟩ rfl hk n
  ·have h4 : (nS p a).kind = 4 := by omega
   exact sides_fo (op := ⟨9, a, [], 0, []⟩) (cl := ⟨10, a, [], 0, []⟩) ⟨a, rfl, ha, by simp [h4], (hb.1 (by omega)).symm, (hb.2.1 (by rw [h4]; decide)).symm⟩ rfl hk n
theorem idxF_hit {α : Type} {q : α → Bool} : ∀ (l : List α) (k : Nat), 0 ≤ idxF q l k → ∃ i x, idxF q l k = ((k + i : Nat) : Int) ∧ l[i]? = some x ∧ q x = true ∧ ∀ (j : Nat) y, j < i → l[j]? = some y → q y = false
 | [], k, h => by simp [idxF] at h
 | x :: r, k, h => by
  simp only [idxF] at h ⊢
  split
  ·rename_i hq
   exact ⟨0, x, by simp, rfl, hq, fun j y hj => absurd hj (Nat.not_lt_zero _)⟩
  ·rename_i hq
   rw [if_neg hq] at h
   obtain ⟨i, y, h1, h2, h3, h4⟩ := idxF_hit r (k + 1) h
   refine ⟨i + 1, y, by rw [h1]; congr 1; omega, by simpa using h2, h3, ?_⟩
   intro j z hj hz
   cases j with
   | zero => simp at hz; rw [← hz]; simpa using hq
   | succ j => exact h4 j z (by omega) (by simpa using hz)
theorem nodes_law {p : List TStep} (hP : ProcOk p) {st : Int} (h : 0 ≤ nfI p st) : ∃ (n : Nat) (x : TGNode), nfI p st = n ∧ (gNs p)[n]? = some x ∧ 1 ≤ n ∧ n + 1 < (gNs p).length ∧ x.step = st ∧ (∀ (j : Nat) y, 1 ≤ j → j < n → (gNs p)[j]? = some y → y.step ≠ st) ∧ NdOk p x := by
 obtain ⟨n, x, h1, h2, h3, h4⟩ := idxF_hit (gNs p) 0 h
 have hl := gNs_len p
 have hnl := at_lt h2
 simp only [isN, Bool.and_eq_true, decide_eq_true_eq] at h3
 have hn0 : n ≠ 0 := fun e => h3.2.1 ((gNs_kind hP h2).1 e)
 have hn1 : n + 1 ≠ (gNs p).length := fun e => h3.2.2 ((gNs_kind hP h2).2.1 e)
 have hfirst : ∀ (j : Nat) y, 1 ≤ j → j < n → (gNs p)[j]? = some y → y.step ≠ st := by
  intro j y hj1 hj2 hy e
  have h5 := h4 j y hj2 hy
  have h6 := (gNs_kind hP hy).2.2 (by omega) (by omega)
  simp only [isN, Bool.and_eq_false_iff, decide_eq_false_iff_not] at h5
  rcases h5 with h5 | h5 | h5
  ·exact h5 e
  ·exact h5 (by omega)
  ·exact h5 (by omega)
 refine ⟨n, x, by unfold nfI; rw [h1]; simp, h2, by omega, by omega, h3.1, hfirst, ?_⟩
 have hin : ∀ (j : Nat) y, j < (gTop p).ns.length → ((gTop p).ns[j]? = some y ↔ (gNs p)[j + 1]? = some y) := by
  intro j y hj
  unfold gNs
  rw [List.append_assoc, List.getElem?_append_right (by simp), List.getElem?_append_left (by simp; exact hj)]
  simp
 have hfo := gstep_fo hP p.length 0 (by have := hP.len; omega) 1
 refine hfo (n - 1) x ((hin (n - 1) x (by omega)).2 (by rw [Nat.sub_add_cancel (by omega)]; exact h2)) ?_
 intro j y hj hy e
 have hy2 := (hin j y (by omega)).1 hy
 exact hfirst (j + 1) y (by omega) (by omega) hy2 (by rw [e]; exact h3.1)
end Go.AM
namespace Go.AM
open Go.Proofs
theorem dc_impl_GraphOf_fz (p : List TStep) (hg : p.length ≤ 9223372036854775807 ∧ ∀ e ∈ p, e.gok) (hl : procF p = 0) : DC Try.prog 8 [.isl 6 (p.map TStep.ro)] (.agg [.int .i64 0, .isl 5 ((gNs p).map TGNode.ro), .isl 3 ((srt TFlow.frm (gFl p)).map TFlow.ro)]) [] := (dc_impl_GraphOf_ok p hg hl).frz.eqR (by simp [unown, unownL, unownLL, go_sem, -List.map_take])
theorem dc_spec_DrawNodeFor_fz (c : List UInt8) (hcl : c.length ≤ 1048576) : DC Try.prog 5 [.isl 1 (c.map B1)] (.tup [.isl 6 ((dNp c).map TStep.ro), .int .i64 (dNs c)]) [] := (dc_spec_DrawNodeFor c hcl).frz.eqR (by simp [unown, unownL, unownLL, go_sem, -List.map_take])
theorem nfC_zero {p : List TStep} {st : Int} (h : nfC p st = 0) : procF p = 0 ∧ inR st 0 ((p.length : Int) - 1) = true ∧ 0 ≤ nfI p st ∧ nfV p st = nfI p st := by
 unfold nfC at h
 split at h
 · exact absurd h (by assumption)
 split at h
 · cases h
 split at h
 · cases h
 rename_i h1 h2 h3
 have e1 : procF p = 0 := by simpa using h1
 have e2 : inR st 0 ((p.length : Int) - 1) = true := by simpa using h2
 refine ⟨e1, e2, by omega, ?_⟩
 unfold nfV
 rw [if_neg h1, if_neg h2, if_neg h3]
set_option maxHeartbeats 20000000 in
theorem dc_laws_FnNodes (c : List UInt8) (gc : c.length ≤ 9223372036854775807) : DC Try.prog 3 [.isl 1 (c.map B1)] (.bool true) [] := by
 refine DC.intro tiOk Try.func3 rfl rfl rfl rfl rfl rfl rfl rfl [] ?_
 refine rgA [0] ?_
 refine AW.seq ?_
 refine rg [0,10] ?_
 intro k hk; simp -dsimp (maxSteps := 2000000) [go_sem, -decide_eq_true_eq, -decide_eq_false_iff_not]
 repeat' first | apply And.intro | refine hk _ ?_ | intro hg | (refine CallK.intro (dc_laws_lwBig c gc) ?_; simp -dsimp (maxSteps := 2000000) [go_sem, -decide_eq_true_eq, -decide_eq_false_iff_not]) | omega | exact True.intro
 all_goals clear hk k
 refine AW.cond rfl ?_ ?_
 ·intro hc; try simp at hc
  all_goals try (exfalso; first | contradiction | omega; done)
  all_goals (
 refine rgA [2] ?_
 refine rt ?_
 simp [go_sem, Try.results3, *])
 ·intro hc; try simp at hc
  all_goals try (exfalso; first | contradiction | omega; done)
  all_goals (
 refine AW.skipN (fun _ h => h) ?_
 have hcl : c.length ≤ 1048576 := by simpa using hc
 have hgo : (dNp c).length ≤ 25 ∧ ((dNp c).length ≤ 9223372036854775807 ∧ ∀ e ∈ dNp c, e.gok) := by have h := dNp_ok c; exact ⟨h.1, by omega, h.2⟩
 refine rg [3,4] ?_
 intro k hk; simp -dsimp (maxSteps := 2000000) [go_sem, -decide_eq_true_eq, -decide_eq_false_iff_not]
 repeat' first | apply And.intro | refine hk _ ?_ | intro hg | (refine CallK.intro (dc_spec_DrawNodeFor_fz c hcl) ?_; simp -dsimp (maxSteps := 2000000) [go_sem, -decide_eq_true_eq, -decide_eq_false_iff_not]) | omega | exact True.intro
 all_goals clear hk k
 refine rg [3,4,5] ?_
 intro k hk; simp -dsimp (maxSteps := 2000000) [go_sem, -decide_eq_true_eq, -decide_eq_false_iff_not]
 repeat' first | apply And.intro | refine hk _ ?_ | intro hg | (refine CallK.intro (dc_impl_NodeFor (dNp c) hgo.2 (dNs c)) ?_; simp -dsimp (maxSteps := 2000000) [go_sem, -decide_eq_true_eq, -decide_eq_false_iff_not]) | omega | exact True.intro
 all_goals clear hk k
 refine AW.seq ?_
 refine rgA [3,4,5,21] ?_
 refine AW.cond rfl ?_ ?_
 ·intro hc; try simp at hc
  all_goals try (exfalso; first | contradiction | omega; done)
  all_goals (
 refine rg [2] ?_
 intro k hk; simp -dsimp (maxSteps := 2000000) [go_sem, -decide_eq_true_eq, -decide_eq_false_iff_not]
 repeat' first | ((refine Chk.keys ?_); simp only [go_sem, List.map_cons, List.map_nil, List.flatMap_cons, List.flatMap_nil, List.flatMap_append, List.append_nil, List.nil_append, List.cons_append]; decide +kernel) | apply And.intro | refine hk _ ?_ | intro hg | (refine CallK.intro (dc_spec_NodeFor (dNp c) hgo.2 (dNs c)) ?_; simp -dsimp (maxSteps := 2000000) [go_sem, -decide_eq_true_eq, -decide_eq_false_iff_not]) | omega | exact True.intro
 all_goals clear hk k
 refine rt ?_
 simp [go_sem, Try.results3, *])
 ·intro hc; try simp at hc
  all_goals try (exfalso; first | contradiction | omega; done)
  all_goals (
 refine AW.skipN (fun _ h => h) ?_
 have h0 : nfC (dNp c) (dNs c) = 0 := by simpa using hc
 obtain ⟨hl, hr, hn, hv⟩ := nfC_zero h0
 have hP := procOk hl
 obtain ⟨n, x, e1, e2, e3, e4, e5, e6, s, f1, f2, f3, f4, f5⟩ := nodes_law hP hn
 have hv2 : nfV (dNp c) (dNs c) = (n : Int) := by rw [hv, e1]
 have hss : dNs c = (s : Int) := by rw [← e5, f1]
 have hv3 : nfV (dNp c) (s : Int) = (n : Int) := by rw [← hss]; exact hv2
 have e2g := gel e2
 have e2l := at_lt e2
 obtain ⟨y, hy⟩ := at_some (l := dNp c) f2
 have hy3 := gel hy
 have hny := nS_at hy
 rw [hny] at f3 f4 f5
 have hfw := gTop_few hP
 have hnl := gNs_len (dNp c)
 have hw1 : IntKind.wrap .i64 (((gNs (dNp c)).length : Int) - 1) = ((gNs (dNp c)).length : Int) - 1 := wrap64 (by omega) (by omega)
 have hx1 : ¬ ((n : Int) < 1) := by omega
 have hx2 : ¬ (((gNs (dNp c)).length : Int) - 1 ≤ (n : Int)) := by omega
 have htl : List.take (gNs (dNp c)).length ((gNs (dNp c)).map TGNode.ro) = (gNs (dNp c)).map TGNode.ro := List.take_of_length_le (by rw [List.length_map]; exact Nat.le_refl _)
 have hwi : ∀ i : Nat, i < n → IntKind.wrap .i64 ((i : Int) + 1) = (i : Int) + 1 := fun i h => wrap64 (by omega) (by omega)
 refine rg [3,4,5,6] ?_
 intro k hk; simp -dsimp (maxSteps := 2000000) [go_sem, -decide_eq_true_eq, -decide_eq_false_iff_not, hv2, hv3, hss, htl]
 repeat' first | apply And.intro | refine hk _ ?_ | intro hg | (refine CallK.intro (dc_impl_GraphOf_fz (dNp c) hgo.2 hl) ?_; simp -dsimp (maxSteps := 2000000) [go_sem, -decide_eq_true_eq, -decide_eq_false_iff_not, hv2, hv3, hss, htl]) | omega | exact True.intro
 all_goals clear hk k
 refine rg [3,4,6,7] ?_
 intro k hk; simp -dsimp [go_sem, -decide_eq_true_eq, -decide_eq_false_iff_not, hv2, hv3, hss]
 repeat' first | apply And.intro | refine hk _ ?_ | intro hg | omega | exact True.intro
 all_goals clear hk k
 refine AW.seq ?_
 refine rg [3,4,6,7,53] ?_
 intro k hk; simp -dsimp (maxSteps := 2000000) [go_sem, -decide_eq_true_eq, -decide_eq_false_iff_not, hv2, hv3, hss, hw1, hx1, hx2, e2, e2g, e2l, f1]
 repeat' first | apply And.intro | refine hk _ ?_ | (intro hg; try simp only [decide_eq_true_eq, decide_eq_false_iff_not] at hg) | omega | exact True.intro
 all_goals clear hk k
 all_goals (
 refine AW.cond rfl ?_ ?_
 ·intro hc; try simp at hc
  all_goals try (exfalso; first | contradiction | omega; done)
  all_goals (
 refine rgA [2] ?_
 refine rt ?_
 simp [go_sem, Try.results3, *])
 ·intro hc; try simp at hc
  all_goals try (exfalso; first | contradiction | omega; done)
  all_goals (
 refine AW.skipN (fun _ h => h) ?_
 refine AW.seq ?_
 refine rgA [3,4,6,7,8] ?_
 refine AW.block ?_
 refine AW.loopI (fun i : Nat => ⟨109, [(3, .isl 6 ((dNp c).map TStep.ro)), (4, .int .i64 (s : Nat)), (6, .ptr 6 2 0 0), (7, .int .i64 (n : Nat)), (8, .int .i64 (i : Nat))], [(6, some ⟨2, [[.isl 5 ((gNs (dNp c)).map TGNode.ro), .isl 3 ((srt TFlow.frm (gFl (dNp c))).map TFlow.ro)]]⟩)]⟩) (fun i => 1 ≤ i ∧ i ≤ n) (fun i => n - i) (1) (⟨Nat.le_refl _, by omega⟩) (Less.of rfl (by simp [go_sem, hss, hv2, hv3]) (by simp [go_sem])) ?_
 rintro i ⟨hi1, hi⟩
 refine AW.seq ?_
 refine rgA [3,4,6,7,8,56] ?_
 refine AW.cond rfl ?_ ?_
 ·intro hc; try simp at hc
  all_goals try (exfalso; first | contradiction | omega; done)
  all_goals (
 have hlt : i < n := by first | assumption | omega
 have hzl : i < (gNs (dNp c)).length := by omega
 obtain ⟨z, hz⟩ := at_some hzl
 have hz3 := gel hz
 have hzn := e6 i z hi1 hlt hz
 rw [hss] at hzn
 refine AW.skipN (fun _ h => h) ?_
 refine AW.seq ?_
 refine AW.block ?_
 refine rg [3,4,6,7,8,66] ?_
 intro k hk; simp -dsimp (maxSteps := 2000000) [go_sem, -decide_eq_true_eq, -decide_eq_false_iff_not, hz, hz3, hss, hzl]
 repeat' first | apply And.intro | refine hk _ ?_ | intro hg | omega | exact True.intro
 all_goals clear hk k
 refine AW.cond rfl ?_ ?_
 ·intro hc; try simp at hc
  all_goals try (exfalso; first | contradiction | omega; done)
  all_goals (
 refine rgA [2] ?_
 refine rt ?_
 simp [go_sem, Try.results3, *])
 ·intro hc; try simp at hc
  all_goals try (exfalso; first | contradiction | omega; done)
  all_goals (
 refine AW.skipN (fun _ h => h) ?_
 refine rgK ?_
 intro k hk; simp -dsimp [go_sem, -decide_eq_true_eq, -decide_eq_false_iff_not, hwi i hlt]
 repeat' first | apply And.intro | refine hk _ ?_ | intro hg | omega | exact True.intro
 all_goals clear hk k
 show ∃ _, _
 refine ⟨i + 1, ⟨by omega, by omega⟩, by omega, Less.of rfl (by simp [go_sem, hwi i hlt]) (by simp [go_sem])⟩))
 ·intro hc; try simp at hc
  all_goals try (exfalso; first | contradiction | omega; done)
  all_goals (
 refine AW.exitN (fun _ h => h) ?_
 refine rg [2] ?_
 intro k hk; simp -dsimp (maxSteps := 2000000) [go_sem, -decide_eq_true_eq, -decide_eq_false_iff_not, e2, e2g, e2l, hy, hy3, f2, f3, f4, f5, hss]
 repeat' first | ((refine Chk.keys ?_); simp only [go_sem, List.map_cons, List.map_nil, List.flatMap_cons, List.flatMap_nil, List.flatMap_append, List.append_nil, List.nil_append, List.cons_append]; decide +kernel) | apply And.intro | refine hk _ ?_ | (intro hg; try simp only [decide_eq_true_eq, decide_eq_false_iff_not] at hg) | omega | exact True.intro
 all_goals clear hk k
 all_goals (
 refine rt ?_
 simp [go_sem, Try.results3, *]))))))
end Go.AM
