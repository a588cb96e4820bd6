/- The law FnNodes: the reference's answer is the program's, for every argument; what is read stays as it is. -/
import Derived.Test.YtijoeghjkklaaaaB1
import Derived.Test.YtijoeghjkklaaaaB2
import Derived.Test.YtijoeghjkklaaaaB3
import Derived.Test.YtijoeghjkklaaaaB4
import Derived.Test.YtijoeghjkklaaaaB5
import Derived.Test.YtijoeghjkklaaaaB6
import Derived.Test.YtijoeghjkklaaaaB7
import Derived.Test.YtijoeghjkklaaaaB8
import Derived.Test.YtijoeghjkklaaaaB9
import Derived.Test.YtijoeghjkklaaaaB10
import Derived.Test.YtijoeghjkklaaaaB11
import Derived.Test.YtijoeghjkklaaaaB12
import Derived.Test.YtijoeghjkklaaaaB13
import Derived.Test.YtijoeghjkklaaaaRows
import Derived.WalkKit
import Derived.ProofKit
import Derived.OpenShut
import Derived.ShutString
set_option linter.unusedSimpArgs false
namespace Go.Proofs.Ytijoeghjkklaaaa.fnNodes
open Go.ChangeShapes Go.WideShapes Go.ChangeAt Go.RowKit
set_option linter.unusedVariables false
theorem own : ownKnob Try.prog.godebug = none := by kernel_rfl
theorem laid : laidOutB Try.prog = true := by kernel_rfl
set_option maxRecDepth 100000 in
theorem lifted (os : Os) (started : os.Started) (H : Type) (enc : TypeId × Value → H) :
    ReturnsInHanded {} Try.checked os 3 .any (Rows.fnNodesSpec.pre6 enc Try.prog Try.f3 Rows.fnNodesRow.domain false) (Rows.fnNodesSpec.post enc Try.prog Try.f3 false true false false) := by
  refine returnsInHanded_of_change (C := Try.checked) own started (by kernel_rfl) Try.func3
    (ChangeSpec.witness6 (enc := enc) (C := Try.checked) false ⟨#[], #[.slice none 0 0], []⟩ 8 (by kernel_rfl) (by kernel_rfl) (by kernel_rfl) (by kernel_rfl)) ?_
  intro W base args ds gs before hval0 hW hcnd _
  have hval : ∀ (j : Nat) t v, Try.f3.params[j]? = some t → args[j]? = some v → Value.okWide Try.prog W .any base t v := hval0
  have hW' := hW
  obtain ⟨p, q, hA0, hV, rfl, hfz, hnd⟩ := hW
  have hA : DataW.TrodAll enc Try.prog W 0 (fun _ => true) true Try.f3.params.toList args.toList ds p := hA0
  rw [Try.params3] at hA hval
  obtain ⟨v0, vs0, d0, ds0, p0, q0, hargs, rfl, rfl, h0, r0⟩ := trodAll_cons hA
  obtain ⟨rfl, rfl, rfl⟩ := trodAll_nil r0
  obtain rfl : args = #[v0] := by cases args; simp_all
  obtain ⟨rfl, rfl⟩ := trodVars_none hV
  obtain ⟨a0, g0, i0⟩ := Go.AM.Rd.arg1 Go.AM.rd_22 (fun _ => rfl) (Go.AM.cells_slice Try.underlying22 (hval 0 22 v0 rfl rfl)) h0
  replace g0 := g0.1
  have hlt := hW'.lt
  refine (Go.AM.law_calls (Go.AM.dc_laws_FnNodes a0 g0) (vals := #[v0]) rfl (fun k x v hx hv => by
    match k with
    | 0 => simp at hx hv; subst hx; subst hv; exact i0
    | k + 1 => simp at hx)).mono fun e W' ⟨he, hg⟩ => ?_
  subst he
  have t0 : ∀ sp : Nat → Bool, (∀ x ∈ p0, sp x.block = true) → DataW.Trod enc Try.prog W' 0 sp true 22 v0 d0 p0 := fun sp hs => Go.AM.Kept.trod laid (by kernel_rfl) (of_decide_eq_true (by kernel_rfl)) hg h0 (fun x hx => hlt x (by simp [hx])) hs
  have hargs : ∀ sp : Nat → Bool, (∀ x ∈ p0 ++ [], sp x.block = true) → DataW.TrodAll enc Try.prog W' 0 sp true [22] [v0] [d0] (p0 ++ []) := fun sp hs => ⟨p0, [], t0 sp (fun x hx => hs x (by simp [hx])), rfl, rfl⟩
  exact ⟨_, rfl, Go.AM.post_same (pa := p0 ++ []) (pv := []) hW' (fun _ _ _ => (trodAll_cons_mk (shut_bool Try.underlying4 _) trodAll_mk0)) (fun sp hs => hargs sp (fun x hx => hs x (by simpa using hx))) (fun _ _ => rfl) (by simp)
    hg (ok_one (by kernel_rfl) rfl (okWide_bool_mk Try.underlying4 _))⟩
theorem and2 {a b : Bool} (h : a = true) (h' : b = true) : (a && b) = true := by rw [h, h']; rfl
set_option maxRecDepth 100000 in
set_option maxHeartbeats 4000000 in
theorem facts : joinedFacts Try.pinned.checked.prog 3 Try.f3 Rows.fnNodesSpec Rows.fnNodesRow = true := by
  unfold joinedFacts
  repeat' (with_reducible refine and2 ?_ ?_)
  all_goals (as_aux_lemma => kernel_rfl)
set_option maxHeartbeats 4000000 in
theorem over : Rows.fnNodesRow.holds Try.pinned (OpenSpec.ofChange Rows.fnNodesSpec) :=
  OpenClaim.holds_of_wide 3 Try.f3 rfl rfl rfl rfl rfl rfl rfl ⟨rfl, rfl, rfl, rfl, rfl⟩ rfl rfl rfl rfl rfl (by as_aux_lemma => kernel_rfl) Try.func3 facts
    (of_decide_eq_true (by as_aux_lemma => kernel_rfl)) (by unfold Func.isWrapper; first | (rw [if_pos (by decide +kernel)]; kernel_rfl) | (rw [if_neg (by decide +kernel)]; exact ⟨rfl, rfl⟩))
    (fun os started H enc _ => lifted os started H enc)
theorem proved : Rows.FnNodesSaid :=
  over
end Go.Proofs.Ytijoeghjkklaaaa.fnNodes
