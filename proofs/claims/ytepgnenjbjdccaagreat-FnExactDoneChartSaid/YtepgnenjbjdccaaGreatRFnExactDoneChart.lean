/- The law FnExactDoneChart: the reference's answer is the program's, for every argument; what is read stays as it is. -/
import Derived.Test.YtepgnenjbjdccaaGreatB1
import Derived.Test.YtepgnenjbjdccaaGreatB2
import Derived.Test.YtepgnenjbjdccaaGreatB3
import Derived.Test.YtepgnenjbjdccaaGreatB4
import Derived.Test.YtepgnenjbjdccaaGreatB5
import Derived.Test.YtepgnenjbjdccaaGreatB6
import Derived.Test.YtepgnenjbjdccaaGreatB7
import Derived.Test.YtepgnenjbjdccaaGreatRows
import Derived.WalkKit
import Derived.ProofKit
import Derived.OpenShut
import Derived.ShutString
set_option linter.unusedSimpArgs false
namespace Go.Proofs.YtepgnenjbjdccaaGreat.fnExactDoneChart
open Go.ChangeShapes Go.WideShapes Go.ChangeAt Go.RowKit
set_option linter.unusedVariables false
theorem own : ownKnob Tryz.prog.godebug = none := by kernel_rfl
theorem laid : laidOutB Tryz.prog = true := by kernel_rfl
set_option maxRecDepth 100000 in
theorem lifted (os : Os) (started : os.Started) (H : Type) (enc : TypeId × Value → H) :
    ReturnsInHanded {} Tryz.checked os 4 .any (Rows.fnExactDoneChartSpec.pre6 enc Tryz.prog Tryz.f4 Rows.fnExactDoneChartRow.domain false) (Rows.fnExactDoneChartSpec.post enc Tryz.prog Tryz.f4 false true false false) := by
  refine returnsInHanded_of_change (C := Tryz.checked) own started (by kernel_rfl) Tryz.func4
    (ChangeSpec.witness6 (enc := enc) (C := Tryz.checked) false ⟨#[], #[.slice none 0 0, .agg #[.int .i64 0, .int .i64 0, .slice none 0 0, .slice none 0 0, .slice none 0 0], .int .i64 0, .slice none 0 0], []⟩ 8 (by kernel_rfl) (by kernel_rfl) (by kernel_rfl) (by kernel_rfl)) ?_
  intro W base args ds gs before hval0 hW hcnd _
  have hval : ∀ (j : Nat) t v, Tryz.f4.params[j]? = some t → args[j]? = some v → Value.okWide Tryz.prog W .any base t v := hval0
  have hW' := hW
  obtain ⟨p, q, hA0, hV, rfl, hfz, hnd⟩ := hW
  have hA : DataW.TrodAll enc Tryz.prog W 0 (fun _ => true) true Tryz.f4.params.toList args.toList ds p := hA0
  rw [Tryz.params4] at hA hval
  obtain ⟨v0, vs0, d0, ds0, p0, q0, hargs, rfl, rfl, h0, r0⟩ := trodAll_cons hA
  obtain ⟨v1, vs1, d1, ds1, p1, q1, rfl, rfl, rfl, h1, r1⟩ := trodAll_cons r0
  obtain ⟨v2, vs2, d2, ds2, p2, q2, rfl, rfl, rfl, h2, r2⟩ := trodAll_cons r1
  obtain ⟨v3, vs3, d3, ds3, p3, q3, rfl, rfl, rfl, h3, r3⟩ := trodAll_cons r2
  obtain ⟨rfl, rfl, rfl⟩ := trodAll_nil r3
  obtain rfl : args = #[v0, v1, v2, v3] := by cases args; simp_all
  obtain ⟨rfl, rfl⟩ := trodVars_none hV
  obtain ⟨a0, g0, i0⟩ := Go.AM.Rd.arg1 Go.AM.rd_22 (fun _ => rfl) (Go.AM.cells_slice Tryz.underlying22 (hval 0 22 v0 rfl rfl)) h0
  obtain ⟨a1, g1, i1⟩ := Go.AM.Rd.argS Go.AM.rd_25 Tryz.underlying25 (hval 1 25 v1 rfl rfl) h1
  obtain ⟨a2, g2, i2⟩ := Go.AM.Rd.arg1 Go.AM.rd_2 (fun _ => rfl) (Go.AM.cells_int Tryz.underlying2 (hval 2 2 v2 rfl rfl)) h2
  obtain ⟨a3, g3, i3⟩ := Go.AM.Rd.arg1 Go.AM.rd_23 (fun _ => rfl) (Go.AM.cells_slice Tryz.underlying23 (hval 3 23 v3 rfl rfl)) h3
  replace g3 := g3.1
  have hlt := hW'.lt
  refine (Go.AM.law_calls (Go.AM.dc_laws_FnExactDoneChart a0 g0 a1 g1 a2 g2 a3 g3) (vals := #[v0, v1, v2, v3]) rfl (fun k x v hx hv => by
    match k with
    | 0 => simp at hx hv; subst hx; subst hv; exact i0
    | 1 => simp at hx hv; subst hx; subst hv; exact i1
    | 2 => simp at hx hv; subst hx; subst hv; exact i2
    | 3 => simp at hx hv; subst hx; subst hv; exact i3
    | k + 4 => simp at hx)).mono fun e W' ⟨he, hg⟩ => ?_
  subst he
  have t0 : ∀ sp : Nat → Bool, (∀ x ∈ p0, sp x.block = true) → DataW.Trod enc Tryz.prog W' 0 sp true 22 v0 d0 p0 := fun sp hs => Go.AM.Kept.trod laid (by kernel_rfl) (of_decide_eq_true (by kernel_rfl)) hg h0 (fun x hx => hlt x (by simp [hx])) hs
  have t1 : ∀ sp : Nat → Bool, (∀ x ∈ p1, sp x.block = true) → DataW.Trod enc Tryz.prog W' 0 sp true 25 v1 d1 p1 := fun sp hs => Go.AM.Kept.trod laid (by kernel_rfl) (of_decide_eq_true (by kernel_rfl)) hg h1 (fun x hx => hlt x (by simp [hx])) hs
  have t2 : ∀ sp : Nat → Bool, (∀ x ∈ p2, sp x.block = true) → DataW.Trod enc Tryz.prog W' 0 sp true 2 v2 d2 p2 := fun sp hs => Go.AM.Kept.trod laid (by kernel_rfl) (of_decide_eq_true (by kernel_rfl)) hg h2 (fun x hx => hlt x (by simp [hx])) hs
  have t3 : ∀ sp : Nat → Bool, (∀ x ∈ p3, sp x.block = true) → DataW.Trod enc Tryz.prog W' 0 sp true 23 v3 d3 p3 := fun sp hs => Go.AM.Kept.trod laid (by kernel_rfl) (of_decide_eq_true (by kernel_rfl)) hg h3 (fun x hx => hlt x (by simp [hx])) hs
  have hargs : ∀ sp : Nat → Bool, (∀ x ∈ p0 ++ (p1 ++ (p2 ++ (p3 ++ []))), sp x.block = true) → DataW.TrodAll enc Tryz.prog W' 0 sp true [22, 25, 2, 23] [v0, v1, v2, v3] [d0, d1, d2, d3] (p0 ++ (p1 ++ (p2 ++ (p3 ++ [])))) := fun sp hs => ⟨p0, p1 ++ (p2 ++ (p3 ++ [])), t0 sp (fun x hx => hs x (by simp [hx])), ⟨p1, p2 ++ (p3 ++ []), t1 sp (fun x hx => hs x (by simp [hx])), ⟨p2, p3 ++ [], t2 sp (fun x hx => hs x (by simp [hx])), ⟨p3, [], t3 sp (fun x hx => hs x (by simp [hx])), rfl, rfl⟩, rfl⟩, rfl⟩, rfl⟩
  exact ⟨_, rfl, Go.AM.post_same (pa := p0 ++ (p1 ++ (p2 ++ (p3 ++ [])))) (pv := []) hW' (fun _ _ _ => (trodAll_cons_mk (shut_bool Tryz.underlying4 _) trodAll_mk0)) (fun sp hs => hargs sp (fun x hx => hs x (by simpa using hx))) (fun _ _ => rfl) (by simp)
    hg (ok_one (by kernel_rfl) rfl (okWide_bool_mk Tryz.underlying4 _))⟩
theorem and2 {a b : Bool} (h : a = true) (h' : b = true) : (a && b) = true := by rw [h, h']; rfl
set_option maxRecDepth 100000 in
set_option maxHeartbeats 4000000 in
theorem facts : joinedFacts Tryz.pinned.checked.prog 4 Tryz.f4 Rows.fnExactDoneChartSpec Rows.fnExactDoneChartRow = true := by
  unfold joinedFacts
  repeat' (with_reducible refine and2 ?_ ?_)
  all_goals (as_aux_lemma => kernel_rfl)
set_option maxHeartbeats 4000000 in
theorem over : Rows.fnExactDoneChartRow.holds Tryz.pinned (OpenSpec.ofChange Rows.fnExactDoneChartSpec) :=
  OpenClaim.holds_of_wide 4 Tryz.f4 rfl rfl rfl rfl rfl rfl rfl ⟨rfl, rfl, rfl, rfl, rfl⟩ rfl rfl rfl rfl rfl (by as_aux_lemma => kernel_rfl) Tryz.func4 facts
    (of_decide_eq_true (by as_aux_lemma => kernel_rfl)) (by unfold Func.isWrapper; first | (rw [if_pos (by decide +kernel)]; kernel_rfl) | (rw [if_neg (by decide +kernel)]; exact ⟨rfl, rfl⟩))
    (fun os started H enc _ => lifted os started H enc)
theorem proved : Rows.FnExactDoneChartSaid :=
  over
end Go.Proofs.YtepgnenjbjdccaaGreat.fnExactDoneChart
