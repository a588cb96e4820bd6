/- Joined texts: Bl Bm Bn Bo G7 F3 F4 F6 F8 G8 G9 Ga Bq Pgb Pgc O5. -/
import Derived.Test.YtajbihmllfodoaaD1
import Derived.Test.YtajbihmllfodoaaD2
import Derived.Test.YtajbihmllfodoaaD3
import Derived.Test.YtajbihmllfodoaaD4
import Derived.Test.YtajbihmllfodoaaD5
import Derived.Test.YtajbihmllfodoaaD6
import Derived.Test.YtajbihmllfodoaaD7
set_option linter.unusedVariables false
set_option linter.unusedSimpArgs false
set_option maxHeartbeats 600000
set_option maxRecDepth 100000
namespace Go.AM
open Go.Proofs

set_option maxHeartbeats 8000000 in
/-- spec.l6Guard -/
theorem dc_spec_l6Guard (p : List TStep) (hP : ProcOk p) (f : Nat) (hS : ∀ (k : Int) (ns : List TGNode) (fs : List TFlow), 0 ≤ k → k.toNat < p.length → p.length ≤ k.toNat + f → ns.length + 3 * cK p f k ≤ 400 → fs.length + 5 * cK p f k ≤ 400 → DC Try.prog 72 [.op (grw ns fs), .isl 6 (p.map TStep.ro), .int .i64 k] (.tup [.int .i64 (gstep p f k.toNat ns.length).en, .int .i64 (gstep p f k.toNat ns.length).lv]) [(0, .op (grw (ns ++ (gstep p f k.toNat ns.length).ns) (lk fs (gstep p f k.toNat ns.length).fs)))]) (ns : List TGNode) (fs : List TFlow) (a : Nat) (ha : a < p.length) (hf : p.length ≤ a + f + 1) (hk2 : (kids p (a : Int)).length = 2) (hb1 : ns.length + 3 * cKs p f (kids p (a : Int)) ≤ 397) (hb2 : fs.length + 5 * cKs p f (kids p (a : Int)) ≤ 395) : DC Try.prog 106 [.op (grw ns fs), .isl 6 (p.map TStep.ro), .int .i64 (a : Nat)] (.tup [.int .i64 (guardG (gstep p f) ⟨11, a, [], (nS p a).arg, []⟩ ⟨12, a, [], 0, []⟩ ⟨13, a, [], 0, []⟩ (gI (kids p (a : Int)) 0) (gI (kids p (a : Int)) 1) ns.length).en, .int .i64 (guardG (gstep p f) ⟨11, a, [], (nS p a).arg, []⟩ ⟨12, a, [], 0, []⟩ ⟨13, a, [], 0, []⟩ (gI (kids p (a : Int)) 0) (gI (kids p (a : Int)) 1) ns.length).lv]) [(0, .op (grw (ns ++ (guardG (gstep p f) ⟨11, a, [], (nS p a).arg, []⟩ ⟨12, a, [], 0, []⟩ ⟨13, a, [], 0, []⟩ (gI (kids p (a : Int)) 0) (gI (kids p (a : Int)) 1) ns.length).ns) (lk fs (guardG (gstep p f) ⟨11, a, [], (nS p a).arg, []⟩ ⟨12, a, [], 0, []⟩ ⟨13, a, [], 0, []⟩ (gI (kids p (a : Int)) 0) (gI (kids p (a : Int)) 1) ns.length).fs)))] := by
 have hkl := kids_len p (a : Int)
 have hp := hP.len.2
 have hfw : ∀ k2 ∈ (kids p (a : Int)), Few p f (gstep p f) k2 := fun k2 h9 => by obtain ⟨m, rfl, h1, h2, _, _⟩ := hP.kid h9; exact gstep_few hP f m h2
 obtain ⟨x, hx⟩ := at_some ha
 have hx3 := gel hx
 have hxn := nS_at hx
 obtain ⟨u0, hu0⟩ := at_some (l := (kids p (a : Int))) (i := 0) (by omega)
 obtain ⟨u1, hu1⟩ := at_some (l := (kids p (a : Int))) (i := 1) (by omega)
 have hu03 := gel hu0
 have hu13 := gel hu1
 obtain ⟨um0, hum0, v1, v2, v4, v5⟩ := hP.kid (List.mem_of_getElem? hu0)
 obtain ⟨um1, hum1, w1, w2, w4, w5⟩ := hP.kid (List.mem_of_getElem? hu1)
 have hc0 : cKs p f (List.take 1 (kids p (a : Int))) = cKs p f (List.take 0 (kids p (a : Int))) + cK p f u0 := cKs_snoc hu0
 have hc1 : cKs p f (List.take 2 (kids p (a : Int))) = cKs p f (List.take 1 (kids p (a : Int))) + cK p f u1 := cKs_snoc hu1
 have hce : cKs p f (List.take 0 (kids p (a : Int))) = 0 := rfl
 have hcl := cKs_le p f (kids p (a : Int)) 2
 have hg0 : gI (kids p (a : Int)) 0 = u0 := by unfold gI; rw [List.getD_eq_getElem?_getD]; simp [hu0]
 have hg1 : gI (kids p (a : Int)) 1 = u1 := by unfold gI; rw [List.getD_eq_getElem?_getD]; simp [hu1]
 have hn0 := dc_spec_l6Node_z ns fs 11 (a : Int) x.arg [] (by omega)
 obtain ⟨N0, hN0⟩ : ∃ N, N = ns ++ [(⟨11, a, [], x.arg, []⟩ : TGNode)] := ⟨_, rfl⟩
 rw [← hN0] at hn0
 have l0 : N0.length = ns.length + 1 := by rw [hN0]; simp
 have hs0 := hS u0 N0 fs (by omega) (by omega) (by omega) (by omega) (by omega)
 rw [l0] at hs0
 obtain ⟨R0, hR0⟩ : ∃ N, N = gstep p f u0.toNat (ns.length + 1) := ⟨_, rfl⟩
 have hf0 := hfw u0 (List.mem_of_getElem? hu0) (ns.length + 1)
 rw [← hR0] at hs0 hf0
 obtain ⟨N1, hN1⟩ : ∃ N, N = N0 ++ R0.ns := ⟨_, rfl⟩
 obtain ⟨F1, hF1⟩ : ∃ N, N = lk fs R0.fs := ⟨_, rfl⟩
 rw [← hN1, ← hF1] at hs0
 have l1 : N1.length = ns.length + 1 + R0.ns.length := by rw [hN1, List.length_append, l0]
 have m1 : F1.length = fs.length + R0.fs.length := by rw [hF1, lk_len]
 have hn1 := dc_spec_l6Node_z N1 F1 12 (a : Int) 0 [] (by omega)
 obtain ⟨N2, hN2⟩ : ∃ N, N = N1 ++ [(⟨12, a, [], 0, []⟩ : TGNode)] := ⟨_, rfl⟩
 rw [← hN2] at hn1
 have l2 : N2.length = ns.length + 1 + R0.ns.length + 1 := by rw [hN2, List.length_append, l1]; rfl
 have hs1 := hS u1 N2 F1 (by omega) (by omega) (by omega) (by omega) (by omega)
 rw [l2] at hs1
 obtain ⟨R1, hR1⟩ : ∃ N, N = gstep p f u1.toNat (ns.length + 1 + R0.ns.length + 1) := ⟨_, rfl⟩
 have hf1 := hfw u1 (List.mem_of_getElem? hu1) (ns.length + 1 + R0.ns.length + 1)
 rw [← hR1] at hs1 hf1
 obtain ⟨N3, hN3⟩ : ∃ N, N = N2 ++ R1.ns := ⟨_, rfl⟩
 obtain ⟨F2, hF2⟩ : ∃ N, N = lk F1 R1.fs := ⟨_, rfl⟩
 rw [← hN3, ← hF2] at hs1
 have l3 : N3.length = ns.length + 1 + R0.ns.length + 1 + R1.ns.length := by rw [hN3, List.length_append, l2]
 have m2 : F2.length = F1.length + R1.fs.length := by rw [hF2, lk_len]
 have hn3 := dc_spec_l6Node_z N3 F2 13 (a : Int) 0 [] (by omega)
 obtain ⟨N4, hN4⟩ : ∃ N, N = N3 ++ [(⟨13, a, [], 0, []⟩ : TGNode)] := ⟨_, rfl⟩
 rw [← hN4] at hn3
 have hq0 := dc_link_n N4 F2 (by omega) (ns.length : Nat) R0.en
 obtain ⟨F3, hF3⟩ : ∃ N, N = putK TFlow.frm F2 (⟨(ns.length : Nat), R0.en, []⟩ : TFlow) := ⟨_, rfl⟩
 rw [← hF3] at hq0
 have m3 : F3.length = F2.length + 1 := by rw [hF3, ← lk_one, lk_len]; rfl
 have hq1 := dc_link_n N4 F3 (by omega) (ns.length : Nat) R1.en
 obtain ⟨F4, hF4⟩ : ∃ N, N = putK TFlow.frm F3 (⟨(ns.length : Nat), R1.en, []⟩ : TFlow) := ⟨_, rfl⟩
 rw [← hF4] at hq1
 have m4 : F4.length = F3.length + 1 := by rw [hF4, ← lk_one, lk_len]; rfl
 have hq2 := dc_link_n N4 F4 (by omega) R0.lv (N1.length : Nat)
 obtain ⟨F5, hF5⟩ : ∃ N, N = putK TFlow.frm F4 (⟨R0.lv, (N1.length : Nat), []⟩ : TFlow) := ⟨_, rfl⟩
 rw [← hF5] at hq2
 have m5 : F5.length = F4.length + 1 := by rw [hF5, ← lk_one, lk_len]; rfl
 have hq3 := dc_link_n N4 F5 (by omega) (N1.length : Nat) (N3.length : Nat)
 obtain ⟨F6, hF6⟩ : ∃ N, N = putK TFlow.frm F5 (⟨(N1.length : Nat), (N3.length : Nat), []⟩ : TFlow) := ⟨_, rfl⟩
 rw [← hF6] at hq3
 have m6 : F6.length = F5.length + 1 := by rw [hF6, ← lk_one, lk_len]; rfl
 have hq4 := dc_link_n N4 F6 (by omega) R1.lv (N3.length : Nat)
 obtain ⟨F7, hF7⟩ : ∃ N, N = putK TFlow.frm F6 (⟨R1.lv, (N3.length : Nat), []⟩ : TFlow) := ⟨_, rfl⟩
 rw [← hF7] at hq4
 have m7 : F7.length = F6.length + 1 := by rw [hF7, ← lk_one, lk_len]; rfl
 refine DC.intro tiOk Try.func106 rfl rfl rfl rfl rfl rfl rfl (by simp [noW, noWo]) [] ?_
 refine rgA [0,1,2] ?_
 refine rg [0,1,2,8] ?_
 intro k hk; simp -dsimp (maxSteps := 2000000) [go_sem, -decide_eq_true_eq, -decide_eq_false_iff_not]
 repeat' first | apply And.intro | refine hk _ ?_ | intro hg | (refine CallK.intro (dc_spec_l4Kids p (a : Int) hp (by rw [hP.par0]; omega)) ?_; simp -dsimp (maxSteps := 2000000) [go_sem, -decide_eq_true_eq, -decide_eq_false_iff_not]) | omega | exact True.intro
 all_goals clear hk k
 refine AW.reg tiOk (fun _ => [0]) [0,1,2,8,9] ?_
 intro k hk; simp -dsimp (maxSteps := 2000000) [go_sem, -decide_eq_true_eq, -decide_eq_false_iff_not, hx, hx3]
 repeat' first | apply And.intro | refine hk _ ?_ | intro hg | (refine CallK.intro (hn0) ?_; simp -dsimp (maxSteps := 2000000) [go_sem, -decide_eq_true_eq, -decide_eq_false_iff_not, hx, hx3]) | omega | exact True.intro
 all_goals clear hk k
 refine AW.reg tiOk (fun _ => [0]) [0,1,2,8,9,10,11] ?_
 intro k hk; simp -dsimp (maxSteps := 2000000) [go_sem, -decide_eq_true_eq, -decide_eq_false_iff_not, hu0, hu03, hk2]
 repeat' first | apply And.intro | refine hk _ ?_ | intro hg | (refine CallK.intro (hs0) ?_; simp -dsimp (maxSteps := 2000000) [go_sem, -decide_eq_true_eq, -decide_eq_false_iff_not, hu0, hu03, hk2]) | omega | exact True.intro
 all_goals clear hk k
 refine AW.reg tiOk (fun _ => [0]) [0,1,2,8,9,10,11,12] ?_
 intro k hk; simp -dsimp (maxSteps := 2000000) [go_sem, -decide_eq_true_eq, -decide_eq_false_iff_not]
 repeat' first | apply And.intro | refine hk _ ?_ | intro hg | (refine CallK.intro (hn1) ?_; simp -dsimp (maxSteps := 2000000) [go_sem, -decide_eq_true_eq, -decide_eq_false_iff_not]) | omega | exact True.intro
 all_goals clear hk k
 refine AW.reg tiOk (fun _ => [0]) [0,2,9,10,11,12,13,14] ?_
 intro k hk; simp -dsimp (maxSteps := 2000000) [go_sem, -decide_eq_true_eq, -decide_eq_false_iff_not, hu1, hu13, hk2]
 repeat' first | apply And.intro | refine hk _ ?_ | intro hg | (refine CallK.intro (hs1) ?_; simp -dsimp (maxSteps := 2000000) [go_sem, -decide_eq_true_eq, -decide_eq_false_iff_not, hu1, hu13, hk2]) | omega | exact True.intro
 all_goals clear hk k
 refine AW.reg tiOk (fun _ => [0]) [0,9,10,11,12,13,14,15] ?_
 intro k hk; simp -dsimp (maxSteps := 2000000) [go_sem, -decide_eq_true_eq, -decide_eq_false_iff_not]
 repeat' first | apply And.intro | refine hk _ ?_ | intro hg | (refine CallK.intro (hn3) ?_; simp -dsimp (maxSteps := 2000000) [go_sem, -decide_eq_true_eq, -decide_eq_false_iff_not]) | omega | exact True.intro
 all_goals clear hk k
 refine AW.reg tiOk (fun _ => [0]) [0,9,11,12,13,14,15] ?_
 intro k hk; simp -dsimp (maxSteps := 2000000) [go_sem, -decide_eq_true_eq, -decide_eq_false_iff_not]
 repeat' first | apply And.intro | refine hk _ ?_ | intro hg | (refine CallK.intro (hq0) ?_; simp -dsimp (maxSteps := 2000000) [go_sem, -decide_eq_true_eq, -decide_eq_false_iff_not]) | omega | exact True.intro
 all_goals clear hk k
 refine AW.reg tiOk (fun _ => [0]) [0,9,11,12,14,15] ?_
 intro k hk; simp -dsimp (maxSteps := 2000000) [go_sem, -decide_eq_true_eq, -decide_eq_false_iff_not]
 repeat' first | apply And.intro | refine hk _ ?_ | intro hg | (refine CallK.intro (hq1) ?_; simp -dsimp (maxSteps := 2000000) [go_sem, -decide_eq_true_eq, -decide_eq_false_iff_not]) | omega | exact True.intro
 all_goals clear hk k
 refine AW.reg tiOk (fun _ => [0]) [0,9,12,14,15] ?_
 intro k hk; simp -dsimp (maxSteps := 2000000) [go_sem, -decide_eq_true_eq, -decide_eq_false_iff_not]
 repeat' first | apply And.intro | refine hk _ ?_ | intro hg | (refine CallK.intro (hq2) ?_; simp -dsimp (maxSteps := 2000000) [go_sem, -decide_eq_true_eq, -decide_eq_false_iff_not]) | omega | exact True.intro
 all_goals clear hk k
 refine AW.reg tiOk (fun _ => [0]) [0,9,14,15] ?_
 intro k hk; simp -dsimp (maxSteps := 2000000) [go_sem, -decide_eq_true_eq, -decide_eq_false_iff_not]
 repeat' first | apply And.intro | refine hk _ ?_ | intro hg | (refine CallK.intro (hq3) ?_; simp -dsimp (maxSteps := 2000000) [go_sem, -decide_eq_true_eq, -decide_eq_false_iff_not]) | omega | exact True.intro
 all_goals clear hk k
 refine AW.reg tiOk (fun _ => [0]) [0,9,15] ?_
 intro k hk; simp -dsimp (maxSteps := 2000000) [go_sem, -decide_eq_true_eq, -decide_eq_false_iff_not]
 repeat' first | apply And.intro | refine hk _ ?_ | intro hg | (refine CallK.intro (hq4) ?_; simp -dsimp (maxSteps := 2000000) [go_sem, -decide_eq_true_eq, -decide_eq_false_iff_not]) | omega | exact True.intro
 all_goals clear hk k
 refine rgA [0,6,7] ?_
 refine rt ?_
 have hfi : (guardG (gstep p f) ⟨11, a, [], (nS p a).arg, []⟩ ⟨12, a, [], 0, []⟩ ⟨13, a, [], 0, []⟩ (gI (kids p (a : Int)) 0) (gI (kids p (a : Int)) 1) ns.length) = ⟨[(⟨11, a, [], x.arg, []⟩ : TGNode)] ++ R0.ns ++ [(⟨12, a, [], 0, []⟩ : TGNode)] ++ R1.ns ++ [(⟨13, a, [], 0, []⟩ : TGNode)], R0.fs ++ R1.fs ++ [⟨(ns.length : Nat), R0.en, []⟩, ⟨(ns.length : Nat), R1.en, []⟩, ⟨R0.lv, (N1.length : Nat), []⟩, ⟨(N1.length : Nat), (N3.length : Nat), []⟩, ⟨R1.lv, (N3.length : Nat), []⟩], (ns.length : Nat), (N3.length : Nat)⟩ := by simp only [guardG, hg0, hg1, hxn, ← hR0, ← hR1, l1, l3]
 rw [hfi]
 have hfl : lk fs (R0.fs ++ R1.fs ++ [⟨(ns.length : Nat), R0.en, []⟩, ⟨(ns.length : Nat), R1.en, []⟩, ⟨R0.lv, (N1.length : Nat), []⟩, ⟨(N1.length : Nat), (N3.length : Nat), []⟩, ⟨R1.lv, (N3.length : Nat), []⟩]) = F7 := by rw [lk_app, lk_app, ← hF1, ← hF2, hF7, hF6, hF5, hF4, hF3]; rfl
 simp only [hfl]
 simp only [hN4, hN3, hN2, hN1, hN0]
 simp [go_sem, Try.results106]

end Go.AM
namespace Go.AM
open Go.Proofs

set_option maxHeartbeats 8000000 in
/-- spec.l6Many -/
theorem dc_spec_l6Many (p : List TStep) (hP : ProcOk p) (f : Nat) (hS : ∀ (k : Int) (ns : List TGNode) (fs : List TFlow), 0 ≤ k → k.toNat < p.length → p.length ≤ k.toNat + f → ns.length + 3 * cK p f k ≤ 400 → fs.length + 5 * cK p f k ≤ 400 → DC Try.prog 72 [.op (grw ns fs), .isl 6 (p.map TStep.ro), .int .i64 k] (.tup [.int .i64 (gstep p f k.toNat ns.length).en, .int .i64 (gstep p f k.toNat ns.length).lv]) [(0, .op (grw (ns ++ (gstep p f k.toNat ns.length).ns) (lk fs (gstep p f k.toNat ns.length).fs)))]) (ns : List TGNode) (fs : List TFlow) (a : Nat) (ha : a < p.length) (hf : p.length ≤ a + f + 1) (ok ck : Int) (hb1 : ns.length + 3 * cKs p f (kids p (a : Int)) ≤ 397) (hb2 : fs.length + 5 * cKs p f (kids p (a : Int)) ≤ 395) : DC Try.prog 105 [.op (grw ns fs), .isl 6 (p.map TStep.ro), .int .i64 (a : Nat), .int .i64 ok, .int .i64 ck] (.tup [.int .i64 (sidesG (gstep p f) (cdS p) (⟨ok, a, [], 0, []⟩ : TGNode) (⟨ck, a, [], 0, []⟩ : TGNode) (kids p (a : Int)) ns.length).en, .int .i64 (sidesG (gstep p f) (cdS p) (⟨ok, a, [], 0, []⟩ : TGNode) (⟨ck, a, [], 0, []⟩ : TGNode) (kids p (a : Int)) ns.length).lv]) [(0, .op (grw (ns ++ (sidesG (gstep p f) (cdS p) (⟨ok, a, [], 0, []⟩ : TGNode) (⟨ck, a, [], 0, []⟩ : TGNode) (kids p (a : Int)) ns.length).ns) (lk fs (sidesG (gstep p f) (cdS p) (⟨ok, a, [], 0, []⟩ : TGNode) (⟨ck, a, [], 0, []⟩ : TGNode) (kids p (a : Int)) ns.length).fs)))] := by
 have hkl := kids_len p (a : Int)
 have hp := hP.len.2
 have hfw : ∀ k2 ∈ (kids p (a : Int)), Few p f (gstep p f) k2 := fun k2 h9 => by obtain ⟨m, rfl, h1, h2, _, _⟩ := hP.kid h9; exact gstep_few hP f m h2
 have hnd0 := dc_spec_l6Node_z ns fs ok (a : Int) 0 [] (by omega)
 obtain ⟨N0, hN0⟩ : ∃ N, N = ns ++ [(⟨ok, a, [], 0, []⟩ : TGNode)] := ⟨_, rfl⟩
 rw [← hN0] at hnd0
 refine DC.intro tiOk Try.func105 rfl rfl rfl rfl rfl rfl rfl (by simp [noW, noWo]) [] ?_
 refine rgA [0,1,2,3,4] ?_
 refine AW.reg tiOk (fun _ => [0]) [0,1,2,4,12] ?_
 intro k hk; simp -dsimp (maxSteps := 2000000) [go_sem, -decide_eq_true_eq, -decide_eq_false_iff_not]
 repeat' first | apply And.intro | refine hk _ ?_ | intro hg | (refine CallK.intro (hnd0) ?_; simp -dsimp (maxSteps := 2000000) [go_sem, -decide_eq_true_eq, -decide_eq_false_iff_not]) | omega | exact True.intro
 all_goals clear hk k
 refine rg [0,1,2,4,12,13] ?_
 intro k hk; simp -dsimp (maxSteps := 2000000) [go_sem, -decide_eq_true_eq, -decide_eq_false_iff_not]
 repeat' first | apply And.intro | refine hk _ ?_ | intro hg | (refine CallK.intro (dc_spec_l4Kids p (a : Int) hp (by rw [hP.par0]; omega)) ?_; simp -dsimp (maxSteps := 2000000) [go_sem, -decide_eq_true_eq, -decide_eq_false_iff_not]) | omega | exact True.intro
 all_goals clear hk k
 refine rgA [0,1,2,4,12,13,14] ?_
 refine AW.seq ?_
 refine rgA [0,1,2,4,12,13,14,15] ?_
 refine AW.block ?_
 refine AW.rename (nd := ?nd_1) 28 60 ?h1_1 ?h2_1 ?h4_1 ?kk_1
 (case h1_1 => exact rfl)
 (case h2_1 => simp [go_sem])
 (case h4_1 => simp [go_sem])
 refine AW.loopI (fun q : Nat × List TGNode × List TFlow => ⟨81, [(0, .ptr 1900 2 0 0), (1, .isl 6 (p.map TStep.ro)), (2, .int .i64 (a : Nat)), (4, .int .i64 ck), (12, .int .i64 (ns.length : Nat)), (13, .sl 1027 1 0 (kids p (a : Int)).length), (14, .sl 60 1 0 q.1), (15, .int .i64 (q.1 : Nat))], [(60, some ⟨1, (sdN (gstep p f) (cdS p) ns.length (⟨ok, a, [], 0, []⟩ : TGNode) (kids p (a : Int)) q.1).os.map I1⟩), (1027, some ⟨1, (kids p (a : Int)).map I1⟩), (1900, some ⟨2, [grw q.2.1 q.2.2]⟩)]⟩) (fun q => q.1 ≤ (kids p (a : Int)).length ∧ q.2.1 = ns ++ (sdN (gstep p f) (cdS p) ns.length (⟨ok, a, [], 0, []⟩ : TGNode) (kids p (a : Int)) q.1).ns ∧ q.2.2 = lk fs (sdN (gstep p f) (cdS p) ns.length (⟨ok, a, [], 0, []⟩ : TGNode) (kids p (a : Int)) q.1).fs) (fun q => (kids p (a : Int)).length - q.1) ((0, N0, fs)) (⟨Nat.zero_le _, hN0, by simp only; rw [sd_zero]; rfl⟩) (Less.of rfl (by simp [go_sem, sd_zero]) (by simp [go_sem, sd_zero])) ?_
 rintro ⟨i, N1, F1⟩ ⟨hi, hN1, hF1⟩
 refine AW.rename (nd := ?nd_2) 60 28 ?h1_2 ?h2_2 ?h4_2 ?kk_2
 (case h1_2 => exact rfl)
 (case h2_2 => simp [go_sem])
 (case h4_2 => simp [go_sem])
 simp only at hi hN1 hF1
 have hf1 := sd_few (cd := cdS p) (n := ns.length) (op := (⟨ok, a, [], 0, []⟩ : TGNode)) hfw i hi
 have hc2 := cKs_le p f (kids p (a : Int)) i
 have hNl : N1.length = ns.length + (sdN (gstep p f) (cdS p) ns.length (⟨ok, a, [], 0, []⟩ : TGNode) (kids p (a : Int)) i).ns.length := by rw [hN1, List.length_append]
 have hFl : F1.length = fs.length + (sdN (gstep p f) (cdS p) ns.length (⟨ok, a, [], 0, []⟩ : TGNode) (kids p (a : Int)) i).fs.length := by rw [hF1, lk_len]
 have hol : (sdN (gstep p f) (cdS p) ns.length (⟨ok, a, [], 0, []⟩ : TGNode) (kids p (a : Int)) i).os.length = i := hf1.2.2
 refine AW.seq ?_
 refine rgA [0,1,2,4,12,13,14,15,32] ?_
 refine AW.cond rfl ?_ ?_
 ·intro hc; try simp at hc
  all_goals (
   have hlt : i < (kids p (a : Int)).length := by first | assumption | omega
   obtain ⟨u, hu⟩ := at_some (l := (kids p (a : Int))) (i := i) hlt
   have hu3 := gel hu
   obtain ⟨um, hum, hu1, hu2, hu4, hu5⟩ := hP.kid (List.mem_of_getElem? hu)
   have hc1 := cKs_snoc (p := p) (f := f) hu
   have hc3 := cKs_le p f (kids p (a : Int)) (i + 1)
   have hpz := cK_pos p f u
   have hcall := hS u N1 F1 (by omega) (by omega) (by omega) (by omega) (by omega)
   have hsd := sd_succ (g := gstep p f) (cd := cdS p) (n := ns.length) (op := (⟨ok, a, [], 0, []⟩ : TGNode)) hu
   rw [hNl] at hcall
   obtain ⟨R, hR⟩ : ∃ R, gstep p f u.toNat (ns.length + (sdN (gstep p f) (cdS p) ns.length (⟨ok, a, [], 0, []⟩ : TGNode) (kids p (a : Int)) i).ns.length) = R := ⟨_, rfl⟩
   have hfR := hfw u (List.mem_of_getElem? hu) (ns.length + (sdN (gstep p f) (cdS p) ns.length (⟨ok, a, [], 0, []⟩ : TGNode) (kids p (a : Int)) i).ns.length)
   unfold sdF at hsd
   rw [hR] at hcall hsd hfR
   obtain ⟨N2, hN2⟩ : ∃ N, N = N1 ++ R.ns := ⟨_, rfl⟩
   obtain ⟨F2, hF2⟩ : ∃ N, N = lk F1 R.fs := ⟨_, rfl⟩
   rw [← hN2, ← hF2] at hcall
   have hum2 : u.toNat = um := by omega
   obtain ⟨x, hx⟩ := at_some hu2
   have hx3 := gel hx
   have hcd : cdS p um = x.cond := by unfold cdS; rw [nS_at hx]
   rw [hum2, hcd] at hsd
   have hxs := hP.sml x (List.mem_of_getElem? hx)
   have hfl := dc_link_c N2 F2 (by rw [hF2, lk_len]; omega) (ns.length : Int) R.en x.cond (by have := hxs.2.1; omega)
   obtain ⟨F3, hF3⟩ : ∃ N, N = putK TFlow.frm F2 (⟨(ns.length : Int), R.en, x.cond⟩ : TFlow) := ⟨_, rfl⟩
   rw [← hF3] at hfl
   have htk : ((sdN (gstep p f) (cdS p) ns.length (⟨ok, a, [], 0, []⟩ : TGNode) (kids p (a : Int)) i).os.map I1).take i = (sdN (gstep p f) (cdS p) ns.length (⟨ok, a, [], 0, []⟩ : TGNode) (kids p (a : Int)) i).os.map I1 := List.take_of_length_le (by rw [List.length_map]; omega)
   have hu0b : (0 : Int) ≤ u := by omega
   have hult : u < (p.length : Nat) := by omega
   refine AW.skipN (fun _ h => h) ?_
   refine AW.seq ?_
   refine AW.block ?_
   refine AW.reg tiOk (fun _ => [0]) [0,1,2,4,12,13,14,15,16,17] ?_
   intro k hk; simp -dsimp (maxSteps := 2000000) [go_sem, -decide_eq_true_eq, -decide_eq_false_iff_not, hu, hu3]
   repeat' first | apply And.intro | refine hk _ ?_ | intro hg | (refine CallK.intro (hcall) ?_; simp -dsimp (maxSteps := 2000000) [go_sem, -decide_eq_true_eq, -decide_eq_false_iff_not, hu, hu3]) | omega | exact True.intro
   all_goals clear hk k
   refine AW.reg tiOk (fun _ => [0]) [0,1,2,4,12,13,14,15,17] ?_
   intro k hk; simp -dsimp (maxSteps := 2000000) [go_sem, -decide_eq_true_eq, -decide_eq_false_iff_not, hu, hu3, hx, hx3, hum2]
   repeat' first | apply And.intro | refine hk _ ?_ | intro hg | (refine CallK.intro (hfl) ?_; simp -dsimp (maxSteps := 2000000) [go_sem, -decide_eq_true_eq, -decide_eq_false_iff_not, hu, hu3, hx, hx3, hum2]) | omega | exact True.intro
   all_goals clear hk k
   refine rgN [0,1,2,4,12,13,14,15] (fun _ h => h) ?_
   intro k hk; simp -dsimp [go_sem, -decide_eq_true_eq, -decide_eq_false_iff_not, htk, hol]
   repeat' first | apply And.intro | refine hk _ ?_ | intro hg | omega | exact True.intro
   all_goals clear hk k
   refine rgKA ?_
   show ∃ _, _
   have hww : IntKind.wrap .i64 ((i : Int) + 1) = (i : Int) + 1 := wrap64 (by omega) (by omega)
   refine ⟨(i + 1, N2, F3), ⟨by simp only; omega, by simp only; rw [hsd, hN2, hN1]; simp, by simp only; rw [hsd, lk_app, lk_app, ← hF1, ← hF2, hF3]; rfl⟩, by simp only; omega, Less.of rfl (by simp [go_sem, hww, hsd, hol]) (by simp [go_sem, hsd])⟩)
 ·intro hc; try simp at hc
  all_goals (
   refine AW.exitN (fun _ h => h) ?_
   obtain rfl : i = (kids p (a : Int)).length := by first | omega | (simp at hc; omega)
   have hnd9 := dc_spec_l6Node_z N1 F1 ck (a : Int) 0 [] (by omega)
   obtain ⟨N3, hN3⟩ : ∃ N, N = N1 ++ [(⟨ck, a, [], 0, []⟩ : TGNode)] := ⟨_, rfl⟩
   rw [← hN3] at hnd9
   obtain ⟨OS, hOS⟩ : ∃ O, (sdN (gstep p f) (cdS p) ns.length (⟨ok, a, [], 0, []⟩ : TGNode) (kids p (a : Int)) (kids p (a : Int)).length).os = O := ⟨_, rfl⟩
   rw [hOS] at hol ⊢
   refine AW.reg tiOk (fun _ => [0]) [0,12,14,18] ?_
   intro k hk; simp -dsimp (maxSteps := 2000000) [go_sem, -decide_eq_true_eq, -decide_eq_false_iff_not]
   repeat' first | apply And.intro | refine hk _ ?_ | intro hg | (refine CallK.intro (hnd9) ?_; simp -dsimp (maxSteps := 2000000) [go_sem, -decide_eq_true_eq, -decide_eq_false_iff_not]) | omega | exact True.intro
   all_goals clear hk k
   refine AW.seq ?_
   refine rgA [0,12,14,18,19] ?_
   refine AW.block ?_
   refine AW.loopI (fun q : Nat × List TFlow => ⟨81, [(0, .ptr 1900 2 0 0), (12, .int .i64 (ns.length : Nat)), (14, .sl 28 1 0 (kids p (a : Int)).length), (18, .int .i64 (N1.length : Nat)), (19, .int .i64 (q.1 : Nat))], [(28, some ⟨1, OS.map I1⟩), (1900, some ⟨2, [grw N3 q.2]⟩)]⟩) (fun q => q.1 ≤ (kids p (a : Int)).length ∧ q.2 = lk F1 ((OS.take q.1).map fun o => (⟨o, (N1.length : Nat), []⟩ : TFlow))) (fun q => (kids p (a : Int)).length - q.1) ((0, F1)) (⟨Nat.zero_le _, rfl⟩) (Less.of rfl (by simp [go_sem]) (by simp [go_sem])) ?_
   rintro ⟨j, F4⟩ ⟨hj, hF4⟩
   simp only at hj hF4
   refine AW.seq ?_
   refine rg [0,12,14,18,19,69] ?_
   intro k hk; simp -dsimp [go_sem, -decide_eq_true_eq, -decide_eq_false_iff_not, hol]
   repeat' first | apply And.intro | refine hk _ ?_ | intro hg | omega | exact True.intro
   all_goals clear hk k
   refine AW.cond rfl ?_ ?_
   ·intro hc; try simp at hc
    all_goals (
     have hlt : j < (kids p (a : Int)).length := by first | assumption | omega
     obtain ⟨o, ho⟩ := at_some (l := OS) (i := j) (by omega)
     have ho3 := gel ho
     have hos := take_snoc ho
     have hF4l : F4.length = F1.length + j := by rw [hF4, lk_len, List.length_map, List.length_take]; omega
     have hfn := dc_link_n N3 F4 (by omega) o (N1.length : Int)
     obtain ⟨F5, hF5⟩ : ∃ N, N = putK TFlow.frm F4 (⟨o, (N1.length : Int), []⟩ : TFlow) := ⟨_, rfl⟩
     rw [← hF5] at hfn
     refine AW.skipN (fun _ h => h) ?_
     refine AW.seq ?_
     refine AW.block ?_
     refine AW.regN tiOk (fun _ => [0]) [0,12,14,18,19] (fun _ h => h) ?_
     intro k hk; simp -dsimp (maxSteps := 2000000) [go_sem, -decide_eq_true_eq, -decide_eq_false_iff_not, ho, ho3, hol]
     repeat' first | apply And.intro | refine hk _ ?_ | intro hg | (refine CallK.intro (hfn) ?_; simp -dsimp (maxSteps := 2000000) [go_sem, -decide_eq_true_eq, -decide_eq_false_iff_not, ho, ho3, hol]) | omega | exact True.intro
     all_goals clear hk k
     refine rgK ?_
     intro k hk; simp -dsimp [go_sem, -decide_eq_true_eq, -decide_eq_false_iff_not, ho, ho3, hol]
     repeat' first | apply And.intro | refine hk _ ?_ | intro hg | omega | exact True.intro
     all_goals clear hk k
     show ∃ _, _
     have hww : IntKind.wrap .i64 ((j : Int) + 1) = (j : Int) + 1 := wrap64 (by omega) (by omega)
     refine ⟨(j + 1, F5), ⟨by simp only; omega, by simp only; rw [hos, List.map_append, lk_app, ← hF4, hF5]; rfl⟩, by simp only; omega, Less.of rfl (by simp [go_sem, hww]) (by simp [go_sem])⟩)
   ·intro hc; try simp at hc
    all_goals (
     refine AW.exitN (fun _ h => h) ?_
     refine rgA [0,10,11] ?_
     refine rt ?_
     obtain rfl : j = (kids p (a : Int)).length := by first | omega | (simp at hc; omega)
     have hfi : sidesG (gstep p f) (cdS p) (⟨ok, a, [], 0, []⟩ : TGNode) (⟨ck, a, [], 0, []⟩ : TGNode) (kids p (a : Int)) ns.length = ⟨(sdN (gstep p f) (cdS p) ns.length (⟨ok, a, [], 0, []⟩ : TGNode) (kids p (a : Int)) (kids p (a : Int)).length).ns ++ [(⟨ck, a, [], 0, []⟩ : TGNode)], (sdN (gstep p f) (cdS p) ns.length (⟨ok, a, [], 0, []⟩ : TGNode) (kids p (a : Int)) (kids p (a : Int)).length).fs ++ OS.map fun o => (⟨o, (N1.length : Nat), []⟩ : TFlow), (ns.length : Nat), (N1.length : Nat)⟩ := by simp only [sidesG, hOS, hNl]
     rw [hfi]
     rw [List.take_of_length_le (by omega)] at hF4
     rw [lk_app, ← hF1, ← hF4, hN3, hN1]
     simp [go_sem, Try.results105]))

end Go.AM
namespace Go.AM
open Go.Proofs

set_option maxHeartbeats 8000000 in
/-- spec.l6Step -/
theorem dc_spec_l6Step (p : List TStep) (hP : ProcOk p) (f : Nat) (hS : ∀ (k : Int) (ns : List TGNode) (fs : List TFlow), 0 ≤ k → k.toNat < p.length → p.length ≤ k.toNat + f → ns.length + 3 * cK p f k ≤ 400 → fs.length + 5 * cK p f k ≤ 400 → DC Try.prog 72 [.op (grw ns fs), .isl 6 (p.map TStep.ro), .int .i64 k] (.tup [.int .i64 (gstep p f k.toNat ns.length).en, .int .i64 (gstep p f k.toNat ns.length).lv]) [(0, .op (grw (ns ++ (gstep p f k.toNat ns.length).ns) (lk fs (gstep p f k.toNat ns.length).fs)))]) (ns : List TGNode) (fs : List TFlow) (a : Nat) (ha : a < p.length) (hf : p.length ≤ a + f + 1) (hb1 : ns.length + 3 * cK p (f + 1) (a : Int) ≤ 400) (hb2 : fs.length + 5 * cK p (f + 1) (a : Int) ≤ 400) : DC Try.prog 72 [.op (grw ns fs), .isl 6 (p.map TStep.ro), .int .i64 (a : Nat)] (.tup [.int .i64 (gstep p (f + 1) a ns.length).en, .int .i64 (gstep p (f + 1) a ns.length).lv]) [(0, .op (grw (ns ++ (gstep p (f + 1) a ns.length).ns) (lk fs (gstep p (f + 1) a ns.length).fs)))] := by
 have hkl := kids_len p (a : Int)
 have hp := hP.len.2
 have hfw : ∀ k2 ∈ (kids p (a : Int)), Few p f (gstep p f) k2 := fun k2 h9 => by obtain ⟨m, rfl, h1, h2, _, _⟩ := hP.kid h9; exact gstep_few hP f m h2
 obtain ⟨x, hx⟩ := at_some ha
 have hx3 := gel hx
 have hxn := nS_at hx
 have hck := cK_succ p f a
 have hmn := hP.many ha
 have hbr := hP.bare ha
 rw [hxn] at hmn hbr
 have hxs := hP.sml x (List.mem_of_getElem? hx)
 have hxe : x.expr.length ≤ 16 := hxs.2.2
 refine DC.intro tiOk Try.func72 rfl rfl rfl rfl rfl rfl rfl (by simp [noW, noWo]) [] ?_
 refine rgA [0,1,2] ?_
 refine rg [0,1,2,8] ?_
 intro k hk; simp -dsimp [go_sem, -decide_eq_true_eq, -decide_eq_false_iff_not, hx, hx3]
 repeat' first | apply And.intro | refine hk _ ?_ | intro hg | omega | exact True.intro
 all_goals clear hk k
 refine AW.seq ?_
 refine rgA [0,1,2,8,23] ?_
 refine AW.block ?_
 refine rgA [0,1,2,8,23,24] ?_
 refine AW.cond rfl ?_ ?_
 ·intro hc; try simp at hc
  all_goals try (exfalso; first | omega | contradiction; done)
  all_goals (
   have hk3 : x.kind = 3 := by first | assumption | simpa using hc
   have hg : (gstep p (f + 1) a ns.length) = sidesG (gstep p f) (cdS p) (⟨7, a, [], 0, []⟩ : TGNode) ⟨8, a, [], 0, []⟩ (kids p (a : Int)) ns.length := by unfold gstep; rw [hxn, if_neg (by omega), if_neg (by omega), if_neg (by omega), if_neg (by omega), if_neg (by omega), if_neg (by omega), if_pos hk3]
   refine AW.reg tiOk (fun _ => [0]) [0,6,7] ?_
   intro k hk; simp -dsimp (maxSteps := 2000000) [go_sem, -decide_eq_true_eq, -decide_eq_false_iff_not]
   repeat' first | apply And.intro | refine hk _ ?_ | intro hg | (refine CallK.intro ((dc_spec_l6Many p hP f hS ns fs a ha hf 7 8 (by omega) (by omega))) ?_; simp -dsimp (maxSteps := 2000000) [go_sem, -decide_eq_true_eq, -decide_eq_false_iff_not]) | omega | exact True.intro
   all_goals clear hk k
   refine rt ?_
   first | (rw [hg]; simp [go_sem, Try.results72]; done) | (have hb3 : highA x.kind = 0 := (by rw [hkd]; decide); have hg : (gstep p (f + 1) a ns.length) = leafG (⟨3, a, x.name, 0, []⟩ : TGNode) ns.length := (by unfold gstep; rw [hxn, if_pos hkd]); rw [hg]; have e1 := hbr.2.1 hb3; have e2 := hbr.2.2.1 (by omega); simp [go_sem, Try.results72, leafG, lk, e1, e2]; done) | (have e1 := hbr.1 (by omega); have e2 := hbr.2.2.1 (by omega); have hg : (gstep p (f + 1) a ns.length) = leafG (⟨4, a, [], x.arg, []⟩ : TGNode) ns.length := (by unfold gstep; rw [hxn, if_neg (by omega), if_pos hkd]); rw [hg]; simp [go_sem, Try.results72, leafG, lk, e1, e2]; done) | (have e1 := hbr.1 (by omega); have e2 := hbr.2.2.1 (by omega); have hg : (gstep p (f + 1) a ns.length) = leafG (⟨5, a, [], x.arg, []⟩ : TGNode) ns.length := (by unfold gstep; rw [hxn, if_neg (by omega), if_neg (by omega), if_pos hkd]); rw [hg]; simp [go_sem, Try.results72, leafG, lk, e1, e2]; done) | (have e1 := hbr.1 (by omega); have hg : (gstep p (f + 1) a ns.length) = leafG (⟨6, a, [], x.arg, x.expr⟩ : TGNode) ns.length := (by unfold gstep; rw [hxn, if_neg (by omega), if_neg (by omega), if_neg (by omega), if_pos hkd]); rw [hg]; simp [go_sem, Try.results72, leafG, lk, e1]; done))
 ·intro hc; try simp at hc
  all_goals try (exfalso; first | omega | contradiction; done)
  all_goals (
   refine rgA [0,1,2,8,23,32] ?_
   refine AW.cond rfl ?_ ?_
   ·intro hc; try simp at hc
    all_goals try (exfalso; first | omega | contradiction; done)
    all_goals (
     have hk4 : x.kind = 4 := by first | assumption | simpa using hc
     have hg : (gstep p (f + 1) a ns.length) = sidesG (gstep p f) (cdS p) (⟨9, a, [], 0, []⟩ : TGNode) ⟨10, a, [], 0, []⟩ (kids p (a : Int)) ns.length := by unfold gstep; rw [hxn, if_neg (by omega), if_neg (by omega), if_neg (by omega), if_neg (by omega), if_neg (by omega), if_neg (by omega), if_neg (by omega)]
     refine AW.reg tiOk (fun _ => [0]) [0,6,7] ?_
     intro k hk; simp -dsimp (maxSteps := 2000000) [go_sem, -decide_eq_true_eq, -decide_eq_false_iff_not]
     repeat' first | apply And.intro | refine hk _ ?_ | intro hg | (refine CallK.intro ((dc_spec_l6Many p hP f hS ns fs a ha hf 9 10 (by omega) (by omega))) ?_; simp -dsimp (maxSteps := 2000000) [go_sem, -decide_eq_true_eq, -decide_eq_false_iff_not]) | omega | exact True.intro
     all_goals clear hk k
     refine rt ?_
     first | (rw [hg]; simp [go_sem, Try.results72]; done) | (have hb3 : highA x.kind = 0 := (by rw [hkd]; decide); have hg : (gstep p (f + 1) a ns.length) = leafG (⟨3, a, x.name, 0, []⟩ : TGNode) ns.length := (by unfold gstep; rw [hxn, if_pos hkd]); rw [hg]; have e1 := hbr.2.1 hb3; have e2 := hbr.2.2.1 (by omega); simp [go_sem, Try.results72, leafG, lk, e1, e2]; done) | (have e1 := hbr.1 (by omega); have e2 := hbr.2.2.1 (by omega); have hg : (gstep p (f + 1) a ns.length) = leafG (⟨4, a, [], x.arg, []⟩ : TGNode) ns.length := (by unfold gstep; rw [hxn, if_neg (by omega), if_pos hkd]); rw [hg]; simp [go_sem, Try.results72, leafG, lk, e1, e2]; done) | (have e1 := hbr.1 (by omega); have e2 := hbr.2.2.1 (by omega); have hg : (gstep p (f + 1) a ns.length) = leafG (⟨5, a, [], x.arg, []⟩ : TGNode) ns.length := (by unfold gstep; rw [hxn, if_neg (by omega), if_neg (by omega), if_pos hkd]); rw [hg]; simp [go_sem, Try.results72, leafG, lk, e1, e2]; done) | (have e1 := hbr.1 (by omega); have hg : (gstep p (f + 1) a ns.length) = leafG (⟨6, a, [], x.arg, x.expr⟩ : TGNode) ns.length := (by unfold gstep; rw [hxn, if_neg (by omega), if_neg (by omega), if_neg (by omega), if_pos hkd]); rw [hg]; simp [go_sem, Try.results72, leafG, lk, e1]; done))
   ·intro hc; try simp at hc
    all_goals try (exfalso; first | omega | contradiction; done)
    all_goals (
     refine rgA [0,1,2,8,23,40] ?_
     refine AW.cond rfl ?_ ?_
     ·intro hc; try simp at hc
      all_goals try (exfalso; first | omega | contradiction; done)
      all_goals (
       have hk8x : x.kind = 8 := by first | assumption | simpa using hc
       have hk8 : (kids p (a : Int)).length = 2 := by rw [hk8x] at hmn; exact kid_two hmn
       have hg : (gstep p (f + 1) a ns.length) = (guardG (gstep p f) ⟨11, a, [], (nS p a).arg, []⟩ ⟨12, a, [], 0, []⟩ ⟨13, a, [], 0, []⟩ (gI (kids p (a : Int)) 0) (gI (kids p (a : Int)) 1) ns.length) := by unfold gstep; rw [hxn, if_neg (by omega), if_neg (by omega), if_neg (by omega), if_neg (by omega), if_neg (by omega), if_pos hk8x]
       refine AW.reg tiOk (fun _ => [0]) [0,6,7] ?_
       intro k hk; simp -dsimp (maxSteps := 2000000) [go_sem, -decide_eq_true_eq, -decide_eq_false_iff_not]
       repeat' first | apply And.intro | refine hk _ ?_ | intro hg | (refine CallK.intro ((dc_spec_l6Guard p hP f hS ns fs a ha hf hk8 (by omega) (by omega))) ?_; simp -dsimp (maxSteps := 2000000) [go_sem, -decide_eq_true_eq, -decide_eq_false_iff_not]) | omega | exact True.intro
       all_goals clear hk k
       refine rt ?_
       first | (rw [hg]; simp [go_sem, Try.results72]; done) | (have hb3 : highA x.kind = 0 := (by rw [hkd]; decide); have hg : (gstep p (f + 1) a ns.length) = leafG (⟨3, a, x.name, 0, []⟩ : TGNode) ns.length := (by unfold gstep; rw [hxn, if_pos hkd]); rw [hg]; have e1 := hbr.2.1 hb3; have e2 := hbr.2.2.1 (by omega); simp [go_sem, Try.results72, leafG, lk, e1, e2]; done) | (have e1 := hbr.1 (by omega); have e2 := hbr.2.2.1 (by omega); have hg : (gstep p (f + 1) a ns.length) = leafG (⟨4, a, [], x.arg, []⟩ : TGNode) ns.length := (by unfold gstep; rw [hxn, if_neg (by omega), if_pos hkd]); rw [hg]; simp [go_sem, Try.results72, leafG, lk, e1, e2]; done) | (have e1 := hbr.1 (by omega); have e2 := hbr.2.2.1 (by omega); have hg : (gstep p (f + 1) a ns.length) = leafG (⟨5, a, [], x.arg, []⟩ : TGNode) ns.length := (by unfold gstep; rw [hxn, if_neg (by omega), if_neg (by omega), if_pos hkd]); rw [hg]; simp [go_sem, Try.results72, leafG, lk, e1, e2]; done) | (have e1 := hbr.1 (by omega); have hg : (gstep p (f + 1) a ns.length) = leafG (⟨6, a, [], x.arg, x.expr⟩ : TGNode) ns.length := (by unfold gstep; rw [hxn, if_neg (by omega), if_neg (by omega), if_neg (by omega), if_pos hkd]); rw [hg]; simp [go_sem, Try.results72, leafG, lk, e1]; done))
     ·intro hc; try simp at hc
      all_goals try (exfalso; first | omega | contradiction; done)
      all_goals (
       refine rgA [0,1,2,8,48] ?_
       refine AW.cond rfl ?_ ?_
       ·intro hc; try simp at hc
        all_goals try (exfalso; first | omega | contradiction; done)
        all_goals (
         have hk1x : x.kind = 1 := by first | assumption | simpa using hc
         have hk1 : 1 ≤ (kids p (a : Int)).length := by rw [hk1x] at hmn; exact kid_one hmn
         have hg : (gstep p (f + 1) a ns.length) = seqN (gstep p f) ns.length (kids p (a : Int)) ((kids p (a : Int)).length - 1) := by unfold gstep; rw [hxn, if_neg (by omega), if_neg (by omega), if_neg (by omega), if_neg (by omega), if_pos hk1x]
         have hne : (kids p (a : Int)) ≠ [] := List.ne_nil_of_length_pos (by omega)
         obtain ⟨u0, hu0⟩ := at_some (l := (kids p (a : Int))) (i := 0) (by omega)
         have hu03 := gel hu0
         obtain ⟨um0, hum0, w1, w2, w4, w5⟩ := hP.kid (List.mem_of_getElem? hu0)
         have hd0 : headI (kids p (a : Int)) = u0 := by unfold headI; rw [List.getD_eq_getElem?_getD, hu0]; rfl
         have hc00 : cKs p f (List.take 1 (kids p (a : Int))) = cKs p f (List.take 0 (kids p (a : Int))) + cK p f u0 := cKs_snoc hu0
         have hcl0 := cKs_le p f (kids p (a : Int)) 1
         have hce0 : cKs p f (List.take 0 (kids p (a : Int))) = 0 := rfl
         have hcall0 := hS u0 ns fs (by omega) (by omega) (by omega) (by omega) (by omega)
         obtain ⟨R0, hR0⟩ : ∃ R, seqN (gstep p f) ns.length (kids p (a : Int)) 0 = R := ⟨_, rfl⟩
         have hR1 := hR0
         rw [seq_zero, hd0] at hR1
         rw [hR1] at hcall0
         obtain ⟨N0, hN0⟩ : ∃ N, N = ns ++ R0.ns := ⟨_, rfl⟩
         obtain ⟨F0, hF0⟩ : ∃ N, N = lk fs R0.fs := ⟨_, rfl⟩
         rw [← hN0, ← hF0] at hcall0
         refine rg [0,1,9] ?_
         intro k hk; simp -dsimp (maxSteps := 2000000) [go_sem, -decide_eq_true_eq, -decide_eq_false_iff_not]
         repeat' first | apply And.intro | refine hk _ ?_ | intro hg | (refine CallK.intro (dc_spec_l4Kids p (a : Int) hp (by rw [hP.par0]; omega)) ?_; simp -dsimp (maxSteps := 2000000) [go_sem, -decide_eq_true_eq, -decide_eq_false_iff_not]) | omega | exact True.intro
         all_goals clear hk k
         refine AW.reg tiOk (fun _ => [0]) [0,1,9,10,11] ?_
         intro k hk; simp -dsimp (maxSteps := 2000000) [go_sem, -decide_eq_true_eq, -decide_eq_false_iff_not, hu0, hu03]
         repeat' first | apply And.intro | refine hk _ ?_ | intro hg | (refine CallK.intro (hcall0) ?_; simp -dsimp (maxSteps := 2000000) [go_sem, -decide_eq_true_eq, -decide_eq_false_iff_not, hu0, hu03]) | omega | exact True.intro
         all_goals clear hk k
         refine AW.seq ?_
         refine rgA [0,1,9,10,11,12] ?_
         refine AW.block ?_
         refine AW.loopI (fun q : Nat × Nat × List TGNode × List TFlow => ⟨113, [(0, .ptr 1900 2 0 0), (1, .isl 6 (p.map TStep.ro)), (9, .sl 1052 1 0 (kids p (a : Int)).length), (10, .int .i64 (seqN (gstep p f) ns.length (kids p (a : Int)) q.1).en), (11, .int .i64 (seqN (gstep p f) ns.length (kids p (a : Int)) q.1).lv), (12, .int .i64 (q.2.1 : Nat))], [(1052, some ⟨1, (kids p (a : Int)).map I1⟩), (1900, some ⟨2, [grw q.2.2.1 q.2.2.2]⟩)]⟩) (fun q => q.1 ≤ (kids p (a : Int)).length - 1 ∧ q.2.1 = q.1 + 1 ∧ q.2.2.1 = ns ++ (seqN (gstep p f) ns.length (kids p (a : Int)) q.1).ns ∧ q.2.2.2 = lk fs (seqN (gstep p f) ns.length (kids p (a : Int)) q.1).fs) (fun q => (kids p (a : Int)).length - 1 - q.1) ((0, 1, N0, F0)) (⟨Nat.zero_le _, rfl, by simp only; rw [hR0]; exact hN0, by simp only; rw [hR0]; exact hF0⟩) (Less.of rfl (by simp [go_sem, hR0]) (by simp [go_sem, hR0])) ?_
         rintro ⟨i, e, N1, F1⟩ ⟨hi, he, hN1, hF1⟩
         simp only at hi he hN1 hF1
         refine AW.seq ?_
         refine rg [0,1,9,10,11,12,65] ?_
         intro k hk; simp -dsimp [go_sem, -decide_eq_true_eq, -decide_eq_false_iff_not, hu0]
         repeat' first | apply And.intro | refine hk _ ?_ | intro hg | omega | exact True.intro
         all_goals clear hk k
         refine AW.cond rfl ?_ ?_
         ·intro hc; try simp at hc
          all_goals try (exfalso; first | omega | contradiction; done)
          all_goals (
           have hlt : e < (kids p (a : Int)).length := by first | assumption | omega
           obtain ⟨u, hu⟩ := at_some (l := (kids p (a : Int))) (i := e) hlt
           have hu3 := gel hu
           have hu9 : (kids p (a : Int))[i + 1]? = some u := by rw [← he]; exact hu
           obtain ⟨um, hum, hu1, hu2, hu4, hu5⟩ := hP.kid (List.mem_of_getElem? hu)
           have hf1 := seq_few (n := ns.length) hne hfw i (by omega)
           have hc1 := cKs_snoc (p := p) (f := f) hu9
           have hc2 := cKs_le p f (kids p (a : Int)) (i + 1 + 1)
           have hpz := cK_pos p f u
           have hNl : N1.length = ns.length + (seqN (gstep p f) ns.length (kids p (a : Int)) i).ns.length := by rw [hN1, List.length_append]
           have hFl : F1.length = fs.length + (seqN (gstep p f) ns.length (kids p (a : Int)) i).fs.length := by rw [hF1, lk_len]
           have hcall := hS u N1 F1 (by omega) (by omega) (by omega) (by omega) (by omega)
           have hsq := seq_succ (g := gstep p f) (n := ns.length) hu9
           rw [hNl] at hcall
           obtain ⟨R, hR⟩ : ∃ R, gstep p f u.toNat (ns.length + (seqN (gstep p f) ns.length (kids p (a : Int)) i).ns.length) = R := ⟨_, rfl⟩
           have hfR := hfw u (List.mem_of_getElem? hu) (ns.length + (seqN (gstep p f) ns.length (kids p (a : Int)) i).ns.length)
           unfold seqF at hsq
           rw [hR] at hcall hsq hfR
           obtain ⟨N2, hN2⟩ : ∃ N, N = N1 ++ R.ns := ⟨_, rfl⟩
           obtain ⟨F2, hF2⟩ : ∃ N, N = lk F1 R.fs := ⟨_, rfl⟩
           rw [← hN2, ← hF2] at hcall
           have hfn := dc_link_n N2 F2 (by rw [hF2, lk_len]; omega) (seqN (gstep p f) ns.length (kids p (a : Int)) i).lv R.en
           obtain ⟨F3, hF3⟩ : ∃ N, N = putK TFlow.frm F2 (⟨(seqN (gstep p f) ns.length (kids p (a : Int)) i).lv, R.en, []⟩ : TFlow) := ⟨_, rfl⟩
           rw [← hF3] at hfn
           refine AW.skipN (fun _ h => h) ?_
           refine AW.seq ?_
           refine AW.block ?_
           refine AW.reg tiOk (fun _ => [0]) [0,1,9,10,11,12,13,14] ?_
           intro k hk; simp -dsimp (maxSteps := 2000000) [go_sem, -decide_eq_true_eq, -decide_eq_false_iff_not, hu, hu3]
           repeat' first | apply And.intro | refine hk _ ?_ | intro hg | (refine CallK.intro (hcall) ?_; simp -dsimp (maxSteps := 2000000) [go_sem, -decide_eq_true_eq, -decide_eq_false_iff_not, hu, hu3]) | omega | exact True.intro
           all_goals clear hk k
           refine AW.reg tiOk (fun _ => [0]) [0,1,9,10,12,14] ?_
           intro k hk; simp -dsimp (maxSteps := 2000000) [go_sem, -decide_eq_true_eq, -decide_eq_false_iff_not]
           repeat' first | apply And.intro | refine hk _ ?_ | intro hg | (refine CallK.intro (hfn) ?_; simp -dsimp (maxSteps := 2000000) [go_sem, -decide_eq_true_eq, -decide_eq_false_iff_not]) | omega | exact True.intro
           all_goals clear hk k
           refine rgNA [0,1,9,10,11,12] (fun _ h => h) ?_
           refine rgKA ?_
           show ∃ _, _
           have hww : IntKind.wrap .i64 ((e : Int) + 1) = (e : Int) + 1 := wrap64 (by omega) (by omega)
           refine ⟨(i + 1, e + 1, N2, F3), ⟨by simp only; omega, by simp only; omega, by simp only; rw [hsq, hN2, hN1]; simp, by simp only; rw [hsq, lk_app, lk_app, ← hF1, ← hF2, hF3]; rfl⟩, by simp only; omega, Less.of rfl (by simp [go_sem, hww, hsq]) (by simp [go_sem, hsq])⟩)
         ·intro hc; try simp at hc
          all_goals try (exfalso; first | omega | contradiction; done)
          all_goals (
           refine AW.exitN (fun _ h => h) ?_
           obtain rfl : i = (kids p (a : Int)).length - 1 := by omega
           subst hN1 hF1
           refine rgA [0,6,7] ?_
           refine rt ?_
           first | (rw [hg]; simp [go_sem, Try.results72]; done) | (have hb3 : highA x.kind = 0 := (by rw [hkd]; decide); have hg : (gstep p (f + 1) a ns.length) = leafG (⟨3, a, x.name, 0, []⟩ : TGNode) ns.length := (by unfold gstep; rw [hxn, if_pos hkd]); rw [hg]; have e1 := hbr.2.1 hb3; have e2 := hbr.2.2.1 (by omega); simp [go_sem, Try.results72, leafG, lk, e1, e2]; done) | (have e1 := hbr.1 (by omega); have e2 := hbr.2.2.1 (by omega); have hg : (gstep p (f + 1) a ns.length) = leafG (⟨4, a, [], x.arg, []⟩ : TGNode) ns.length := (by unfold gstep; rw [hxn, if_neg (by omega), if_pos hkd]); rw [hg]; simp [go_sem, Try.results72, leafG, lk, e1, e2]; done) | (have e1 := hbr.1 (by omega); have e2 := hbr.2.2.1 (by omega); have hg : (gstep p (f + 1) a ns.length) = leafG (⟨5, a, [], x.arg, []⟩ : TGNode) ns.length := (by unfold gstep; rw [hxn, if_neg (by omega), if_neg (by omega), if_pos hkd]); rw [hg]; simp [go_sem, Try.results72, leafG, lk, e1, e2]; done) | (have e1 := hbr.1 (by omega); have hg : (gstep p (f + 1) a ns.length) = leafG (⟨6, a, [], x.arg, x.expr⟩ : TGNode) ns.length := (by unfold gstep; rw [hxn, if_neg (by omega), if_neg (by omega), if_neg (by omega), if_pos hkd]); rw [hg]; simp [go_sem, Try.results72, leafG, lk, e1]; done)))
       ·intro hc; try simp at hc
        all_goals try (exfalso; first | omega | contradiction; done)
        all_goals (
         refine AW.skipN (fun _ h => h) ?_
         have hk4 : x.kind = 2 ∨ x.kind = 5 ∨ x.kind = 6 ∨ x.kind = 7 := by omega
         rcases hk4 with hkd | hkd | hkd | hkd
         all_goals (
          refine rg [0,2,8,15] ?_
          intro k hk; simp -dsimp (maxSteps := 2000000) [go_sem, -decide_eq_true_eq, -decide_eq_false_iff_not, hkd]
          repeat' first | apply And.intro | refine hk _ ?_ | intro hg | omega | exact True.intro
          all_goals clear hk k
          refine AW.reg tiOk (fun i => if i = 18 then [0, 1] else []) [0,16] ?_
          intro k hk; simp -dsimp (maxSteps := 2000000) [go_sem, -decide_eq_true_eq, -decide_eq_false_iff_not, hkd]
          repeat' first | ((refine Chk.keys ?_); simp only [go_sem, List.map_cons, List.map_nil, List.flatMap_cons, List.flatMap_nil, List.flatMap_append, List.append_nil, List.nil_append, List.cons_append]; decide +kernel) | apply And.intro | refine hk _ ?_ | intro hg | ((first | refine CallK.intro ((dc_spec_l6Node_o ns fs 3 (a : Int) x.arg x.name x.expr (by omega))) ?_ | refine CallK.intro ((dc_spec_l6Node_o ns fs 4 (a : Int) x.arg x.name x.expr (by omega))) ?_ | refine CallK.intro ((dc_spec_l6Node_o ns fs 5 (a : Int) x.arg x.name x.expr (by omega))) ?_ | refine CallK.intro ((dc_spec_l6Node_o ns fs 6 (a : Int) x.arg x.name x.expr (by omega))) ?_); simp -dsimp (maxSteps := 2000000) [go_sem, -decide_eq_true_eq, -decide_eq_false_iff_not, hkd]) | omega | exact True.intro
          all_goals clear hk k
          refine rgA [0,6,7] ?_
          refine rt ?_
          first | (rw [hg]; simp [go_sem, Try.results72]; done) | (have hb3 : highA x.kind = 0 := (by rw [hkd]; decide); have hg : (gstep p (f + 1) a ns.length) = leafG (⟨3, a, x.name, 0, []⟩ : TGNode) ns.length := (by unfold gstep; rw [hxn, if_pos hkd]); rw [hg]; have e1 := hbr.2.1 hb3; have e2 := hbr.2.2.1 (by omega); simp [go_sem, Try.results72, leafG, lk, e1, e2]; done) | (have e1 := hbr.1 (by omega); have e2 := hbr.2.2.1 (by omega); have hg : (gstep p (f + 1) a ns.length) = leafG (⟨4, a, [], x.arg, []⟩ : TGNode) ns.length := (by unfold gstep; rw [hxn, if_neg (by omega), if_pos hkd]); rw [hg]; simp [go_sem, Try.results72, leafG, lk, e1, e2]; done) | (have e1 := hbr.1 (by omega); have e2 := hbr.2.2.1 (by omega); have hg : (gstep p (f + 1) a ns.length) = leafG (⟨5, a, [], x.arg, []⟩ : TGNode) ns.length := (by unfold gstep; rw [hxn, if_neg (by omega), if_neg (by omega), if_pos hkd]); rw [hg]; simp [go_sem, Try.results72, leafG, lk, e1, e2]; done) | (have e1 := hbr.1 (by omega); have hg : (gstep p (f + 1) a ns.length) = leafG (⟨6, a, [], x.arg, x.expr⟩ : TGNode) ns.length := (by unfold gstep; rw [hxn, if_neg (by omega), if_neg (by omega), if_neg (by omega), if_pos hkd]); rw [hg]; simp [go_sem, Try.results72, leafG, lk, e1]; done))))))

theorem dc_gstep_spec (p : List TStep) (hP : ProcOk p) : ∀ f : Nat, ∀ (k : Int) (ns : List TGNode) (fs : List TFlow), 0 ≤ k → k.toNat < p.length → p.length ≤ k.toNat + f → ns.length + 3 * cK p f k ≤ 400 → fs.length + 5 * cK p f k ≤ 400 → DC Try.prog 72 [.op (grw ns fs), .isl 6 (p.map TStep.ro), .int .i64 k] (.tup [.int .i64 (gstep p f k.toNat ns.length).en, .int .i64 (gstep p f k.toNat ns.length).lv]) [(0, .op (grw (ns ++ (gstep p f k.toNat ns.length).ns) (lk fs (gstep p f k.toNat ns.length).fs)))] := by
 intro f
 induction f with
 | zero => intro k ns fs h0 h1 h2; omega
 | succ f ih =>
  intro k ns fs h0 h1 h2 h3 h4
  obtain ⟨a, rfl⟩ : ∃ a : Nat, k = a := ⟨_, (Int.toNat_of_nonneg h0).symm⟩
  rw [Int.toNat_natCast] at h1 h2 ⊢
  exact dc_spec_l6Step p hP f ih ns fs a h1 (by omega) h3 h4

end Go.AM
namespace Go.AM
open Go.Proofs

set_option maxHeartbeats 8000000 in
/-- spec.l6Graph -/
theorem dc_spec_l6Graph (p : List TStep) (hP : ProcOk p) : DC Try.prog 42 [.isl 6 (p.map TStep.ro)] (.agg [.osl 5 ((gNs p).map TGNode.oc), .osl 3 ((srt TFlow.frm (gFl p)).map TFlow.oc)]) [] := by
 have hp := hP.len
 have hfw := gTop_few hP
 have hcp := (grow_ok hP).1
 have hck : cK p p.length 0 ≤ 24 := hcp
 obtain ⟨R, hR⟩ : ∃ N, N = gTop p := ⟨_, rfl⟩
 rw [← hR] at hfw
 have hn0 := dc_spec_l6Node_z [] [] 1 0 0 [] (by simp)
 obtain ⟨N0, hN0⟩ : ∃ N, N = ([] : List TGNode) ++ [(⟨1, 0, [], 0, []⟩ : TGNode)] := ⟨_, rfl⟩
 rw [← hN0] at hn0
 have l0 : N0.length = 1 := by rw [hN0]; rfl
 have hs0 := dc_gstep_spec p hP p.length 0 N0 [] (by omega) (by simp; omega) (by simp) (by omega) (by simp; omega)
 rw [l0] at hs0
 have hRt : gstep p p.length (0 : Int).toNat 1 = R := by rw [hR]; rfl
 rw [hRt] at hs0
 obtain ⟨N1, hN1⟩ : ∃ N, N = N0 ++ R.ns := ⟨_, rfl⟩
 obtain ⟨F1, hF1⟩ : ∃ N, N = lk [] R.fs := ⟨_, rfl⟩
 rw [← hN1, ← hF1] at hs0
 have l1 : N1.length = 1 + R.ns.length := by rw [hN1, List.length_append, l0]
 have m1 : F1.length = R.fs.length := by rw [hF1, lk_len]; simp
 have hn1 := dc_spec_l6Node_z N1 F1 2 0 0 [] (by omega)
 obtain ⟨N2, hN2⟩ : ∃ N, N = N1 ++ [(⟨2, 0, [], 0, []⟩ : TGNode)] := ⟨_, rfl⟩
 rw [← hN2] at hn1
 have hq0 := dc_link_n N2 F1 (by omega) 0 R.en
 obtain ⟨F2, hF2⟩ : ∃ N, N = putK TFlow.frm F1 (⟨0, R.en, []⟩ : TFlow) := ⟨_, rfl⟩
 rw [← hF2] at hq0
 have m2 : F2.length = F1.length + 1 := by rw [hF2, ← lk_one, lk_len]; rfl
 have hq1 := dc_link_n N2 F2 (by omega) R.lv (N1.length : Nat)
 obtain ⟨F3, hF3⟩ : ∃ N, N = putK TFlow.frm F2 (⟨R.lv, (N1.length : Nat), []⟩ : TFlow) := ⟨_, rfl⟩
 rw [← hF3] at hq1
 have m3 : F3.length = F2.length + 1 := by rw [hF3, ← lk_one, lk_len]; rfl
 have hgn : gNs p = N2 := by unfold gNs; rw [hN2, hN1, hN0, ← hR]; simp
 have hgf : srt TFlow.frm (gFl p) = F3 := by rw [← lk_srt]; unfold gFl; rw [lk_app, lk_app, ← hR, ← hF1, hF3, hF2, l1]; rfl
 rw [hgn, hgf]
 have hne2 : nlc 5 (N2.map TGNode.oc) = .osl 5 (N2.map TGNode.oc) := nlc_map (by rw [hN2]; simp) 5
 have hne3 : nlc 3 (F3.map TFlow.oc) = .osl 3 (F3.map TFlow.oc) := nlc_map (by intro e; rw [e] at m3; simp at m3) 3
 refine DC.intro tiOk Try.func42 rfl rfl rfl rfl rfl rfl rfl rfl [1000] ?_
 refine rgA [0,2] ?_
 refine rgA [0,2,3] ?_
 refine AW.reg tiOk (fun _ => [0]) [0,2,3,4] ?_
 intro k hk; simp -dsimp (maxSteps := 2000000) [go_sem, -decide_eq_true_eq, -decide_eq_false_iff_not]
 repeat' first | apply And.intro | refine hk _ ?_ | intro hg | (refine CallK.intro (hn0) ?_; simp -dsimp (maxSteps := 2000000) [go_sem, -decide_eq_true_eq, -decide_eq_false_iff_not]) | omega | exact True.intro
 all_goals clear hk k
 refine AW.reg tiOk (fun _ => [0]) [2,3,4,5,6] ?_
 intro k hk; simp -dsimp (maxSteps := 2000000) [go_sem, -decide_eq_true_eq, -decide_eq_false_iff_not]
 repeat' first | apply And.intro | refine hk _ ?_ | intro hg | (refine CallK.intro (hs0) ?_; simp -dsimp (maxSteps := 2000000) [go_sem, -decide_eq_true_eq, -decide_eq_false_iff_not]) | omega | exact True.intro
 all_goals clear hk k
 refine AW.reg tiOk (fun _ => [0]) [2,3,4,5,6,7] ?_
 intro k hk; simp -dsimp (maxSteps := 2000000) [go_sem, -decide_eq_true_eq, -decide_eq_false_iff_not]
 repeat' first | apply And.intro | refine hk _ ?_ | intro hg | (refine CallK.intro (hn1) ?_; simp -dsimp (maxSteps := 2000000) [go_sem, -decide_eq_true_eq, -decide_eq_false_iff_not]) | omega | exact True.intro
 all_goals clear hk k
 refine AW.reg tiOk (fun _ => [0]) [2,3,6,7] ?_
 intro k hk; simp -dsimp (maxSteps := 2000000) [go_sem, -decide_eq_true_eq, -decide_eq_false_iff_not]
 repeat' first | apply And.intro | refine hk _ ?_ | intro hg | (refine CallK.intro (hq0) ?_; simp -dsimp (maxSteps := 2000000) [go_sem, -decide_eq_true_eq, -decide_eq_false_iff_not]) | omega | exact True.intro
 all_goals clear hk k
 refine AW.reg tiOk (fun _ => [0]) [2,3] ?_
 intro k hk; simp -dsimp (maxSteps := 2000000) [go_sem, -decide_eq_true_eq, -decide_eq_false_iff_not]
 repeat' first | apply And.intro | refine hk _ ?_ | intro hg | (refine CallK.intro (hq1) ?_; simp -dsimp (maxSteps := 2000000) [go_sem, -decide_eq_true_eq, -decide_eq_false_iff_not]) | omega | exact True.intro
 all_goals clear hk k
 rw [hne2, hne3]
 refine AW.thaw 3 0 0 7001 rfl rfl rfl (by simp [go_sem]) ?_
 refine AW.thaw 3 0 1 7002 rfl rfl rfl (by simp [go_sem]) ?_
 refine rgA [2] ?_
 refine rt ?_
 simp [go_sem, Try.results42]

end Go.AM
namespace Go.AM
open Go.Proofs

/-- spec.l4Deep -/
theorem dc_spec_l4Deep (p : List TStep) (hp : p.length ≤ 24) (m : Nat) (hm : m ≤ p.length) (hl : ParOk ((pars p).take m)) (a : Int) (ha : -1 ≤ a ∧ a < m) : DC Try.prog 82 [.isl 6 (p.map TStep.ro), .int .i64 a] (.int .i64 (dep ((pars p).take m) a)) [] := by
 have hL : ((pars p).take m).length = m := take_len hm
 have hd1 := dep_small hl (a := a) (by omega)
 refine DC.intro tiOk Try.func82 rfl rfl rfl rfl rfl rfl rfl rfl [] ?_
 refine rgA [0,1] ?_
 refine rgA [0,1,5] ?_
 refine AW.seq ?_
 refine AW.block ?_
 refine AW.loopI (fun j : Int × Int => ⟨20, [(0, .isl 6 (p.map TStep.ro)), (1, .int .i64 j.1), (5, .int .i64 j.2)], []⟩) (fun j => -1 ≤ j.1 ∧ j.1 < m ∧ j.2 + dep ((pars p).take m) j.1 = dep ((pars p).take m) a ∧ 0 ≤ j.2) (fun j => (j.1 + 1).toNat) ((a, 0)) (by refine ⟨by simp only; omega, by simp only; omega, by simp only; omega, by simp only; omega⟩) (Less.of rfl (by simp [go_sem]) (by simp [go_sem])) ?_
 rintro ⟨b, n⟩ ⟨hb1, hb2, hinv, hn0⟩
 simp only at hb1 hb2 hinv hn0
 have hd2 := dep_small hl (a := b) (by omega)
 have hn50 : n < 50 := by omega
 refine AW.seq ?_
 refine AW.cut ⟨20, [(0, .isl 6 (p.map TStep.ro)), (1, .int .i64 b), (5, .int .i64 n), (11, .bool (decide (0 ≤ b)))], []⟩ ?_ ?_
 ·skip
  refine rgK ?_
  intro k hk; simp +contextual -dsimp [go_sem, -decide_eq_true_eq, -decide_eq_false_iff_not]
  repeat' first | apply And.intro | refine hk _ ?_ | (intro hg; try simp only [decide_eq_true_eq, decide_eq_false_iff_not] at hg) | omega | exact True.intro
  all_goals clear hk k
  all_goals (show St.Less _ _; exact Less.of rfl (by simp [go_sem] <;> first | omega | grind) (by simp [go_sem]))
 ·skip
  refine AW.cond rfl ?_ ?_
  ·intro hc; try simp at hc
   all_goals try (exfalso; omega; done)
   all_goals (
    have h0 : 0 ≤ b := by simpa using hc
    obtain ⟨k, hk⟩ : ∃ k : Nat, b = k := ⟨_, (Int.toNat_of_nonneg h0).symm⟩
    subst hk
    obtain ⟨x, hx⟩ := at_some (l := p) (show k < p.length by omega)
    have hpk := hl k (by omega)
    have hpa := pars_at hx (m := m) (by omega)
    rw [hpa] at hpk
    have hde := dep_eq hl h0 (by omega)
    rw [Int.toNat_natCast, hpa] at hde
    have hwn : IntKind.wrap .i64 (n + 1) = n + 1 := wrap64 (by omega) (by omega)
    refine AW.skipN (fun _ h => h) ?_
    refine AW.block ?_
    refine rg [0,1,5] ?_
    intro k hk; simp -dsimp [go_sem, -decide_eq_true_eq, -decide_eq_false_iff_not, hx, hwn]
    repeat' first | apply And.intro | refine hk _ ?_ | intro hg | omega | exact True.intro
    all_goals clear hk k
    refine rgK ?_
    intro k hk; simp -dsimp [go_sem, -decide_eq_true_eq, -decide_eq_false_iff_not, hx, hwn]
    repeat' first | apply And.intro | refine hk _ ?_ | intro hg | omega | exact True.intro
    all_goals clear hk k
    show ∃ _, _
    refine ⟨(x.par, n + 1), ⟨by simp only; omega, by simp only; omega, by simp only; omega, by simp only; omega⟩, by simp only; omega, Less.of rfl (by simp [go_sem]) (by simp [go_sem])⟩)
  ·intro hc; try simp at hc
   all_goals try (exfalso; omega; done)
   all_goals (
    refine AW.exitN (fun _ h => h) ?_
    refine rgA [4] ?_
    refine rt ?_
    have hbn : b < 0 := (by simpa using hc)
    rw [dep_neg hbn] at hinv
    rw [← hinv]
    simp [go_sem, Try.results82])

/-- spec.l4Line -/
theorem dc_spec_l4Line (p : List TStep) (hp : p.length ≤ 24) (i : Nat) (x : TStep) (hx : p[i]? = some x) (h0 : 0 < i) (hl : ParOk ((pars p).take i)) : DC Try.prog 81 [.isl 6 (p.map TStep.ro), .int .i64 (i : Nat)] (.bool (upB ((pars p).take i) ((i : Int) - 1) x.par)) [] := by
 have hi := at_lt hx
 have hL : ((pars p).take i).length = i := take_len (by omega)
 have hwi : IntKind.wrap .i64 ((i : Int) - 1) = (i : Int) - 1 := wrap64 (by omega) (by omega)
 refine DC.intro tiOk Try.func81 rfl rfl rfl rfl rfl rfl rfl rfl [] ?_
 refine rg [0,1] ?_
 intro k hk; simp -dsimp [go_sem, -decide_eq_true_eq, -decide_eq_false_iff_not, hx, hwi]
 repeat' first | apply And.intro | refine hk _ ?_ | intro hg | omega | exact True.intro
 all_goals clear hk k
 refine AW.seq ?_
 refine rg [0,1,5] ?_
 intro k hk; simp -dsimp [go_sem, -decide_eq_true_eq, -decide_eq_false_iff_not, hx, hwi]
 repeat' first | apply And.intro | refine hk _ ?_ | intro hg | omega | exact True.intro
 all_goals clear hk k
 refine AW.block ?_
 refine AW.loopI (fun a : Int => ⟨22, [(0, .isl 6 (p.map TStep.ro)), (1, .int .i64 (i : Nat)), (5, .int .i64 a)], []⟩) (fun a => -1 ≤ a ∧ a < i ∧ upB ((pars p).take i) a x.par = upB ((pars p).take i) ((i : Int) - 1) x.par) (fun a => (a + 1).toNat) ((i : Int) - 1) (by refine ⟨by omega, by omega, rfl⟩) (Less.of rfl (by simp [go_sem]) (by simp [go_sem])) ?_
 rintro a ⟨ha0, ha1, hinv⟩
 refine AW.seq ?_
 refine rg [0,1,5,9] ?_
 intro k hk; simp -dsimp [go_sem, -decide_eq_true_eq, -decide_eq_false_iff_not, hx, hwi]
 repeat' first | apply And.intro | refine hk _ ?_ | intro hg | omega | exact True.intro
 all_goals clear hk k
 refine AW.cond rfl ?_ ?_
 ·intro hc; try simp at hc
  all_goals (
   have h0a : 0 ≤ a := by simpa using hc
   obtain ⟨k, hk⟩ : ∃ k : Nat, a = k := ⟨_, (Int.toNat_of_nonneg h0a).symm⟩
   subst hk
   obtain ⟨y, hy⟩ := at_some (l := p) (show k < p.length by omega)
   have hpk := hl k (by omega)
   have hpa := pars_at hy (m := i) (by omega)
   rw [hpa] at hpk
   refine AW.skipN (fun _ h => h) ?_
   refine AW.seq ?_
   refine AW.block ?_
   refine rg [0,1,5,21] ?_
   intro k hk; simp -dsimp (maxSteps := 2000000) [go_sem, -decide_eq_true_eq, -decide_eq_false_iff_not, hx, hwi, hy]
   repeat' first | apply And.intro | refine hk _ ?_ | intro hg | omega | exact True.intro
   all_goals clear hk k
   refine AW.cond rfl ?_ ?_
   ·intro hc; try simp at hc
    all_goals (
     refine rg [4] ?_
     intro k hk; simp -dsimp [go_sem, -decide_eq_true_eq, -decide_eq_false_iff_not, hx, hwi, hy]
     repeat' first | apply And.intro | refine hk _ ?_ | intro hg | omega | exact True.intro
     all_goals clear hk k
     refine rt ?_
     first | (have hu : upB ((pars p).take i) ((i : Int) - 1) x.par = true := (by rw [← hinv, upB_eq hl h0a (by omega), if_pos (by first | assumption | simpa using hc)]); simp [go_sem, Try.results81, hu]; done) | (have hu : upB ((pars p).take i) ((i : Int) - 1) x.par = false := (by rw [← hinv]; exact upB_neg (by omega)); simp [go_sem, Try.results81, hu]))
   ·intro hc; try simp at hc
    all_goals (
     refine AW.skipN (fun _ h => h) ?_
     refine rgK ?_
     intro k hk; simp -dsimp [go_sem, -decide_eq_true_eq, -decide_eq_false_iff_not, hx, hwi, hy]
     repeat' first | apply And.intro | refine hk _ ?_ | intro hg | omega | exact True.intro
     all_goals clear hk k
     show ∃ _, _
     refine ⟨y.par, ⟨by omega, by omega, ?_⟩, by omega, Less.of rfl (by simp [go_sem]) (by simp [go_sem])⟩
     rw [← hinv, upB_eq hl h0a (by omega), if_neg (by first | assumption | simpa using hc), Int.toNat_natCast, hpa]))
 ·intro hc; try simp at hc
  all_goals (
   refine AW.exitN (fun _ h => h) ?_
   refine rg [4] ?_
   intro k hk; simp -dsimp [go_sem, -decide_eq_true_eq, -decide_eq_false_iff_not, hx, hwi]
   repeat' first | apply And.intro | refine hk _ ?_ | intro hg | omega | exact True.intro
   all_goals clear hk k
   refine rt ?_
   first | (have hu : upB ((pars p).take i) ((i : Int) - 1) x.par = true := (by rw [← hinv, upB_eq hl h0a (by omega), if_pos (by first | assumption | simpa using hc)]); simp [go_sem, Try.results81, hu]; done) | (have hu : upB ((pars p).take i) ((i : Int) - 1) x.par = false := (by rw [← hinv]; exact upB_neg (by omega)); simp [go_sem, Try.results81, hu]))

end Go.AM
namespace Go.AM
open Go.Proofs

/-- spec.l3Walk -/
theorem dc_spec_l3Walk_n (e : List TNode) (hP : PartsOk e e.length) (h16 : e.length ≤ 16) (i : Nat) (hi : i < e.length) (ihn : ∀ j : Nat, j < i → DC Try.prog 110 [.isl 4 (e.map TNode.ro), .int .i64 ((j : Nat) : Int), .nils] (.osl 1 ((wkF e j []).map N1)) []) (iho : ∀ j : Nat, j < i → ∀ out : List Nat, out.length ≤ 40 → DC Try.prog 110 [.isl 4 (e.map TNode.ro), .int .i64 ((j : Nat) : Int), .osl 1 (out.map N1)] (.osl 1 ((wkF e j out).map N1)) []) : DC Try.prog 110 [.isl 4 (e.map TNode.ro), .int .i64 ((i : Nat) : Int), .nils] (.osl 1 ((wkF e i []).map N1)) [] := by
 obtain ⟨x, hx⟩ := at_some hi
 have hxA := nA_at hx
 have hpx := hP i hi
 rw [nodeAt_at hx] at hpx
 have hq := nodeF_parts hpx
 refine DC.intro tiOk Try.func110 rfl rfl rfl rfl rfl rfl rfl rfl [1000] ?_
 refine rg [0,1,2] ?_
 intro k hk; simp -dsimp [go_sem, -decide_eq_true_eq, -decide_eq_false_iff_not, hx, hxA]
 repeat' first | apply And.intro | refine hk _ ?_ | intro hg | omega | exact True.intro
 all_goals clear hk k
 refine AW.seq ?_
 refine rg [0,1,2,9] ?_
 intro k hk; simp -dsimp [go_sem, -decide_eq_true_eq, -decide_eq_false_iff_not, hx, hxA]
 repeat' first | apply And.intro | refine hk _ ?_ | intro hg | omega | exact True.intro
 all_goals clear hk k
 refine AW.cond rfl ?_ ?_
 ·intro hc; try simp at hc
  all_goals try (exfalso; first | omega | (have hk9 := inR_iff.1 hc; omega); done)
  all_goals (
   refine rg [6] ?_
   intro k hk; simp -dsimp [go_sem, -decide_eq_true_eq, -decide_eq_false_iff_not, hx, hxA]
   repeat' first | apply And.intro | refine hk _ ?_ | intro hg | omega | exact True.intro
   all_goals clear hk k
   refine rt ?_
   rw [wkF_eq hP hi]; (try (first | rw [if_neg (show ¬ 16 < out.length by omega)] | rw [if_pos (show 16 < out.length by omega)])); simp [go_sem, Try.results110, *] <;> first | (intro h9; omega) | (simp_all; done) | omega | grind)
 ·intro hc; try simp at hc
  all_goals try (exfalso; first | omega | (have hk9 := inR_iff.1 hc; omega); done)
  all_goals (
   refine AW.skipN (fun _ h => h) ?_
   refine AW.seq ?_
   refine rg [0,1,2,16] ?_
   intro k hk; simp -dsimp [go_sem, -decide_eq_true_eq, -decide_eq_false_iff_not, hx, hxA]
   repeat' first | apply And.intro | refine hk _ ?_ | intro hg | omega | exact True.intro
   all_goals clear hk k
   refine AW.cond rfl ?_ ?_
   ·intro hc; try simp at hc
    all_goals try (exfalso; first | omega | (have hk9 := inR_iff.1 hc; omega); done)
    all_goals (
     have hk0 : 2 < x.kind := by simpa using hc
     have hl := left_of hpx hk0
     obtain ⟨a, ha⟩ : ∃ a : Nat, x.left = a := ⟨_, (Int.toNat_of_nonneg hl.1).symm⟩
     have hla : x.left.toNat = a := by omega
     have hwa := wkF_len (e := e) (i := a) (out := []) (by first | assumption | simp) (by omega)
     refine AW.regN tiOk (fun i => if i = 7 then [2] else []) [0,1,2] (fun _ h => h) ?_
     intro k hk; simp -dsimp (maxSteps := 2000000) [go_sem, -decide_eq_true_eq, -decide_eq_false_iff_not, hx, hxA, ha]
     repeat' first | apply And.intro | refine hk _ ?_ | intro hg | ((first | refine CallK.intro (ihn a (by omega)) ?_ | refine CallK.intro (iho b (by omega) _ hwa) ?_); simp -dsimp (maxSteps := 2000000) [go_sem, -decide_eq_true_eq, -decide_eq_false_iff_not, hx, hxA, ha]) | omega | exact True.intro
     all_goals clear hk k
     refine AW.seq ?_
     refine rg [0,1,2,30] ?_
     intro k hk; simp -dsimp (maxSteps := 2000000) [go_sem, -decide_eq_true_eq, -decide_eq_false_iff_not, hx, hxA]
     repeat' first | apply And.intro | refine hk _ ?_ | intro hg | (refine CallK.intro (dc_spec_l3Two _) ?_; simp -dsimp (maxSteps := 2000000) [go_sem, -decide_eq_true_eq, -decide_eq_false_iff_not, hx, hxA]) | omega | exact True.intro
     all_goals clear hk k
     refine AW.cond rfl ?_ ?_
     ·intro hc; try simp at hc
      all_goals try (exfalso; first | omega | (have hk9 := inR_iff.1 hc; omega); done)
      all_goals (
       have hk2 : isTwoB x.kind = true := by simpa using hc
       have hr := hq.2.1 hk2
       have hk3 := inR_iff.1 hk2
       obtain ⟨b, hb⟩ : ∃ b : Nat, x.right = b := ⟨_, (Int.toNat_of_nonneg hr.2.2.1).symm⟩
       have hrb : x.right.toNat = b := by omega
       refine AW.regN tiOk (fun i => if i = 7 then [2] else []) [1,2] (fun _ h => h) ?_
       intro k hk; simp -dsimp (maxSteps := 2000000) [go_sem, -decide_eq_true_eq, -decide_eq_false_iff_not, hx, hxA, hb]
       repeat' first | apply And.intro | refine hk _ ?_ | intro hg | ((first | refine CallK.intro (ihn a (by omega)) ?_ | refine CallK.intro (iho b (by omega) _ hwa) ?_); simp -dsimp (maxSteps := 2000000) [go_sem, -decide_eq_true_eq, -decide_eq_false_iff_not, hx, hxA, hb]) | omega | exact True.intro
       all_goals clear hk k
       try (have hwb := wkF_len (e := e) (i := b) hwa (by omega))
       refine rg [6] ?_
       intro k hk; simp -dsimp [go_sem, -decide_eq_true_eq, -decide_eq_false_iff_not, hx, hxA]
       repeat' first | apply And.intro | refine hk _ ?_ | intro hg | omega | exact True.intro
       all_goals clear hk k
       refine rt ?_
       rw [wkF_eq hP hi]; (try (first | rw [if_neg (show ¬ 16 < out.length by omega)] | rw [if_pos (show 16 < out.length by omega)])); simp [go_sem, Try.results110, *] <;> first | (intro h9; omega) | (simp_all; done) | omega | grind)
     ·intro hc; try simp at hc
      all_goals try (exfalso; first | omega | (have hk9 := inR_iff.1 hc; omega); done)
      all_goals (
       refine AW.skipN (fun _ h => h) ?_
       try (have hwb := wkF_len (e := e) (i := b) hwa (by omega))
       refine rg [6] ?_
       intro k hk; simp -dsimp [go_sem, -decide_eq_true_eq, -decide_eq_false_iff_not, hx, hxA]
       repeat' first | apply And.intro | refine hk _ ?_ | intro hg | omega | exact True.intro
       all_goals clear hk k
       refine rt ?_
       rw [wkF_eq hP hi]; (try (first | rw [if_neg (show ¬ 16 < out.length by omega)] | rw [if_pos (show 16 < out.length by omega)])); simp [go_sem, Try.results110, *] <;> first | (intro h9; omega) | (simp_all; done) | omega | grind))
   ·intro hc; try simp at hc
    all_goals try (exfalso; first | omega | (have hk9 := inR_iff.1 hc; omega); done)
    all_goals (
     refine AW.skipN (fun _ h => h) ?_
     refine AW.seq ?_
     refine rg [0,1,2,30] ?_
     intro k hk; simp -dsimp (maxSteps := 2000000) [go_sem, -decide_eq_true_eq, -decide_eq_false_iff_not, hx, hxA]
     repeat' first | apply And.intro | refine hk _ ?_ | intro hg | (refine CallK.intro (dc_spec_l3Two _) ?_; simp -dsimp (maxSteps := 2000000) [go_sem, -decide_eq_true_eq, -decide_eq_false_iff_not, hx, hxA]) | omega | exact True.intro
     all_goals clear hk k
     refine AW.cond rfl ?_ ?_
     ·intro hc; try simp at hc
      all_goals try (exfalso; first | omega | (have hk9 := inR_iff.1 hc; omega); done)
      all_goals (
       have hk2 : isTwoB x.kind = true := by simpa using hc
       have hr := hq.2.1 hk2
       have hk3 := inR_iff.1 hk2
       obtain ⟨b, hb⟩ : ∃ b : Nat, x.right = b := ⟨_, (Int.toNat_of_nonneg hr.2.2.1).symm⟩
       have hrb : x.right.toNat = b := by omega
       refine AW.regN tiOk (fun i => if i = 7 then [2] else []) [1,2] (fun _ h => h) ?_
       intro k hk; simp -dsimp (maxSteps := 2000000) [go_sem, -decide_eq_true_eq, -decide_eq_false_iff_not, hx, hxA, hb]
       repeat' first | apply And.intro | refine hk _ ?_ | intro hg | ((first | refine CallK.intro (ihn a (by omega)) ?_ | refine CallK.intro (iho b (by omega) _ hwa) ?_); simp -dsimp (maxSteps := 2000000) [go_sem, -decide_eq_true_eq, -decide_eq_false_iff_not, hx, hxA, hb]) | omega | exact True.intro
       all_goals clear hk k
       try (have hwb := wkF_len (e := e) (i := b) hwa (by omega))
       refine rg [6] ?_
       intro k hk; simp -dsimp [go_sem, -decide_eq_true_eq, -decide_eq_false_iff_not, hx, hxA]
       repeat' first | apply And.intro | refine hk _ ?_ | intro hg | omega | exact True.intro
       all_goals clear hk k
       refine rt ?_
       rw [wkF_eq hP hi]; (try (first | rw [if_neg (show ¬ 16 < out.length by omega)] | rw [if_pos (show 16 < out.length by omega)])); simp [go_sem, Try.results110, *] <;> first | (intro h9; omega) | (simp_all; done) | omega | grind)
     ·intro hc; try simp at hc
      all_goals try (exfalso; first | omega | (have hk9 := inR_iff.1 hc; omega); done)
      all_goals (
       refine AW.skipN (fun _ h => h) ?_
       try (have hwb := wkF_len (e := e) (i := b) hwa (by omega))
       refine rg [6] ?_
       intro k hk; simp -dsimp [go_sem, -decide_eq_true_eq, -decide_eq_false_iff_not, hx, hxA]
       repeat' first | apply And.intro | refine hk _ ?_ | intro hg | omega | exact True.intro
       all_goals clear hk k
       refine rt ?_
       rw [wkF_eq hP hi]; (try (first | rw [if_neg (show ¬ 16 < out.length by omega)] | rw [if_pos (show 16 < out.length by omega)])); simp [go_sem, Try.results110, *] <;> first | (intro h9; omega) | (simp_all; done) | omega | grind)))

/-- spec.l3Walk -/
theorem dc_spec_l3Walk_o (e : List TNode) (hP : PartsOk e e.length) (h16 : e.length ≤ 16) (i : Nat) (hi : i < e.length) (out : List Nat) (ho : out.length ≤ 40) (ihn : ∀ j : Nat, j < i → DC Try.prog 110 [.isl 4 (e.map TNode.ro), .int .i64 ((j : Nat) : Int), .nils] (.osl 1 ((wkF e j []).map N1)) []) (iho : ∀ j : Nat, j < i → ∀ out : List Nat, out.length ≤ 40 → DC Try.prog 110 [.isl 4 (e.map TNode.ro), .int .i64 ((j : Nat) : Int), .osl 1 (out.map N1)] (.osl 1 ((wkF e j out).map N1)) []) : DC Try.prog 110 [.isl 4 (e.map TNode.ro), .int .i64 ((i : Nat) : Int), .osl 1 (out.map N1)] (.osl 1 ((wkF e i out).map N1)) [] := by
 obtain ⟨x, hx⟩ := at_some hi
 have hxA := nA_at hx
 have hpx := hP i hi
 rw [nodeAt_at hx] at hpx
 have hq := nodeF_parts hpx
 refine DC.intro tiOk Try.func110 rfl rfl rfl rfl rfl rfl rfl rfl [1000] ?_
 refine rg [0,1,2] ?_
 intro k hk; simp -dsimp [go_sem, -decide_eq_true_eq, -decide_eq_false_iff_not, hx, hxA]
 repeat' first | apply And.intro | refine hk _ ?_ | intro hg | omega | exact True.intro
 all_goals clear hk k
 refine AW.seq ?_
 refine rg [0,1,2,9] ?_
 intro k hk; simp -dsimp [go_sem, -decide_eq_true_eq, -decide_eq_false_iff_not, hx, hxA]
 repeat' first | apply And.intro | refine hk _ ?_ | intro hg | omega | exact True.intro
 all_goals clear hk k
 refine AW.cond rfl ?_ ?_
 ·intro hc; try simp at hc
  all_goals try (exfalso; first | omega | (have hk9 := inR_iff.1 hc; omega); done)
  all_goals (
   refine rg [6] ?_
   intro k hk; simp -dsimp [go_sem, -decide_eq_true_eq, -decide_eq_false_iff_not, hx, hxA]
   repeat' first | apply And.intro | refine hk _ ?_ | intro hg | omega | exact True.intro
   all_goals clear hk k
   refine rt ?_
   rw [wkF_eq hP hi]; (try (first | rw [if_neg (show ¬ 16 < out.length by omega)] | rw [if_pos (show 16 < out.length by omega)])); simp [go_sem, Try.results110, *] <;> first | (intro h9; omega) | (simp_all; done) | omega | grind)
 ·intro hc; try simp at hc
  all_goals try (exfalso; first | omega | (have hk9 := inR_iff.1 hc; omega); done)
  all_goals (
   refine AW.skipN (fun _ h => h) ?_
   refine AW.seq ?_
   refine rg [0,1,2,16] ?_
   intro k hk; simp -dsimp [go_sem, -decide_eq_true_eq, -decide_eq_false_iff_not, hx, hxA]
   repeat' first | apply And.intro | refine hk _ ?_ | intro hg | omega | exact True.intro
   all_goals clear hk k
   refine AW.cond rfl ?_ ?_
   ·intro hc; try simp at hc
    all_goals try (exfalso; first | omega | (have hk9 := inR_iff.1 hc; omega); done)
    all_goals (
     have hk0 : 2 < x.kind := by simpa using hc
     have hl := left_of hpx hk0
     obtain ⟨a, ha⟩ : ∃ a : Nat, x.left = a := ⟨_, (Int.toNat_of_nonneg hl.1).symm⟩
     have hla : x.left.toNat = a := by omega
     have hwa := wkF_len (e := e) (i := a) (out := out) (by first | assumption | simp) (by omega)
     refine AW.regN tiOk (fun i => if i = 7 then [2] else []) [0,1,2] (fun _ h => h) ?_
     intro k hk; simp -dsimp (maxSteps := 2000000) [go_sem, -decide_eq_true_eq, -decide_eq_false_iff_not, hx, hxA, ha]
     repeat' first | apply And.intro | refine hk _ ?_ | intro hg | ((first | refine CallK.intro (iho a (by omega) _ ho) ?_ | refine CallK.intro (iho b (by omega) _ hwa) ?_); simp -dsimp (maxSteps := 2000000) [go_sem, -decide_eq_true_eq, -decide_eq_false_iff_not, hx, hxA, ha]) | omega | exact True.intro
     all_goals clear hk k
     refine AW.seq ?_
     refine rg [0,1,2,30] ?_
     intro k hk; simp -dsimp (maxSteps := 2000000) [go_sem, -decide_eq_true_eq, -decide_eq_false_iff_not, hx, hxA]
     repeat' first | apply And.intro | refine hk _ ?_ | intro hg | (refine CallK.intro (dc_spec_l3Two _) ?_; simp -dsimp (maxSteps := 2000000) [go_sem, -decide_eq_true_eq, -decide_eq_false_iff_not, hx, hxA]) | omega | exact True.intro
     all_goals clear hk k
     refine AW.cond rfl ?_ ?_
     ·intro hc; try simp at hc
      all_goals try (exfalso; first | omega | (have hk9 := inR_iff.1 hc; omega); done)
      all_goals (
       have hk2 : isTwoB x.kind = true := by simpa using hc
       have hr := hq.2.1 hk2
       have hk3 := inR_iff.1 hk2
       obtain ⟨b, hb⟩ : ∃ b : Nat, x.right = b := ⟨_, (Int.toNat_of_nonneg hr.2.2.1).symm⟩
       have hrb : x.right.toNat = b := by omega
       refine AW.regN tiOk (fun i => if i = 7 then [2] else []) [1,2] (fun _ h => h) ?_
       intro k hk; simp -dsimp (maxSteps := 2000000) [go_sem, -decide_eq_true_eq, -decide_eq_false_iff_not, hx, hxA, hb]
       repeat' first | apply And.intro | refine hk _ ?_ | intro hg | ((first | refine CallK.intro (iho a (by omega) _ ho) ?_ | refine CallK.intro (iho b (by omega) _ hwa) ?_); simp -dsimp (maxSteps := 2000000) [go_sem, -decide_eq_true_eq, -decide_eq_false_iff_not, hx, hxA, hb]) | omega | exact True.intro
       all_goals clear hk k
       try (have hwb := wkF_len (e := e) (i := b) hwa (by omega))
       refine rg [6] ?_
       intro k hk; simp -dsimp [go_sem, -decide_eq_true_eq, -decide_eq_false_iff_not, hx, hxA]
       repeat' first | apply And.intro | refine hk _ ?_ | intro hg | omega | exact True.intro
       all_goals clear hk k
       refine rt ?_
       rw [wkF_eq hP hi]; (try (first | rw [if_neg (show ¬ 16 < out.length by omega)] | rw [if_pos (show 16 < out.length by omega)])); simp [go_sem, Try.results110, *] <;> first | (intro h9; omega) | (simp_all; done) | omega | grind)
     ·intro hc; try simp at hc
      all_goals try (exfalso; first | omega | (have hk9 := inR_iff.1 hc; omega); done)
      all_goals (
       refine AW.skipN (fun _ h => h) ?_
       try (have hwb := wkF_len (e := e) (i := b) hwa (by omega))
       refine rg [6] ?_
       intro k hk; simp -dsimp [go_sem, -decide_eq_true_eq, -decide_eq_false_iff_not, hx, hxA]
       repeat' first | apply And.intro | refine hk _ ?_ | intro hg | omega | exact True.intro
       all_goals clear hk k
       refine rt ?_
       rw [wkF_eq hP hi]; (try (first | rw [if_neg (show ¬ 16 < out.length by omega)] | rw [if_pos (show 16 < out.length by omega)])); simp [go_sem, Try.results110, *] <;> first | (intro h9; omega) | (simp_all; done) | omega | grind))
   ·intro hc; try simp at hc
    all_goals try (exfalso; first | omega | (have hk9 := inR_iff.1 hc; omega); done)
    all_goals (
     refine AW.skipN (fun _ h => h) ?_
     refine AW.seq ?_
     refine rg [0,1,2,30] ?_
     intro k hk; simp -dsimp (maxSteps := 2000000) [go_sem, -decide_eq_true_eq, -decide_eq_false_iff_not, hx, hxA]
     repeat' first | apply And.intro | refine hk _ ?_ | intro hg | (refine CallK.intro (dc_spec_l3Two _) ?_; simp -dsimp (maxSteps := 2000000) [go_sem, -decide_eq_true_eq, -decide_eq_false_iff_not, hx, hxA]) | omega | exact True.intro
     all_goals clear hk k
     refine AW.cond rfl ?_ ?_
     ·intro hc; try simp at hc
      all_goals try (exfalso; first | omega | (have hk9 := inR_iff.1 hc; omega); done)
      all_goals (
       have hk2 : isTwoB x.kind = true := by simpa using hc
       have hr := hq.2.1 hk2
       have hk3 := inR_iff.1 hk2
       obtain ⟨b, hb⟩ : ∃ b : Nat, x.right = b := ⟨_, (Int.toNat_of_nonneg hr.2.2.1).symm⟩
       have hrb : x.right.toNat = b := by omega
       refine AW.regN tiOk (fun i => if i = 7 then [2] else []) [1,2] (fun _ h => h) ?_
       intro k hk; simp -dsimp (maxSteps := 2000000) [go_sem, -decide_eq_true_eq, -decide_eq_false_iff_not, hx, hxA, hb]
       repeat' first | apply And.intro | refine hk _ ?_ | intro hg | ((first | refine CallK.intro (iho a (by omega) _ ho) ?_ | refine CallK.intro (iho b (by omega) _ hwa) ?_); simp -dsimp (maxSteps := 2000000) [go_sem, -decide_eq_true_eq, -decide_eq_false_iff_not, hx, hxA, hb]) | omega | exact True.intro
       all_goals clear hk k
       try (have hwb := wkF_len (e := e) (i := b) hwa (by omega))
       refine rg [6] ?_
       intro k hk; simp -dsimp [go_sem, -decide_eq_true_eq, -decide_eq_false_iff_not, hx, hxA]
       repeat' first | apply And.intro | refine hk _ ?_ | intro hg | omega | exact True.intro
       all_goals clear hk k
       refine rt ?_
       rw [wkF_eq hP hi]; (try (first | rw [if_neg (show ¬ 16 < out.length by omega)] | rw [if_pos (show 16 < out.length by omega)])); simp [go_sem, Try.results110, *] <;> first | (intro h9; omega) | (simp_all; done) | omega | grind)
     ·intro hc; try simp at hc
      all_goals try (exfalso; first | omega | (have hk9 := inR_iff.1 hc; omega); done)
      all_goals (
       refine AW.skipN (fun _ h => h) ?_
       try (have hwb := wkF_len (e := e) (i := b) hwa (by omega))
       refine rg [6] ?_
       intro k hk; simp -dsimp [go_sem, -decide_eq_true_eq, -decide_eq_false_iff_not, hx, hxA]
       repeat' first | apply And.intro | refine hk _ ?_ | intro hg | omega | exact True.intro
       all_goals clear hk k
       refine rt ?_
       rw [wkF_eq hP hi]; (try (first | rw [if_neg (show ¬ 16 < out.length by omega)] | rw [if_pos (show 16 < out.length by omega)])); simp [go_sem, Try.results110, *] <;> first | (intro h9; omega) | (simp_all; done) | omega | grind)))
theorem dc_spec_l3Walk (e : List TNode) (hP : PartsOk e e.length) (h16 : e.length ≤ 16) : ∀ (m i : Nat), i ≤ m → i < e.length → DC Try.prog 110 [.isl 4 (e.map TNode.ro), .int .i64 ((i : Nat) : Int), .nils] (.osl 1 ((wkF e i []).map N1)) [] ∧ ∀ out : List Nat, out.length ≤ 40 → DC Try.prog 110 [.isl 4 (e.map TNode.ro), .int .i64 ((i : Nat) : Int), .osl 1 (out.map N1)] (.osl 1 ((wkF e i out).map N1)) [] := by
  intro m
  induction m with
  | zero =>
    intro i hm hi
    have h1 : ∀ j : Nat, j < i → False := fun j hj => by omega
    exact ⟨dc_spec_l3Walk_n e hP h16 i hi (fun j hj => (h1 j hj).elim) (fun j hj => (h1 j hj).elim), fun out ho => dc_spec_l3Walk_o e hP h16 i hi out ho (fun j hj => (h1 j hj).elim) (fun j hj => (h1 j hj).elim)⟩
  | succ m ih =>
    intro i hm hi
    have h1 : ∀ j : Nat, j < i → _ := fun j hj => ih j (by omega) (by omega)
    exact ⟨dc_spec_l3Walk_n e hP h16 i hi (fun j hj => (h1 j hj).1) (fun j hj => (h1 j hj).2), fun out ho => dc_spec_l3Walk_o e hP h16 i hi out ho (fun j hj => (h1 j hj).1) (fun j hj => (h1 j hj).2)⟩
theorem dc_spec_l3Walk_nil (e : List TNode) (hP : PartsOk e e.length) (h16 : e.length ≤ 16) (i : Nat) (hi : i < e.length) : DC Try.prog 110 [.isl 4 (e.map TNode.ro), .int .i64 ((i : Nat) : Int), .nils] (.osl 1 ((wkF e i []).map N1)) [] := (dc_spec_l3Walk e hP h16 i i (Nat.le_refl _) hi).1

end Go.AM
namespace Go.AM
open Go.Proofs

/-- spec.l3Fault -/
theorem dc_spec_l3Fault (e : List TNode) (he : e.length ≤ 9223372036854775807) : DC Try.prog 85 [.isl 4 (e.map TNode.ro)] (.int .i64 (exprF e)) [] := by
 refine DC.intro tiOk Try.func85 rfl rfl rfl rfl rfl rfl rfl rfl [] ?_
 refine rgA [0] ?_
 refine AW.seq ?_
 refine AW.cut ⟨51, [(0, .isl 4 (e.map TNode.ro)), (14, .bool (decide (e.length < 1 ∨ 16 < e.length)))], []⟩ ?_ ?_
 ·skip
  refine rgK ?_
  intro k hk; simp +contextual -dsimp (maxSteps := 2000000) [go_sem, -decide_eq_true_eq, -decide_eq_false_iff_not]
  repeat' first | apply And.intro | refine hk _ ?_ | (intro hg; try simp only [decide_eq_true_eq, decide_eq_false_iff_not] at hg) | omega | exact True.intro
  all_goals clear hk k
  all_goals (show St.Less _ _; exact Less.of rfl (by simp [go_sem, -Nat.lt_one_iff, -List.length_eq_zero_iff] <;> first | omega | grind) (by simp [go_sem]))
 ·skip
  refine AW.cond rfl ?_ ?_
  ·intro hc; try simp at hc
   all_goals (
    refine rgA [2] ?_
    refine rt ?_
    first | (rw [exprF_len' (by simpa using hc)]; simp [go_sem, Try.results85]; done) | (rw [exprF_node hR hlt hall (by rw [hxn]; assumption), hxn]; simp [go_sem, Try.results85]; done) | (rw [exprF_wk hR hN, if_neg (wk_ne_len (by first | assumption | omega))]; simp [go_sem, Try.results85]; done) | (rw [exprF_wk hR hN, if_neg (wk_ne_at hy (by first | assumption | omega))]; simp [go_sem, Try.results85]; done) | (rw [exprF_wk hR hN, if_pos (wk_eq (by first | assumption | omega) (fun k hk => hal2 k (by omega)))]; simp [go_sem, Try.results85]))
  ·intro hc; try simp at hc
   all_goals (
    refine AW.skipN (fun _ h => h) ?_
    refine AW.seq ?_
    have hlen : 1 ≤ e.length ∧ e.length ≤ 16 := by obtain ⟨h8, h9⟩ := hc; have : e.length ≠ 0 := (fun h => h8 (List.length_eq_zero_iff.1 h)); omega
    have hR : inR e.length 1 16 = true := inR_iff.2 (by omega)
    refine rgA [0,3] ?_
    refine AW.block ?_
    refine AW.loopI (fun i : Nat => ⟨51, [(0, .isl 4 (e.map TNode.ro)), (3, .int .i64 i)], []⟩) (fun i => i ≤ e.length ∧ ∀ k, k < i → nodeAt e k = 0) (fun i => e.length - i) (0) (by simp) (Less.of rfl (by simp [go_sem]) (by simp [go_sem])) ?_
    rintro i ⟨hi, hall⟩
    refine AW.seq ?_
    refine rgA [0,3,18] ?_
    refine AW.cond rfl ?_ ?_
    ·intro hc; try simp at hc
     all_goals (
      have hlt : i < e.length := by assumption
      obtain ⟨x, hx⟩ := at_some hlt
      have hxn := nodeAt_at hx
      refine AW.skipN (fun _ h => h) ?_
      refine AW.seq ?_
      refine AW.block ?_
      refine rg [0,3,4] ?_
      intro k hk; simp -dsimp (maxSteps := 2000000) [go_sem, -decide_eq_true_eq, -decide_eq_false_iff_not, hx]
      repeat' first | apply And.intro | refine hk _ ?_ | intro hg | (refine CallK.intro (dc_spec_l3Node x i (by omega)) ?_; simp -dsimp (maxSteps := 2000000) [go_sem, -decide_eq_true_eq, -decide_eq_false_iff_not, hx]) | omega | exact True.intro
      all_goals clear hk k
      refine rg [0,3,4,27] ?_
      intro k hk; simp -dsimp [go_sem, -decide_eq_true_eq, -decide_eq_false_iff_not, hx]
      repeat' first | apply And.intro | refine hk _ ?_ | intro hg | omega | exact True.intro
      all_goals clear hk k
      refine AW.cond rfl ?_ ?_
      ·intro hc; try simp at hc
       all_goals (
        refine rg [2] ?_
        intro k hk; simp -dsimp [go_sem, -decide_eq_true_eq, -decide_eq_false_iff_not, hx]
        repeat' first | apply And.intro | refine hk _ ?_ | intro hg | omega | exact True.intro
        all_goals clear hk k
        refine rt ?_
        first | (rw [exprF_len' (by simpa using hc)]; simp [go_sem, Try.results85]; done) | (rw [exprF_node hR hlt hall (by rw [hxn]; assumption), hxn]; simp [go_sem, Try.results85]; done) | (rw [exprF_wk hR hN, if_neg (wk_ne_len (by first | assumption | omega))]; simp [go_sem, Try.results85]; done) | (rw [exprF_wk hR hN, if_neg (wk_ne_at hy (by first | assumption | omega))]; simp [go_sem, Try.results85]; done) | (rw [exprF_wk hR hN, if_pos (wk_eq (by first | assumption | omega) (fun k hk => hal2 k (by omega)))]; simp [go_sem, Try.results85]))
      ·intro hc; try simp at hc
       all_goals (
        refine AW.skipN (fun _ h => h) ?_
        refine rgK ?_
        intro k hk; simp -dsimp [go_sem, -decide_eq_true_eq, -decide_eq_false_iff_not, hx]
        repeat' first | apply And.intro | refine hk _ ?_ | intro hg | omega | exact True.intro
        all_goals clear hk k
        show ∃ _, _
        have hw := wrapi hlt (by omega)
        refine ⟨i + 1, ⟨by omega, upto hall (by rw [hxn]; first | assumption | simpa using hc)⟩, by omega, Less.of rfl (by simp [go_sem, hw]) (by simp [go_sem])⟩))
    ·intro hc; try simp at hc
     all_goals (
      refine AW.exitN (fun _ h => h) ?_
      have hN : ∀ k, k < e.length → nodeAt e k = 0 := fun k hk => hall k (by omega)
      have hP : PartsOk e e.length := hN
      have hwl : IntKind.wrap .i64 ((e.length : Int) - 1) = ((e.length - 1 : Nat) : Int) := by rw [wrap64 (by omega) (by omega)]; omega
      have hwk := wkF_len (e := e) (i := e.length - 1) (out := []) (by simp) (by omega)
      refine rg [0,5] ?_
      intro k hk; simp -dsimp (maxSteps := 2000000) [go_sem, -decide_eq_true_eq, -decide_eq_false_iff_not, hwl]
      repeat' first | apply And.intro | refine hk _ ?_ | intro hg | (refine CallK.intro (dc_spec_l3Walk_nil e hP (by omega) (e.length - 1) (by omega)) ?_; simp -dsimp (maxSteps := 2000000) [go_sem, -decide_eq_true_eq, -decide_eq_false_iff_not, hwl]) | omega | exact True.intro
      all_goals clear hk k
      refine AW.seq ?_
      refine rgA [5,38] ?_
      refine AW.cond rfl ?_ ?_
      ·intro hc; try simp at hc
       all_goals (
        refine rgA [2] ?_
        refine rt ?_
        first | (rw [exprF_len' (by simpa using hc)]; simp [go_sem, Try.results85]; done) | (rw [exprF_node hR hlt hall (by rw [hxn]; assumption), hxn]; simp [go_sem, Try.results85]; done) | (rw [exprF_wk hR hN, if_neg (wk_ne_len (by first | assumption | omega))]; simp [go_sem, Try.results85]; done) | (rw [exprF_wk hR hN, if_neg (wk_ne_at hy (by first | assumption | omega))]; simp [go_sem, Try.results85]; done) | (rw [exprF_wk hR hN, if_pos (wk_eq (by first | assumption | omega) (fun k hk => hal2 k (by omega)))]; simp [go_sem, Try.results85]))
      ·intro hc; try simp at hc
       all_goals (
        refine AW.skipN (fun _ h => h) ?_
        refine AW.seq ?_
        refine rgA [5,6] ?_
        refine AW.block ?_
        refine AW.loopI (fun i : Nat => ⟨51, [(5, .sl 1033 1 0 (wkF e (e.length - 1) []).length), (6, .int .i64 i)], [(1033, some ⟨1, (wkF e (e.length - 1) []).map N1⟩)]⟩) (fun i => i ≤ (wkF e (e.length - 1) []).length ∧ ∀ k, k < i → (wkF e (e.length - 1) [])[k]? = some k) (fun i => (wkF e (e.length - 1) []).length - i) (0) (by simp) (Less.of rfl (by simp [go_sem]) (by simp [go_sem])) ?_
        rintro i ⟨hi2, hal2⟩
        refine AW.seq ?_
        refine rgA [5,6,42] ?_
        refine AW.cond rfl ?_ ?_
        ·intro hc; try simp at hc
         all_goals (
          have hlt2 : i < (wkF e (e.length - 1) []).length := by assumption
          obtain ⟨y, hy⟩ := at_some hlt2
          refine AW.skipN (fun _ h => h) ?_
          refine AW.seq ?_
          refine AW.block ?_
          refine rg [5,6,50] ?_
          intro k hk; simp -dsimp [go_sem, -decide_eq_true_eq, -decide_eq_false_iff_not, hy]
          repeat' first | apply And.intro | refine hk _ ?_ | intro hg | omega | exact True.intro
          all_goals clear hk k
          refine AW.cond rfl ?_ ?_
          ·intro hc; try simp at hc
           all_goals (
            refine rg [2] ?_
            intro k hk; simp -dsimp [go_sem, -decide_eq_true_eq, -decide_eq_false_iff_not, hy]
            repeat' first | apply And.intro | refine hk _ ?_ | intro hg | omega | exact True.intro
            all_goals clear hk k
            refine rt ?_
            first | (rw [exprF_len' (by simpa using hc)]; simp [go_sem, Try.results85]; done) | (rw [exprF_node hR hlt hall (by rw [hxn]; assumption), hxn]; simp [go_sem, Try.results85]; done) | (rw [exprF_wk hR hN, if_neg (wk_ne_len (by first | assumption | omega))]; simp [go_sem, Try.results85]; done) | (rw [exprF_wk hR hN, if_neg (wk_ne_at hy (by first | assumption | omega))]; simp [go_sem, Try.results85]; done) | (rw [exprF_wk hR hN, if_pos (wk_eq (by first | assumption | omega) (fun k hk => hal2 k (by omega)))]; simp [go_sem, Try.results85]))
          ·intro hc; try simp at hc
           all_goals (
            refine AW.skipN (fun _ h => h) ?_
            refine rgK ?_
            intro k hk; simp -dsimp [go_sem, -decide_eq_true_eq, -decide_eq_false_iff_not, hy]
            repeat' first | apply And.intro | refine hk _ ?_ | intro hg | omega | exact True.intro
            all_goals clear hk k
            show ∃ _, _
            have hw := wrapi hlt2 (by omega)
            refine ⟨i + 1, ⟨by omega, upto_at hal2 hy (by first | assumption | omega)⟩, by omega, Less.of rfl (by simp [go_sem, hw]) (by simp [go_sem])⟩))
        ·intro hc; try simp at hc
         all_goals (
          refine AW.exitN (fun _ h => h) ?_
          refine rgA [2] ?_
          refine rt ?_
          first | (rw [exprF_len' (by simpa using hc)]; simp [go_sem, Try.results85]; done) | (rw [exprF_node hR hlt hall (by rw [hxn]; assumption), hxn]; simp [go_sem, Try.results85]; done) | (rw [exprF_wk hR hN, if_neg (wk_ne_len (by first | assumption | omega))]; simp [go_sem, Try.results85]; done) | (rw [exprF_wk hR hN, if_neg (wk_ne_at hy (by first | assumption | omega))]; simp [go_sem, Try.results85]; done) | (rw [exprF_wk hR hN, if_pos (wk_eq (by first | assumption | omega) (fun k hk => hal2 k (by omega)))]; simp [go_sem, Try.results85])))))

end Go.AM
namespace Go.AM
open Go.Proofs

/-- spec.l3Types -/
theorem dc_spec_l3Types_b (e : List TNode) (hP : PartsOk e e.length) (hlen : e.length ≤ 16) (hub : typU e e.length = true) : DC Try.prog 111 [.isl 4 (e.map TNode.ro)] (.tup [.nils, .bool false]) [] := by
 refine DC.intro tiOk Try.func111 rfl rfl rfl rfl rfl rfl rfl rfl [1001] ?_
 refine rg [0] ?_
 intro k hk; simp -dsimp [go_sem, -decide_eq_true_eq, -decide_eq_false_iff_not]
 repeat' first | apply And.intro | refine hk _ ?_ | intro hg | omega | exact True.intro | (have h9 := hr (by assumption); omega) | fail
 all_goals clear hk k
 refine rg [0,4] ?_
 intro k hk; simp -dsimp [go_sem, -decide_eq_true_eq, -decide_eq_false_iff_not]
 repeat' first | apply And.intro | refine hk _ ?_ | intro hg | omega | exact True.intro | (have h9 := hr (by assumption); omega) | fail
 all_goals clear hk k
 refine AW.seq ?_
 refine rg [0,4,5] ?_
 intro k hk; simp -dsimp [go_sem, -decide_eq_true_eq, -decide_eq_false_iff_not]
 repeat' first | apply And.intro | refine hk _ ?_ | intro hg | omega | exact True.intro | (have h9 := hr (by assumption); omega) | fail
 all_goals clear hk k
 refine AW.block ?_
 refine AW.rename (nd := ?nd_1) 9 60 ?h1_1 ?h2_1 ?h4_1 ?kk_1
 (case h1_1 => exact rfl)
 (case h2_1 => simp [go_sem])
 (case h4_1 => simp [go_sem])
 refine AW.loopI (fun i : Nat => ⟨62, [(0, .isl 4 (e.map TNode.ro)), (4, .sl 60 1 0 i), (5, .int .i64 i)], [(60, some ⟨1, (typesL e i).map I1⟩)]⟩) (fun i => i ≤ e.length ∧ typU e i = false) (fun i => e.length - i) (0) (by simp [typU]) (Less.of rfl (by simp [go_sem]) (by simp [go_sem, typesL])) ?_
 rintro i ⟨hi, hu⟩
 refine AW.rename (nd := ?nd_2) 60 9 ?h1_2 ?h2_2 ?h4_2 ?kk_2
 (case h1_2 => exact rfl)
 (case h2_2 => simp [go_sem])
 (case h4_2 => simp [go_sem])
 refine AW.seq ?_
 refine rg [0,4,5,13] ?_
 intro k hk; simp -dsimp [go_sem, -decide_eq_true_eq, -decide_eq_false_iff_not]
 repeat' first | apply And.intro | refine hk _ ?_ | intro hg | omega | exact True.intro | (have h9 := hr (by assumption); omega) | fail
 all_goals clear hk k
 refine AW.cond rfl ?_ ?_
 ·intro hc; try simp at hc
  all_goals try (exfalso; omega; done)
  all_goals (
   have hlt : i < e.length := by assumption
   obtain ⟨x, hx⟩ := at_some hlt
   have hxA := nA_at hx
   have hpx := hP i hlt
   rw [nodeAt_at hx] at hpx
   have hq := nodeF_parts hpx
   have hl : 2 < x.kind → 0 ≤ x.left ∧ x.left.toNat < i := left_of hpx
   have hr := hq.2.1
   have htl := typesL_len e i
   have htk : List.take i ((typesL e i).map I1) = (typesL e i).map I1 := List.take_of_length_le (by simp [htl])
   have hsA : decide (2 < x.kind) = true → (typesL e i)[x.left.toNat]? = some (ownT (nA e x.left.toNat).kind) := fun h => typesL_at (hl (by simpa using h)).2
   have hsB : isTwoB x.kind = true → (typesL e i)[x.right.toNat]? = some (ownT (nA e x.right.toNat).kind) := fun h => typesL_at (hr h).2.2.2
   refine AW.skipN (fun _ h => h) ?_
   refine AW.seq ?_
   refine AW.block ?_
   refine rg [0,4,5,6] ?_
   intro k hk; simp -dsimp [go_sem, -decide_eq_true_eq, -decide_eq_false_iff_not, hx, htl, hsA, hsB]
   repeat' first | apply And.intro | refine hk _ ?_ | intro hg | omega | exact True.intro | (have h9 := hr (by assumption); omega) | fail
   all_goals clear hk k
   refine rg [0,4,5,6,7] ?_
   intro k hk; simp -dsimp [go_sem, -decide_eq_true_eq, -decide_eq_false_iff_not, hx, htl, hsA, hsB]
   repeat' first | apply And.intro | refine hk _ ?_ | intro hg | omega | exact True.intro | (have h9 := hr (by assumption); omega) | fail
   all_goals clear hk k
   refine rg [0,4,5,6,7,8] ?_
   intro k hk; simp -dsimp [go_sem, -decide_eq_true_eq, -decide_eq_false_iff_not, hx, htl, hsA, hsB]
   repeat' first | apply And.intro | refine hk _ ?_ | intro hg | omega | exact True.intro | (have h9 := hr (by assumption); omega) | fail
   all_goals clear hk k
   refine AW.seq ?_
   refine AW.cut ⟨62, [(0, .isl 4 (e.map TNode.ro)), (4, .sl 9 1 0 i), (5, .int .i64 i), (6, .ptr 6 4 0 0), (7, .int .i64 1), (8, .int .i64 1), (27, .bool (decide (x.kind = 9 ∨ x.kind = 10)))], [(6, some ⟨4, [x.ro]⟩), (9, some ⟨1, (typesL e i).map I1⟩)]⟩ ?_ ?_
   ·skip
    refine rgK ?_
    intro k hk; simp +contextual -dsimp (maxSteps := 2000000) [go_sem, -decide_eq_true_eq, -decide_eq_false_iff_not, hx, htl, hsA, hsB]
    repeat' first | apply And.intro | refine hk _ ?_ | (intro hg; try simp only [decide_eq_true_eq, decide_eq_false_iff_not] at hg) | omega | exact True.intro | (have h9 := hr (by assumption); omega) | fail
    all_goals clear hk k
    all_goals (show St.Less _ _; exact Less.of rfl (by simp [go_sem] <;> first | omega | grind) (by simp [go_sem]))
   ·skip
    refine AW.cond rfl ?_ ?_
    ·intro hc; try simp at hc
     all_goals try (exfalso; omega; done)
     all_goals (
      have hk9 : x.kind = 9 ∨ x.kind = 10 := by simpa using hc
      refine rgN [0,4,5,6,7,8] (fun _ h => h) ?_
      intro k hk; simp -dsimp [go_sem, -decide_eq_true_eq, -decide_eq_false_iff_not, hx, htl, hsA, hsB]
      repeat' first | apply And.intro | refine hk _ ?_ | intro hg | omega | exact True.intro | (have h9 := hr (by assumption); omega) | fail
      all_goals clear hk k
      refine AW.seq ?_
      refine rg [0,4,5,6,7,8,30] ?_
      intro k hk; simp -dsimp [go_sem, -decide_eq_true_eq, -decide_eq_false_iff_not, hx, htl, hsA, hsB]
      repeat' first | apply And.intro | refine hk _ ?_ | intro hg | omega | exact True.intro | (have h9 := hr (by assumption); omega) | fail
      all_goals clear hk k
      refine AW.cond rfl ?_ ?_
      ·intro hc; try simp at hc
       all_goals try (exfalso; omega; done)
       all_goals (
        refine rgN [0,4,5,6,7,8] (fun _ h => h) ?_
        intro k hk; simp -dsimp [go_sem, -decide_eq_true_eq, -decide_eq_false_iff_not, hx, htl, hsA, hsB]
        repeat' first | apply And.intro | refine hk _ ?_ | intro hg | omega | exact True.intro | (have h9 := hr (by assumption); omega) | fail
        all_goals clear hk k
        refine AW.seq ?_
        have hpt : partT x.kind = _ := rfl
        refine AW.cut ⟨62, [(0, .isl 4 (e.map TNode.ro)), (4, .sl 9 1 0 i), (5, .int .i64 i), (8, .int .i64 (ownT x.kind)), (56, .bool (typBad e i))], [(9, some ⟨1, (typesL e i).map I1⟩)]⟩ ?_ ?_
        ·skip
         refine rgK ?_
         intro k hk; simp +contextual -dsimp (maxSteps := 2000000) [go_sem, -decide_eq_true_eq, -decide_eq_false_iff_not, hx, htl, hsA, hsB]
         repeat' first | apply And.intro | refine hk _ ?_ | (intro hg; try simp only [decide_eq_true_eq, decide_eq_false_iff_not] at hg) | (refine CallK.intro (dc_spec_l3Two _) ?_; simp +contextual -dsimp (maxSteps := 2000000) [go_sem, -decide_eq_true_eq, -decide_eq_false_iff_not, hx, htl, hsA, hsB]) | omega | exact True.intro | (have h9 := hr (by assumption); omega) | fail
         all_goals clear hk k
         all_goals (show St.Less _ _; exact Less.of rfl (by simp [go_sem, typBad, hxA] <;> grind [ownT, partT]) (by simp [go_sem]))
        ·skip
         refine AW.cond rfl ?_ ?_
         ·intro hc; try simp at hc
          all_goals try (exfalso; omega; done)
          all_goals (
           refine rg [2,3] ?_
           intro k hk; simp -dsimp [go_sem, -decide_eq_true_eq, -decide_eq_false_iff_not, hx, htl, hsA, hsB]
           repeat' first | apply And.intro | refine hk _ ?_ | intro hg | omega | exact True.intro | (have h9 := hr (by assumption); omega) | fail
           all_goals clear hk k
           refine rt ?_
           first | (simp [go_sem, Try.results111]; done) | (exfalso; have hie : i = e.length := (by omega); rw [hie, hub] at hu; cases hu))
         ·intro hc; try simp at hc
          all_goals try (exfalso; omega; done)
          all_goals (
           refine AW.skipN (fun _ h => h) ?_
           refine rgN [0,4,5] (fun _ h => h) ?_
           intro k hk; simp -dsimp [go_sem, -decide_eq_true_eq, -decide_eq_false_iff_not, hx, htl, hsA, hsB]
           repeat' first | apply And.intro | refine hk _ ?_ | intro hg | omega | exact True.intro | (have h9 := hr (by assumption); omega) | fail
           all_goals clear hk k
           refine rgK ?_
           intro k hk; simp -dsimp [go_sem, -decide_eq_true_eq, -decide_eq_false_iff_not, hx, htl, hsA, hsB]
           repeat' first | apply And.intro | refine hk _ ?_ | intro hg | omega | exact True.intro | (have h9 := hr (by assumption); omega) | fail
           all_goals clear hk k
           show ∃ _, _
           have hw := wrapi hlt (by omega)
           have hub : typBad e i = false := by simpa using hc
           refine ⟨i + 1, ⟨by omega, typU_go hu hub⟩, by omega, Less.of rfl (by simp [go_sem, hw]) (by simp [go_sem, typesL_succ, hxA, htk] <;> (unfold ownT; first | omega | (split <;> omega)))⟩))
      ·intro hc; try simp at hc
       all_goals try (exfalso; omega; done)
       all_goals (
        refine AW.skipN (fun _ h => h) ?_
        refine AW.seq ?_
        have hpt : partT x.kind = _ := rfl
        refine AW.cut ⟨62, [(0, .isl 4 (e.map TNode.ro)), (4, .sl 9 1 0 i), (5, .int .i64 i), (8, .int .i64 (ownT x.kind)), (56, .bool (typBad e i))], [(9, some ⟨1, (typesL e i).map I1⟩)]⟩ ?_ ?_
        ·skip
         refine rgK ?_
         intro k hk; simp +contextual -dsimp (maxSteps := 2000000) [go_sem, -decide_eq_true_eq, -decide_eq_false_iff_not, hx, htl, hsA, hsB]
         repeat' first | apply And.intro | refine hk _ ?_ | (intro hg; try simp only [decide_eq_true_eq, decide_eq_false_iff_not] at hg) | (refine CallK.intro (dc_spec_l3Two _) ?_; simp +contextual -dsimp (maxSteps := 2000000) [go_sem, -decide_eq_true_eq, -decide_eq_false_iff_not, hx, htl, hsA, hsB]) | omega | exact True.intro | (have h9 := hr (by assumption); omega) | fail
         all_goals clear hk k
         all_goals (show St.Less _ _; exact Less.of rfl (by simp [go_sem, typBad, hxA] <;> grind [ownT, partT]) (by simp [go_sem]))
        ·skip
         refine AW.cond rfl ?_ ?_
         ·intro hc; try simp at hc
          all_goals try (exfalso; omega; done)
          all_goals (
           refine rg [2,3] ?_
           intro k hk; simp -dsimp [go_sem, -decide_eq_true_eq, -decide_eq_false_iff_not, hx, htl, hsA, hsB]
           repeat' first | apply And.intro | refine hk _ ?_ | intro hg | omega | exact True.intro | (have h9 := hr (by assumption); omega) | fail
           all_goals clear hk k
           refine rt ?_
           first | (simp [go_sem, Try.results111]; done) | (exfalso; have hie : i = e.length := (by omega); rw [hie, hub] at hu; cases hu))
         ·intro hc; try simp at hc
          all_goals try (exfalso; omega; done)
          all_goals (
           refine AW.skipN (fun _ h => h) ?_
           refine rgN [0,4,5] (fun _ h => h) ?_
           intro k hk; simp -dsimp [go_sem, -decide_eq_true_eq, -decide_eq_false_iff_not, hx, htl, hsA, hsB]
           repeat' first | apply And.intro | refine hk _ ?_ | intro hg | omega | exact True.intro | (have h9 := hr (by assumption); omega) | fail
           all_goals clear hk k
           refine rgK ?_
           intro k hk; simp -dsimp [go_sem, -decide_eq_true_eq, -decide_eq_false_iff_not, hx, htl, hsA, hsB]
           repeat' first | apply And.intro | refine hk _ ?_ | intro hg | omega | exact True.intro | (have h9 := hr (by assumption); omega) | fail
           all_goals clear hk k
           show ∃ _, _
           have hw := wrapi hlt (by omega)
           have hub : typBad e i = false := by simpa using hc
           refine ⟨i + 1, ⟨by omega, typU_go hu hub⟩, by omega, Less.of rfl (by simp [go_sem, hw]) (by simp [go_sem, typesL_succ, hxA, htk] <;> (unfold ownT; first | omega | (split <;> omega)))⟩)))
    ·intro hc; try simp at hc
     all_goals try (exfalso; omega; done)
     all_goals (
      refine AW.skipN (fun _ h => h) ?_
      refine AW.seq ?_
      refine rg [0,4,5,6,7,8,30] ?_
      intro k hk; simp -dsimp [go_sem, -decide_eq_true_eq, -decide_eq_false_iff_not, hx, htl, hsA, hsB]
      repeat' first | apply And.intro | refine hk _ ?_ | intro hg | omega | exact True.intro | (have h9 := hr (by assumption); omega) | fail
      all_goals clear hk k
      refine AW.cond rfl ?_ ?_
      ·intro hc; try simp at hc
       all_goals try (exfalso; omega; done)
       all_goals (
        refine rgN [0,4,5,6,7,8] (fun _ h => h) ?_
        intro k hk; simp -dsimp [go_sem, -decide_eq_true_eq, -decide_eq_false_iff_not, hx, htl, hsA, hsB]
        repeat' first | apply And.intro | refine hk _ ?_ | intro hg | omega | exact True.intro | (have h9 := hr (by assumption); omega) | fail
        all_goals clear hk k
        refine AW.seq ?_
        have hpt : partT x.kind = _ := rfl
        refine AW.cut ⟨62, [(0, .isl 4 (e.map TNode.ro)), (4, .sl 9 1 0 i), (5, .int .i64 i), (8, .int .i64 (ownT x.kind)), (56, .bool (typBad e i))], [(9, some ⟨1, (typesL e i).map I1⟩)]⟩ ?_ ?_
        ·skip
         refine rgK ?_
         intro k hk; simp +contextual -dsimp (maxSteps := 2000000) [go_sem, -decide_eq_true_eq, -decide_eq_false_iff_not, hx, htl, hsA, hsB]
         repeat' first | apply And.intro | refine hk _ ?_ | (intro hg; try simp only [decide_eq_true_eq, decide_eq_false_iff_not] at hg) | (refine CallK.intro (dc_spec_l3Two _) ?_; simp +contextual -dsimp (maxSteps := 2000000) [go_sem, -decide_eq_true_eq, -decide_eq_false_iff_not, hx, htl, hsA, hsB]) | omega | exact True.intro | (have h9 := hr (by assumption); omega) | fail
         all_goals clear hk k
         all_goals (show St.Less _ _; exact Less.of rfl (by simp [go_sem, typBad, hxA] <;> grind [ownT, partT]) (by simp [go_sem]))
        ·skip
         refine AW.cond rfl ?_ ?_
         ·intro hc; try simp at hc
          all_goals try (exfalso; omega; done)
          all_goals (
           refine rg [2,3] ?_
           intro k hk; simp -dsimp [go_sem, -decide_eq_true_eq, -decide_eq_false_iff_not, hx, htl, hsA, hsB]
           repeat' first | apply And.intro | refine hk _ ?_ | intro hg | omega | exact True.intro | (have h9 := hr (by assumption); omega) | fail
           all_goals clear hk k
           refine rt ?_
           first | (simp [go_sem, Try.results111]; done) | (exfalso; have hie : i = e.length := (by omega); rw [hie, hub] at hu; cases hu))
         ·intro hc; try simp at hc
          all_goals try (exfalso; omega; done)
          all_goals (
           refine AW.skipN (fun _ h => h) ?_
           refine rgN [0,4,5] (fun _ h => h) ?_
           intro k hk; simp -dsimp [go_sem, -decide_eq_true_eq, -decide_eq_false_iff_not, hx, htl, hsA, hsB]
           repeat' first | apply And.intro | refine hk _ ?_ | intro hg | omega | exact True.intro | (have h9 := hr (by assumption); omega) | fail
           all_goals clear hk k
           refine rgK ?_
           intro k hk; simp -dsimp [go_sem, -decide_eq_true_eq, -decide_eq_false_iff_not, hx, htl, hsA, hsB]
           repeat' first | apply And.intro | refine hk _ ?_ | intro hg | omega | exact True.intro | (have h9 := hr (by assumption); omega) | fail
           all_goals clear hk k
           show ∃ _, _
           have hw := wrapi hlt (by omega)
           have hub : typBad e i = false := by simpa using hc
           refine ⟨i + 1, ⟨by omega, typU_go hu hub⟩, by omega, Less.of rfl (by simp [go_sem, hw]) (by simp [go_sem, typesL_succ, hxA, htk] <;> (unfold ownT; first | omega | (split <;> omega)))⟩))
      ·intro hc; try simp at hc
       all_goals try (exfalso; omega; done)
       all_goals (
        refine AW.skipN (fun _ h => h) ?_
        refine AW.seq ?_
        have hpt : partT x.kind = _ := rfl
        refine AW.cut ⟨62, [(0, .isl 4 (e.map TNode.ro)), (4, .sl 9 1 0 i), (5, .int .i64 i), (8, .int .i64 (ownT x.kind)), (56, .bool (typBad e i))], [(9, some ⟨1, (typesL e i).map I1⟩)]⟩ ?_ ?_
        ·skip
         refine rgK ?_
         intro k hk; simp +contextual -dsimp (maxSteps := 2000000) [go_sem, -decide_eq_true_eq, -decide_eq_false_iff_not, hx, htl, hsA, hsB]
         repeat' first | apply And.intro | refine hk _ ?_ | (intro hg; try simp only [decide_eq_true_eq, decide_eq_false_iff_not] at hg) | (refine CallK.intro (dc_spec_l3Two _) ?_; simp +contextual -dsimp (maxSteps := 2000000) [go_sem, -decide_eq_true_eq, -decide_eq_false_iff_not, hx, htl, hsA, hsB]) | omega | exact True.intro | (have h9 := hr (by assumption); omega) | fail
         all_goals clear hk k
         all_goals (show St.Less _ _; exact Less.of rfl (by simp [go_sem, typBad, hxA] <;> grind [ownT, partT]) (by simp [go_sem]))
        ·skip
         refine AW.cond rfl ?_ ?_
         ·intro hc; try simp at hc
          all_goals try (exfalso; omega; done)
          all_goals (
           refine rg [2,3] ?_
           intro k hk; simp -dsimp [go_sem, -decide_eq_true_eq, -decide_eq_false_iff_not, hx, htl, hsA, hsB]
           repeat' first | apply And.intro | refine hk _ ?_ | intro hg | omega | exact True.intro | (have h9 := hr (by assumption); omega) | fail
           all_goals clear hk k
           refine rt ?_
           first | (simp [go_sem, Try.results111]; done) | (exfalso; have hie : i = e.length := (by omega); rw [hie, hub] at hu; cases hu))
         ·intro hc; try simp at hc
          all_goals try (exfalso; omega; done)
          all_goals (
           refine AW.skipN (fun _ h => h) ?_
           refine rgN [0,4,5] (fun _ h => h) ?_
           intro k hk; simp -dsimp [go_sem, -decide_eq_true_eq, -decide_eq_false_iff_not, hx, htl, hsA, hsB]
           repeat' first | apply And.intro | refine hk _ ?_ | intro hg | omega | exact True.intro | (have h9 := hr (by assumption); omega) | fail
           all_goals clear hk k
           refine rgK ?_
           intro k hk; simp -dsimp [go_sem, -decide_eq_true_eq, -decide_eq_false_iff_not, hx, htl, hsA, hsB]
           repeat' first | apply And.intro | refine hk _ ?_ | intro hg | omega | exact True.intro | (have h9 := hr (by assumption); omega) | fail
           all_goals clear hk k
           show ∃ _, _
           have hw := wrapi hlt (by omega)
           have hub : typBad e i = false := by simpa using hc
           refine ⟨i + 1, ⟨by omega, typU_go hu hub⟩, by omega, Less.of rfl (by simp [go_sem, hw]) (by simp [go_sem, typesL_succ, hxA, htk] <;> (unfold ownT; first | omega | (split <;> omega)))⟩))))
 ·intro hc; try simp at hc
  all_goals try (exfalso; omega; done)
  all_goals (
   refine AW.exitN (fun _ h => h) ?_
   refine rg [2,3] ?_
   intro k hk; simp -dsimp [go_sem, -decide_eq_true_eq, -decide_eq_false_iff_not]
   repeat' first | apply And.intro | refine hk _ ?_ | intro hg | omega | exact True.intro | (have h9 := hr (by assumption); omega) | fail
   all_goals clear hk k
   refine rt ?_
   first | (simp [go_sem, Try.results111]; done) | (exfalso; have hie : i = e.length := (by omega); rw [hie, hub] at hu; cases hu))

/-- spec.l3Types -/
theorem dc_spec_l3Types_k (e : List TNode) (hP : PartsOk e e.length) (hlen : e.length ≤ 16) (huk : typU e e.length = false) : DC Try.prog 111 [.isl 4 (e.map TNode.ro)] (.tup [.osl 1 ((typesL e e.length).map I1), .bool true]) [] := by
 refine DC.intro tiOk Try.func111 rfl rfl rfl rfl rfl rfl rfl rfl [1001] ?_
 refine rg [0] ?_
 intro k hk; simp -dsimp [go_sem, -decide_eq_true_eq, -decide_eq_false_iff_not]
 repeat' first | apply And.intro | refine hk _ ?_ | intro hg | omega | exact True.intro | (have h9 := hr (by assumption); omega) | fail
 all_goals clear hk k
 refine rg [0,4] ?_
 intro k hk; simp -dsimp [go_sem, -decide_eq_true_eq, -decide_eq_false_iff_not]
 repeat' first | apply And.intro | refine hk _ ?_ | intro hg | omega | exact True.intro | (have h9 := hr (by assumption); omega) | fail
 all_goals clear hk k
 refine AW.seq ?_
 refine rg [0,4,5] ?_
 intro k hk; simp -dsimp [go_sem, -decide_eq_true_eq, -decide_eq_false_iff_not]
 repeat' first | apply And.intro | refine hk _ ?_ | intro hg | omega | exact True.intro | (have h9 := hr (by assumption); omega) | fail
 all_goals clear hk k
 refine AW.block ?_
 refine AW.rename (nd := ?nd_1) 9 60 ?h1_1 ?h2_1 ?h4_1 ?kk_1
 (case h1_1 => exact rfl)
 (case h2_1 => simp [go_sem])
 (case h4_1 => simp [go_sem])
 refine AW.loopI (fun i : Nat => ⟨62, [(0, .isl 4 (e.map TNode.ro)), (4, .sl 60 1 0 i), (5, .int .i64 i)], [(60, some ⟨1, (typesL e i).map I1⟩)]⟩) (fun i => i ≤ e.length ∧ typU e i = false) (fun i => e.length - i) (0) (by simp [typU]) (Less.of rfl (by simp [go_sem]) (by simp [go_sem, typesL])) ?_
 rintro i ⟨hi, hu⟩
 refine AW.rename (nd := ?nd_2) 60 9 ?h1_2 ?h2_2 ?h4_2 ?kk_2
 (case h1_2 => exact rfl)
 (case h2_2 => simp [go_sem])
 (case h4_2 => simp [go_sem])
 refine AW.seq ?_
 refine rg [0,4,5,13] ?_
 intro k hk; simp -dsimp [go_sem, -decide_eq_true_eq, -decide_eq_false_iff_not]
 repeat' first | apply And.intro | refine hk _ ?_ | intro hg | omega | exact True.intro | (have h9 := hr (by assumption); omega) | fail
 all_goals clear hk k
 refine AW.cond rfl ?_ ?_
 ·intro hc; try simp at hc
  all_goals try (exfalso; omega; done)
  all_goals (
   have hlt : i < e.length := by assumption
   obtain ⟨x, hx⟩ := at_some hlt
   have hxA := nA_at hx
   have hpx := hP i hlt
   rw [nodeAt_at hx] at hpx
   have hq := nodeF_parts hpx
   have hl : 2 < x.kind → 0 ≤ x.left ∧ x.left.toNat < i := left_of hpx
   have hr := hq.2.1
   have htl := typesL_len e i
   have htk : List.take i ((typesL e i).map I1) = (typesL e i).map I1 := List.take_of_length_le (by simp [htl])
   have hsA : decide (2 < x.kind) = true → (typesL e i)[x.left.toNat]? = some (ownT (nA e x.left.toNat).kind) := fun h => typesL_at (hl (by simpa using h)).2
   have hsB : isTwoB x.kind = true → (typesL e i)[x.right.toNat]? = some (ownT (nA e x.right.toNat).kind) := fun h => typesL_at (hr h).2.2.2
   refine AW.skipN (fun _ h => h) ?_
   refine AW.seq ?_
   refine AW.block ?_
   refine rg [0,4,5,6] ?_
   intro k hk; simp -dsimp [go_sem, -decide_eq_true_eq, -decide_eq_false_iff_not, hx, htl, hsA, hsB]
   repeat' first | apply And.intro | refine hk _ ?_ | intro hg | omega | exact True.intro | (have h9 := hr (by assumption); omega) | fail
   all_goals clear hk k
   refine rg [0,4,5,6,7] ?_
   intro k hk; simp -dsimp [go_sem, -decide_eq_true_eq, -decide_eq_false_iff_not, hx, htl, hsA, hsB]
   repeat' first | apply And.intro | refine hk _ ?_ | intro hg | omega | exact True.intro | (have h9 := hr (by assumption); omega) | fail
   all_goals clear hk k
   refine rg [0,4,5,6,7,8] ?_
   intro k hk; simp -dsimp [go_sem, -decide_eq_true_eq, -decide_eq_false_iff_not, hx, htl, hsA, hsB]
   repeat' first | apply And.intro | refine hk _ ?_ | intro hg | omega | exact True.intro | (have h9 := hr (by assumption); omega) | fail
   all_goals clear hk k
   refine AW.seq ?_
   refine AW.cut ⟨62, [(0, .isl 4 (e.map TNode.ro)), (4, .sl 9 1 0 i), (5, .int .i64 i), (6, .ptr 6 4 0 0), (7, .int .i64 1), (8, .int .i64 1), (27, .bool (decide (x.kind = 9 ∨ x.kind = 10)))], [(6, some ⟨4, [x.ro]⟩), (9, some ⟨1, (typesL e i).map I1⟩)]⟩ ?_ ?_
   ·skip
    refine rgK ?_
    intro k hk; simp +contextual -dsimp (maxSteps := 2000000) [go_sem, -decide_eq_true_eq, -decide_eq_false_iff_not, hx, htl, hsA, hsB]
    repeat' first | apply And.intro | refine hk _ ?_ | (intro hg; try simp only [decide_eq_true_eq, decide_eq_false_iff_not] at hg) | omega | exact True.intro | (have h9 := hr (by assumption); omega) | fail
    all_goals clear hk k
    all_goals (show St.Less _ _; exact Less.of rfl (by simp [go_sem] <;> first | omega | grind) (by simp [go_sem]))
   ·skip
    refine AW.cond rfl ?_ ?_
    ·intro hc; try simp at hc
     all_goals try (exfalso; omega; done)
     all_goals (
      have hk9 : x.kind = 9 ∨ x.kind = 10 := by simpa using hc
      refine rgN [0,4,5,6,7,8] (fun _ h => h) ?_
      intro k hk; simp -dsimp [go_sem, -decide_eq_true_eq, -decide_eq_false_iff_not, hx, htl, hsA, hsB]
      repeat' first | apply And.intro | refine hk _ ?_ | intro hg | omega | exact True.intro | (have h9 := hr (by assumption); omega) | fail
      all_goals clear hk k
      refine AW.seq ?_
      refine rg [0,4,5,6,7,8,30] ?_
      intro k hk; simp -dsimp [go_sem, -decide_eq_true_eq, -decide_eq_false_iff_not, hx, htl, hsA, hsB]
      repeat' first | apply And.intro | refine hk _ ?_ | intro hg | omega | exact True.intro | (have h9 := hr (by assumption); omega) | fail
      all_goals clear hk k
      refine AW.cond rfl ?_ ?_
      ·intro hc; try simp at hc
       all_goals try (exfalso; omega; done)
       all_goals (
        refine rgN [0,4,5,6,7,8] (fun _ h => h) ?_
        intro k hk; simp -dsimp [go_sem, -decide_eq_true_eq, -decide_eq_false_iff_not, hx, htl, hsA, hsB]
        repeat' first | apply And.intro | refine hk _ ?_ | intro hg | omega | exact True.intro | (have h9 := hr (by assumption); omega) | fail
        all_goals clear hk k
        refine AW.seq ?_
        have hpt : partT x.kind = _ := rfl
        refine AW.cut ⟨62, [(0, .isl 4 (e.map TNode.ro)), (4, .sl 9 1 0 i), (5, .int .i64 i), (8, .int .i64 (ownT x.kind)), (56, .bool (typBad e i))], [(9, some ⟨1, (typesL e i).map I1⟩)]⟩ ?_ ?_
        ·skip
         refine rgK ?_
         intro k hk; simp +contextual -dsimp (maxSteps := 2000000) [go_sem, -decide_eq_true_eq, -decide_eq_false_iff_not, hx, htl, hsA, hsB]
         repeat' first | apply And.intro | refine hk _ ?_ | (intro hg; try simp only [decide_eq_true_eq, decide_eq_false_iff_not] at hg) | (refine CallK.intro (dc_spec_l3Two _) ?_; simp +contextual -dsimp (maxSteps := 2000000) [go_sem, -decide_eq_true_eq, -decide_eq_false_iff_not, hx, htl, hsA, hsB]) | omega | exact True.intro | (have h9 := hr (by assumption); omega) | fail
         all_goals clear hk k
         all_goals (show St.Less _ _; exact Less.of rfl (by simp [go_sem, typBad, hxA] <;> grind [ownT, partT]) (by simp [go_sem]))
        ·skip
         refine AW.cond rfl ?_ ?_
         ·intro hc; try simp at hc
          all_goals try (exfalso; omega; done)
          all_goals (
           refine rg [2,3] ?_
           intro k hk; simp -dsimp [go_sem, -decide_eq_true_eq, -decide_eq_false_iff_not, hx, htl, hsA, hsB]
           repeat' first | apply And.intro | refine hk _ ?_ | intro hg | omega | exact True.intro | (have h9 := hr (by assumption); omega) | fail
           all_goals clear hk k
           refine rt ?_
           first | (exfalso; have h8 := typU_hit hlt (by first | assumption | simpa using hc); rw [huk] at h8; cases h8) | (have hie : i = e.length := (by omega); simp [go_sem, Try.results111, hie, typesL_len]))
         ·intro hc; try simp at hc
          all_goals try (exfalso; omega; done)
          all_goals (
           refine AW.skipN (fun _ h => h) ?_
           refine rgN [0,4,5] (fun _ h => h) ?_
           intro k hk; simp -dsimp [go_sem, -decide_eq_true_eq, -decide_eq_false_iff_not, hx, htl, hsA, hsB]
           repeat' first | apply And.intro | refine hk _ ?_ | intro hg | omega | exact True.intro | (have h9 := hr (by assumption); omega) | fail
           all_goals clear hk k
           refine rgK ?_
           intro k hk; simp -dsimp [go_sem, -decide_eq_true_eq, -decide_eq_false_iff_not, hx, htl, hsA, hsB]
           repeat' first | apply And.intro | refine hk _ ?_ | intro hg | omega | exact True.intro | (have h9 := hr (by assumption); omega) | fail
           all_goals clear hk k
           show ∃ _, _
           have hw := wrapi hlt (by omega)
           have hub : typBad e i = false := by simpa using hc
           refine ⟨i + 1, ⟨by omega, typU_go hu hub⟩, by omega, Less.of rfl (by simp [go_sem, hw]) (by simp [go_sem, typesL_succ, hxA, htk] <;> (unfold ownT; first | omega | (split <;> omega)))⟩))
      ·intro hc; try simp at hc
       all_goals try (exfalso; omega; done)
       all_goals (
        refine AW.skipN (fun _ h => h) ?_
        refine AW.seq ?_
        have hpt : partT x.kind = _ := rfl
        refine AW.cut ⟨62, [(0, .isl 4 (e.map TNode.ro)), (4, .sl 9 1 0 i), (5, .int .i64 i), (8, .int .i64 (ownT x.kind)), (56, .bool (typBad e i))], [(9, some ⟨1, (typesL e i).map I1⟩)]⟩ ?_ ?_
        ·skip
         refine rgK ?_
         intro k hk; simp +contextual -dsimp (maxSteps := 2000000) [go_sem, -decide_eq_true_eq, -decide_eq_false_iff_not, hx, htl, hsA, hsB]
         repeat' first | apply And.intro | refine hk _ ?_ | (intro hg; try simp only [decide_eq_true_eq, decide_eq_false_iff_not] at hg) | (refine CallK.intro (dc_spec_l3Two _) ?_; simp +contextual -dsimp (maxSteps := 2000000) [go_sem, -decide_eq_true_eq, -decide_eq_false_iff_not, hx, htl, hsA, hsB]) | omega | exact True.intro | (have h9 := hr (by assumption); omega) | fail
         all_goals clear hk k
         all_goals (show St.Less _ _; exact Less.of rfl (by simp [go_sem, typBad, hxA] <;> grind [ownT, partT]) (by simp [go_sem]))
        ·skip
         refine AW.cond rfl ?_ ?_
         ·intro hc; try simp at hc
          all_goals try (exfalso; omega; done)
          all_goals (
           refine rg [2,3] ?_
           intro k hk; simp -dsimp [go_sem, -decide_eq_true_eq, -decide_eq_false_iff_not, hx, htl, hsA, hsB]
           repeat' first | apply And.intro | refine hk _ ?_ | intro hg | omega | exact True.intro | (have h9 := hr (by assumption); omega) | fail
           all_goals clear hk k
           refine rt ?_
           first | (exfalso; have h8 := typU_hit hlt (by first | assumption | simpa using hc); rw [huk] at h8; cases h8) | (have hie : i = e.length := (by omega); simp [go_sem, Try.results111, hie, typesL_len]))
         ·intro hc; try simp at hc
          all_goals try (exfalso; omega; done)
          all_goals (
           refine AW.skipN (fun _ h => h) ?_
           refine rgN [0,4,5] (fun _ h => h) ?_
           intro k hk; simp -dsimp [go_sem, -decide_eq_true_eq, -decide_eq_false_iff_not, hx, htl, hsA, hsB]
           repeat' first | apply And.intro | refine hk _ ?_ | intro hg | omega | exact True.intro | (have h9 := hr (by assumption); omega) | fail
           all_goals clear hk k
           refine rgK ?_
           intro k hk; simp -dsimp [go_sem, -decide_eq_true_eq, -decide_eq_false_iff_not, hx, htl, hsA, hsB]
           repeat' first | apply And.intro | refine hk _ ?_ | intro hg | omega | exact True.intro | (have h9 := hr (by assumption); omega) | fail
           all_goals clear hk k
           show ∃ _, _
           have hw := wrapi hlt (by omega)
           have hub : typBad e i = false := by simpa using hc
           refine ⟨i + 1, ⟨by omega, typU_go hu hub⟩, by omega, Less.of rfl (by simp [go_sem, hw]) (by simp [go_sem, typesL_succ, hxA, htk] <;> (unfold ownT; first | omega | (split <;> omega)))⟩)))
    ·intro hc; try simp at hc
     all_goals try (exfalso; omega; done)
     all_goals (
      refine AW.skipN (fun _ h => h) ?_
      refine AW.seq ?_
      refine rg [0,4,5,6,7,8,30] ?_
      intro k hk; simp -dsimp [go_sem, -decide_eq_true_eq, -decide_eq_false_iff_not, hx, htl, hsA, hsB]
      repeat' first | apply And.intro | refine hk _ ?_ | intro hg | omega | exact True.intro | (have h9 := hr (by assumption); omega) | fail
      all_goals clear hk k
      refine AW.cond rfl ?_ ?_
      ·intro hc; try simp at hc
       all_goals try (exfalso; omega; done)
       all_goals (
        refine rgN [0,4,5,6,7,8] (fun _ h => h) ?_
        intro k hk; simp -dsimp [go_sem, -decide_eq_true_eq, -decide_eq_false_iff_not, hx, htl, hsA, hsB]
        repeat' first | apply And.intro | refine hk _ ?_ | intro hg | omega | exact True.intro | (have h9 := hr (by assumption); omega) | fail
        all_goals clear hk k
        refine AW.seq ?_
        have hpt : partT x.kind = _ := rfl
        refine AW.cut ⟨62, [(0, .isl 4 (e.map TNode.ro)), (4, .sl 9 1 0 i), (5, .int .i64 i), (8, .int .i64 (ownT x.kind)), (56, .bool (typBad e i))], [(9, some ⟨1, (typesL e i).map I1⟩)]⟩ ?_ ?_
        ·skip
         refine rgK ?_
         intro k hk; simp +contextual -dsimp (maxSteps := 2000000) [go_sem, -decide_eq_true_eq, -decide_eq_false_iff_not, hx, htl, hsA, hsB]
         repeat' first | apply And.intro | refine hk _ ?_ | (intro hg; try simp only [decide_eq_true_eq, decide_eq_false_iff_not] at hg) | (refine CallK.intro (dc_spec_l3Two _) ?_; simp +contextual -dsimp (maxSteps := 2000000) [go_sem, -decide_eq_true_eq, -decide_eq_false_iff_not, hx, htl, hsA, hsB]) | omega | exact True.intro | (have h9 := hr (by assumption); omega) | fail
         all_goals clear hk k
         all_goals (show St.Less _ _; exact Less.of rfl (by simp [go_sem, typBad, hxA] <;> grind [ownT, partT]) (by simp [go_sem]))
        ·skip
         refine AW.cond rfl ?_ ?_
         ·intro hc; try simp at hc
          all_goals try (exfalso; omega; done)
          all_goals (
           refine rg [2,3] ?_
           intro k hk; simp -dsimp [go_sem, -decide_eq_true_eq, -decide_eq_false_iff_not, hx, htl, hsA, hsB]
           repeat' first | apply And.intro | refine hk _ ?_ | intro hg | omega | exact True.intro | (have h9 := hr (by assumption); omega) | fail
           all_goals clear hk k
           refine rt ?_
           first | (exfalso; have h8 := typU_hit hlt (by first | assumption | simpa using hc); rw [huk] at h8; cases h8) | (have hie : i = e.length := (by omega); simp [go_sem, Try.results111, hie, typesL_len]))
         ·intro hc; try simp at hc
          all_goals try (exfalso; omega; done)
          all_goals (
           refine AW.skipN (fun _ h => h) ?_
           refine rgN [0,4,5] (fun _ h => h) ?_
           intro k hk; simp -dsimp [go_sem, -decide_eq_true_eq, -decide_eq_false_iff_not, hx, htl, hsA, hsB]
           repeat' first | apply And.intro | refine hk _ ?_ | intro hg | omega | exact True.intro | (have h9 := hr (by assumption); omega) | fail
           all_goals clear hk k
           refine rgK ?_
           intro k hk; simp -dsimp [go_sem, -decide_eq_true_eq, -decide_eq_false_iff_not, hx, htl, hsA, hsB]
           repeat' first | apply And.intro | refine hk _ ?_ | intro hg | omega | exact True.intro | (have h9 := hr (by assumption); omega) | fail
           all_goals clear hk k
           show ∃ _, _
           have hw := wrapi hlt (by omega)
           have hub : typBad e i = false := by simpa using hc
           refine ⟨i + 1, ⟨by omega, typU_go hu hub⟩, by omega, Less.of rfl (by simp [go_sem, hw]) (by simp [go_sem, typesL_succ, hxA, htk] <;> (unfold ownT; first | omega | (split <;> omega)))⟩))
      ·intro hc; try simp at hc
       all_goals try (exfalso; omega; done)
       all_goals (
        refine AW.skipN (fun _ h => h) ?_
        refine AW.seq ?_
        have hpt : partT x.kind = _ := rfl
        refine AW.cut ⟨62, [(0, .isl 4 (e.map TNode.ro)), (4, .sl 9 1 0 i), (5, .int .i64 i), (8, .int .i64 (ownT x.kind)), (56, .bool (typBad e i))], [(9, some ⟨1, (typesL e i).map I1⟩)]⟩ ?_ ?_
        ·skip
         refine rgK ?_
         intro k hk; simp +contextual -dsimp (maxSteps := 2000000) [go_sem, -decide_eq_true_eq, -decide_eq_false_iff_not, hx, htl, hsA, hsB]
         repeat' first | apply And.intro | refine hk _ ?_ | (intro hg; try simp only [decide_eq_true_eq, decide_eq_false_iff_not] at hg) | (refine CallK.intro (dc_spec_l3Two _) ?_; simp +contextual -dsimp (maxSteps := 2000000) [go_sem, -decide_eq_true_eq, -decide_eq_false_iff_not, hx, htl, hsA, hsB]) | omega | exact True.intro | (have h9 := hr (by assumption); omega) | fail
         all_goals clear hk k
         all_goals (show St.Less _ _; exact Less.of rfl (by simp [go_sem, typBad, hxA] <;> grind [ownT, partT]) (by simp [go_sem]))
        ·skip
         refine AW.cond rfl ?_ ?_
         ·intro hc; try simp at hc
          all_goals try (exfalso; omega; done)
          all_goals (
           refine rg [2,3] ?_
           intro k hk; simp -dsimp [go_sem, -decide_eq_true_eq, -decide_eq_false_iff_not, hx, htl, hsA, hsB]
           repeat' first | apply And.intro | refine hk _ ?_ | intro hg | omega | exact True.intro | (have h9 := hr (by assumption); omega) | fail
           all_goals clear hk k
           refine rt ?_
           first | (exfalso; have h8 := typU_hit hlt (by first | assumption | simpa using hc); rw [huk] at h8; cases h8) | (have hie : i = e.length := (by omega); simp [go_sem, Try.results111, hie, typesL_len]))
         ·intro hc; try simp at hc
          all_goals try (exfalso; omega; done)
          all_goals (
           refine AW.skipN (fun _ h => h) ?_
           refine rgN [0,4,5] (fun _ h => h) ?_
           intro k hk; simp -dsimp [go_sem, -decide_eq_true_eq, -decide_eq_false_iff_not, hx, htl, hsA, hsB]
           repeat' first | apply And.intro | refine hk _ ?_ | intro hg | omega | exact True.intro | (have h9 := hr (by assumption); omega) | fail
           all_goals clear hk k
           refine rgK ?_
           intro k hk; simp -dsimp [go_sem, -decide_eq_true_eq, -decide_eq_false_iff_not, hx, htl, hsA, hsB]
           repeat' first | apply And.intro | refine hk _ ?_ | intro hg | omega | exact True.intro | (have h9 := hr (by assumption); omega) | fail
           all_goals clear hk k
           show ∃ _, _
           have hw := wrapi hlt (by omega)
           have hub : typBad e i = false := by simpa using hc
           refine ⟨i + 1, ⟨by omega, typU_go hu hub⟩, by omega, Less.of rfl (by simp [go_sem, hw]) (by simp [go_sem, typesL_succ, hxA, htk] <;> (unfold ownT; first | omega | (split <;> omega)))⟩))))
 ·intro hc; try simp at hc
  all_goals try (exfalso; omega; done)
  all_goals (
   refine AW.exitN (fun _ h => h) ?_
   refine rg [2,3] ?_
   intro k hk; simp -dsimp [go_sem, -decide_eq_true_eq, -decide_eq_false_iff_not]
   repeat' first | apply And.intro | refine hk _ ?_ | intro hg | omega | exact True.intro | (have h9 := hr (by assumption); omega) | fail
   all_goals clear hk k
   refine rt ?_
   first | (exfalso; have h8 := typU_hit hlt (by first | assumption | simpa using hc); rw [huk] at h8; cases h8) | (have hie : i = e.length := (by omega); simp [go_sem, Try.results111, hie, typesL_len]))

end Go.AM
namespace Go.AM
open Go.Proofs

/-- spec.l3Type -/
theorem dc_spec_l3Type_f (e : List TNode) (he : e.length ≤ 9223372036854775807) (h0 : exprF e ≠ 0) : DC Try.prog 89 [.isl 4 (e.map TNode.ro)] (.tup [.int .i64 (typV e), .int .i64 (typC e)]) [] := by
 obtain ⟨hC, hV⟩ := typC_f h0
 refine DC.intro tiOk Try.func89 rfl rfl rfl rfl rfl rfl rfl rfl [] ?_
 refine rg [0] ?_
 intro k hk; simp -dsimp [go_sem, -decide_eq_true_eq, -decide_eq_false_iff_not, h0, hC, hV]
 repeat' first | apply And.intro | refine hk _ ?_ | intro hg | omega | exact True.intro
 all_goals clear hk k
 refine AW.seq ?_
 refine rg [0,4] ?_
 intro k hk; simp -dsimp (maxSteps := 2000000) [go_sem, -decide_eq_true_eq, -decide_eq_false_iff_not, h0, hC, hV]
 repeat' first | apply And.intro | refine hk _ ?_ | intro hg | (refine CallK.intro (dc_spec_l3Fault e he) ?_; simp -dsimp (maxSteps := 2000000) [go_sem, -decide_eq_true_eq, -decide_eq_false_iff_not, h0, hC, hV]) | omega | exact True.intro
 all_goals clear hk k
 refine rg [0,4,10] ?_
 intro k hk; simp -dsimp [go_sem, -decide_eq_true_eq, -decide_eq_false_iff_not, h0, hC, hV]
 repeat' first | apply And.intro | refine hk _ ?_ | intro hg | omega | exact True.intro
 all_goals clear hk k
 refine AW.cond rfl ?_ ?_
 ·intro hc; try simp at hc
  all_goals try (exfalso; contradiction; done)
  all_goals (
   refine rg [2,3] ?_
   intro k hk; simp -dsimp [go_sem, -decide_eq_true_eq, -decide_eq_false_iff_not, h0, hC, hV]
   repeat' first | apply And.intro | refine hk _ ?_ | intro hg | omega | exact True.intro
   all_goals clear hk k
   refine rt ?_
   simp [go_sem, Try.results89, hC, hV])
 ·intro hc; try simp at hc
  all_goals try (exfalso; contradiction; done)
  all_goals (
   refine AW.skipN (fun _ h => h) ?_
   refine rg [5,6] ?_
   intro k hk; simp -dsimp (maxSteps := 2000000) [go_sem, -decide_eq_true_eq, -decide_eq_false_iff_not, h0, hC, hV]
   repeat' first | apply And.intro | refine hk _ ?_ | intro hg | (refine CallK.intro (skip) ?_; simp -dsimp (maxSteps := 2000000) [go_sem, -decide_eq_true_eq, -decide_eq_false_iff_not, h0, hC, hV]) | omega | exact True.intro
   all_goals clear hk k
   refine AW.seq ?_
   refine rg [5,18] ?_
   intro k hk; simp -dsimp [go_sem, -decide_eq_true_eq, -decide_eq_false_iff_not, h0, hC, hV]
   repeat' first | apply And.intro | refine hk _ ?_ | intro hg | omega | exact True.intro
   all_goals clear hk k
   refine AW.cond rfl ?_ ?_
   ·intro hc; try simp at hc
    all_goals try (exfalso; contradiction; done)
    all_goals (
     refine rg [2,3] ?_
     intro k hk; simp -dsimp [go_sem, -decide_eq_true_eq, -decide_eq_false_iff_not, h0, hC, hV]
     repeat' first | apply And.intro | refine hk _ ?_ | intro hg | omega | exact True.intro
     all_goals clear hk k
     refine rt ?_
     simp [go_sem, Try.results89, hC, hV])
   ·intro hc; try simp at hc
    all_goals try (exfalso; contradiction; done)
    all_goals (
     refine AW.skipN (fun _ h => h) ?_
     have htl := typesL_len e e.length
     have hlast := typesL_at (e := e) (show e.length - 1 < e.length by omega)
     have hwl : IntKind.wrap .i64 ((e.length : Int) - 1) = (e.length : Int) - 1 := wrap64 (by omega) (by omega)
     have hwt : ((e.length : Int) - 1).toNat = e.length - 1 := by omega
     refine rg [2,3] ?_
     intro k hk; simp -dsimp (maxSteps := 2000000) [go_sem, -decide_eq_true_eq, -decide_eq_false_iff_not, h0, hC, hV, htl, hlast, hwl, hwt]
     repeat' first | apply And.intro | refine hk _ ?_ | intro hg | omega | exact True.intro
     all_goals clear hk k
     refine rt ?_
     simp [go_sem, Try.results89, hC, hV]))

/-- spec.l3Type -/
theorem dc_spec_l3Type_b (e : List TNode) (he : e.length ≤ 9223372036854775807) (h0 : exprF e = 0) (hub : typU e e.length = true) : DC Try.prog 89 [.isl 4 (e.map TNode.ro)] (.tup [.int .i64 (typV e), .int .i64 (typC e)]) [] := by
 obtain ⟨hR, hP⟩ := exprF_zero h0
 have hlen := inR_iff.1 hR
 obtain ⟨hC, hV⟩ := typC_b h0 hub
 refine DC.intro tiOk Try.func89 rfl rfl rfl rfl rfl rfl rfl rfl [] ?_
 refine rg [0] ?_
 intro k hk; simp -dsimp [go_sem, -decide_eq_true_eq, -decide_eq_false_iff_not, h0, hC, hV]
 repeat' first | apply And.intro | refine hk _ ?_ | intro hg | omega | exact True.intro
 all_goals clear hk k
 refine AW.seq ?_
 refine rg [0,4] ?_
 intro k hk; simp -dsimp (maxSteps := 2000000) [go_sem, -decide_eq_true_eq, -decide_eq_false_iff_not, h0, hC, hV]
 repeat' first | apply And.intro | refine hk _ ?_ | intro hg | (refine CallK.intro (dc_spec_l3Fault e he) ?_; simp -dsimp (maxSteps := 2000000) [go_sem, -decide_eq_true_eq, -decide_eq_false_iff_not, h0, hC, hV]) | omega | exact True.intro
 all_goals clear hk k
 refine rg [0,4,10] ?_
 intro k hk; simp -dsimp [go_sem, -decide_eq_true_eq, -decide_eq_false_iff_not, h0, hC, hV]
 repeat' first | apply And.intro | refine hk _ ?_ | intro hg | omega | exact True.intro
 all_goals clear hk k
 refine AW.cond rfl ?_ ?_
 ·intro hc; try simp at hc
  all_goals try (exfalso; contradiction; done)
  all_goals (
   refine rg [2,3] ?_
   intro k hk; simp -dsimp [go_sem, -decide_eq_true_eq, -decide_eq_false_iff_not, h0, hC, hV]
   repeat' first | apply And.intro | refine hk _ ?_ | intro hg | omega | exact True.intro
   all_goals clear hk k
   refine rt ?_
   simp [go_sem, Try.results89, hC, hV])
 ·intro hc; try simp at hc
  all_goals try (exfalso; contradiction; done)
  all_goals (
   refine AW.skipN (fun _ h => h) ?_
   refine rg [5,6] ?_
   intro k hk; simp -dsimp (maxSteps := 2000000) [go_sem, -decide_eq_true_eq, -decide_eq_false_iff_not, h0, hC, hV]
   repeat' first | apply And.intro | refine hk _ ?_ | intro hg | (refine CallK.intro (dc_spec_l3Types_b e hP (by omega) hub) ?_; simp -dsimp (maxSteps := 2000000) [go_sem, -decide_eq_true_eq, -decide_eq_false_iff_not, h0, hC, hV]) | omega | exact True.intro
   all_goals clear hk k
   refine AW.seq ?_
   refine rg [5,18] ?_
   intro k hk; simp -dsimp [go_sem, -decide_eq_true_eq, -decide_eq_false_iff_not, h0, hC, hV]
   repeat' first | apply And.intro | refine hk _ ?_ | intro hg | omega | exact True.intro
   all_goals clear hk k
   refine AW.cond rfl ?_ ?_
   ·intro hc; try simp at hc
    all_goals try (exfalso; contradiction; done)
    all_goals (
     refine rg [2,3] ?_
     intro k hk; simp -dsimp [go_sem, -decide_eq_true_eq, -decide_eq_false_iff_not, h0, hC, hV]
     repeat' first | apply And.intro | refine hk _ ?_ | intro hg | omega | exact True.intro
     all_goals clear hk k
     refine rt ?_
     simp [go_sem, Try.results89, hC, hV])
   ·intro hc; try simp at hc
    all_goals try (exfalso; contradiction; done)
    all_goals (
     refine AW.skipN (fun _ h => h) ?_
     have htl := typesL_len e e.length
     have hlast := typesL_at (e := e) (show e.length - 1 < e.length by omega)
     have hwl : IntKind.wrap .i64 ((e.length : Int) - 1) = (e.length : Int) - 1 := wrap64 (by omega) (by omega)
     have hwt : ((e.length : Int) - 1).toNat = e.length - 1 := by omega
     refine rg [2,3] ?_
     intro k hk; simp -dsimp (maxSteps := 2000000) [go_sem, -decide_eq_true_eq, -decide_eq_false_iff_not, h0, hC, hV, htl, hlast, hwl, hwt]
     repeat' first | apply And.intro | refine hk _ ?_ | intro hg | omega | exact True.intro
     all_goals clear hk k
     refine rt ?_
     simp [go_sem, Try.results89, hC, hV]))

/-- spec.l3Type -/
theorem dc_spec_l3Type_k (e : List TNode) (he : e.length ≤ 9223372036854775807) (h0 : exprF e = 0) (huk : typU e e.length = false) : DC Try.prog 89 [.isl 4 (e.map TNode.ro)] (.tup [.int .i64 (typV e), .int .i64 (typC e)]) [] := by
 obtain ⟨hR, hP⟩ := exprF_zero h0
 have hlen := inR_iff.1 hR
 obtain ⟨hC, hV⟩ := typC_k h0 huk
 refine DC.intro tiOk Try.func89 rfl rfl rfl rfl rfl rfl rfl rfl [] ?_
 refine rg [0] ?_
 intro k hk; simp -dsimp [go_sem, -decide_eq_true_eq, -decide_eq_false_iff_not, h0, hC, hV]
 repeat' first | apply And.intro | refine hk _ ?_ | intro hg | omega | exact True.intro
 all_goals clear hk k
 refine AW.seq ?_
 refine rg [0,4] ?_
 intro k hk; simp -dsimp (maxSteps := 2000000) [go_sem, -decide_eq_true_eq, -decide_eq_false_iff_not, h0, hC, hV]
 repeat' first | apply And.intro | refine hk _ ?_ | intro hg | (refine CallK.intro (dc_spec_l3Fault e he) ?_; simp -dsimp (maxSteps := 2000000) [go_sem, -decide_eq_true_eq, -decide_eq_false_iff_not, h0, hC, hV]) | omega | exact True.intro
 all_goals clear hk k
 refine rg [0,4,10] ?_
 intro k hk; simp -dsimp [go_sem, -decide_eq_true_eq, -decide_eq_false_iff_not, h0, hC, hV]
 repeat' first | apply And.intro | refine hk _ ?_ | intro hg | omega | exact True.intro
 all_goals clear hk k
 refine AW.cond rfl ?_ ?_
 ·intro hc; try simp at hc
  all_goals try (exfalso; contradiction; done)
  all_goals (
   refine rg [2,3] ?_
   intro k hk; simp -dsimp [go_sem, -decide_eq_true_eq, -decide_eq_false_iff_not, h0, hC, hV]
   repeat' first | apply And.intro | refine hk _ ?_ | intro hg | omega | exact True.intro
   all_goals clear hk k
   refine rt ?_
   simp [go_sem, Try.results89, hC, hV])
 ·intro hc; try simp at hc
  all_goals try (exfalso; contradiction; done)
  all_goals (
   refine AW.skipN (fun _ h => h) ?_
   refine rg [5,6] ?_
   intro k hk; simp -dsimp (maxSteps := 2000000) [go_sem, -decide_eq_true_eq, -decide_eq_false_iff_not, h0, hC, hV]
   repeat' first | apply And.intro | refine hk _ ?_ | intro hg | (refine CallK.intro (dc_spec_l3Types_k e hP (by omega) huk) ?_; simp -dsimp (maxSteps := 2000000) [go_sem, -decide_eq_true_eq, -decide_eq_false_iff_not, h0, hC, hV]) | omega | exact True.intro
   all_goals clear hk k
   refine AW.seq ?_
   refine rg [5,18] ?_
   intro k hk; simp -dsimp [go_sem, -decide_eq_true_eq, -decide_eq_false_iff_not, h0, hC, hV]
   repeat' first | apply And.intro | refine hk _ ?_ | intro hg | omega | exact True.intro
   all_goals clear hk k
   refine AW.cond rfl ?_ ?_
   ·intro hc; try simp at hc
    all_goals try (exfalso; contradiction; done)
    all_goals (
     refine rg [2,3] ?_
     intro k hk; simp -dsimp [go_sem, -decide_eq_true_eq, -decide_eq_false_iff_not, h0, hC, hV]
     repeat' first | apply And.intro | refine hk _ ?_ | intro hg | omega | exact True.intro
     all_goals clear hk k
     refine rt ?_
     simp [go_sem, Try.results89, hC, hV])
   ·intro hc; try simp at hc
    all_goals try (exfalso; contradiction; done)
    all_goals (
     refine AW.skipN (fun _ h => h) ?_
     have htl := typesL_len e e.length
     have hlast := typesL_at (e := e) (show e.length - 1 < e.length by omega)
     have hwl : IntKind.wrap .i64 ((e.length : Int) - 1) = (e.length : Int) - 1 := wrap64 (by omega) (by omega)
     have hwt : ((e.length : Int) - 1).toNat = e.length - 1 := by omega
     refine rg [2,3] ?_
     intro k hk; simp -dsimp (maxSteps := 2000000) [go_sem, -decide_eq_true_eq, -decide_eq_false_iff_not, h0, hC, hV, htl, hlast, hwl, hwt]
     repeat' first | apply And.intro | refine hk _ ?_ | intro hg | omega | exact True.intro
     all_goals clear hk k
     refine rt ?_
     simp [go_sem, Try.results89, hC, hV]))
theorem dc_spec_l3Type (e : List TNode) (he : e.length ≤ 9223372036854775807) : DC Try.prog 89 [.isl 4 (e.map TNode.ro)] (.tup [.int .i64 (typV e), .int .i64 (typC e)]) [] := by
  by_cases h0 : exprF e = 0
  · by_cases hu : typU e e.length = true
    · exact dc_spec_l3Type_b e he h0 hu
    · exact dc_spec_l3Type_k e he h0 (by simpa using hu)
  · exact dc_spec_l3Type_f e he h0

/-- spec.l4Typed -/
theorem dc_spec_l4Typed (e : List TNode) (w : Int) (he : e.length ≤ 9223372036854775807) : DC Try.prog 49 [.isl 4 (e.map TNode.ro), .int .i64 w] (.int .i64 (typF e w)) [] := by
 refine DC.intro tiOk Try.func49 rfl rfl rfl rfl rfl rfl rfl rfl [] ?_
 refine rgA [0,1] ?_
 refine AW.seq ?_
 refine rgA [0,1,9] ?_
 refine AW.cond rfl ?_ ?_
 ·intro hc; try simp at hc
  all_goals (
   refine rgA [4] ?_
   refine rt ?_
   simp [go_sem, Try.results49, typF, firstC_cons, firstC_nil] <;> grind)
 ·intro hc; try simp at hc
  all_goals (
   refine AW.skipN (fun _ h => h) ?_
   refine rg [1,5,6] ?_
   intro k hk; simp -dsimp (maxSteps := 2000000) [go_sem, -decide_eq_true_eq, -decide_eq_false_iff_not]
   repeat' first | apply And.intro | refine hk _ ?_ | intro hg | (refine CallK.intro (dc_spec_l3Type e he) ?_; simp -dsimp (maxSteps := 2000000) [go_sem, -decide_eq_true_eq, -decide_eq_false_iff_not]) | omega | exact True.intro
   all_goals clear hk k
   refine AW.seq ?_
   refine rgA [1,5,6,16] ?_
   refine AW.cond rfl ?_ ?_
   ·intro hc; try simp at hc
    all_goals (
     refine rgA [4] ?_
     refine rt ?_
     simp [go_sem, Try.results49, typF, firstC_cons, firstC_nil] <;> grind)
   ·intro hc; try simp at hc
    all_goals (
     refine AW.skipN (fun _ h => h) ?_
     refine AW.seq ?_
     refine rgA [20] ?_
     refine AW.cond rfl ?_ ?_
     ·intro hc; try simp at hc
      all_goals (
       refine rgA [4] ?_
       refine rt ?_
       simp [go_sem, Try.results49, typF, firstC_cons, firstC_nil] <;> grind)
     ·intro hc; try simp at hc
      all_goals (
       refine AW.skipN (fun _ h => h) ?_
       refine rgA [4] ?_
       refine rt ?_
       simp [go_sem, Try.results49, typF, firstC_cons, firstC_nil] <;> grind)))

/-- spec.l1Name -/
theorem dc_spec_l1Name (s : List UInt8) (hs : s.length ≤ 9223372036854775807) : DC Try.prog 83 [.str s] (.int .i64 (nameF s)) [] := by
 refine DC.intro tiOk Try.func83 rfl rfl rfl rfl rfl rfl rfl rfl [] ?_
 refine rgA [0] ?_
 refine AW.seq ?_
 refine rgA [0,3] ?_
 refine AW.block ?_
 refine AW.loopI (fun i : Nat => ⟨25, [(0, .str s), (3, .int .i64 i)], []⟩) (fun i => i ≤ s.length ∧ (s.take i).all isLow = true) (fun i => s.length - i) (0) (by simp) (Less.of rfl (by simp [go_sem]) (by simp [go_sem])) ?_
 rintro i ⟨hi, hall⟩
 refine AW.seq ?_
 refine rgA [0,3,7] ?_
 refine AW.cond rfl ?_ ?_
 ·intro hc; try simp at hc
  all_goals (
   have hlt : i < s.length := by assumption
   obtain ⟨x, hx⟩ := at_some hlt
   refine AW.skipN (fun _ h => h) ?_
   refine AW.seq ?_
   refine AW.block ?_
   refine rg [0,3,19] ?_
   intro k hk; simp +contextual -dsimp (maxSteps := 2000000) [go_sem, -decide_eq_true_eq, -decide_eq_false_iff_not, hx]
   repeat' first | apply And.intro | refine hk _ ?_ | (intro hg; try simp only [decide_eq_true_eq, decide_eq_false_iff_not] at hg) | omega | exact True.intro
   all_goals clear hk k
   all_goals (
    refine AW.cond rfl ?_ ?_
    ·intro hc; try simp at hc
     all_goals (
      refine rg [2] ?_
      intro k hk; simp -dsimp [go_sem, -decide_eq_true_eq, -decide_eq_false_iff_not, hx]
      repeat' first | apply And.intro | refine hk _ ?_ | intro hg | omega | exact True.intro
      all_goals clear hk k
      refine rt ?_
      first | (have hr := all_not (p := isLow) hx (by simp [isLow]; omega); simp [go_sem, Try.results83, nameF, hr]; done) | (have hr := all_end (p := isLow) (show s.length ≤ i by omega) hall; simp [go_sem, Try.results83, nameF, hr] at * <;> grind))
    ·intro hc; try simp at hc
     all_goals (
      refine AW.skipN (fun _ h => h) ?_
      refine rgK ?_
      intro k hk; simp -dsimp [go_sem, -decide_eq_true_eq, -decide_eq_false_iff_not, hx]
      repeat' first | apply And.intro | refine hk _ ?_ | intro hg | omega | exact True.intro
      all_goals clear hk k
      show ∃ _, _
      have hw := wrapi hlt (by omega)
      refine ⟨i + 1, ⟨by omega, by rw [all_take hx hall]; simp [isLow]; omega⟩, by omega, Less.of rfl (by simp [go_sem, hw]) (by simp [go_sem])⟩)))
 ·intro hc; try simp at hc
  all_goals (
   refine AW.exitN (fun _ h => h) ?_
   refine AW.seq ?_
   refine rgA [0,21] ?_
   refine AW.cond rfl ?_ ?_
   ·intro hc; try simp at hc
    all_goals (
     refine rgA [2] ?_
     refine rt ?_
     first | (have hr := all_not (p := isLow) hx (by simp [isLow]; omega); simp [go_sem, Try.results83, nameF, hr]; done) | (have hr := all_end (p := isLow) (show s.length ≤ i by omega) hall; simp [go_sem, Try.results83, nameF, hr] at * <;> grind))
   ·intro hc; try simp at hc
    all_goals (
     refine AW.skipN (fun _ h => h) ?_
     refine AW.seq ?_
     refine rgA [24] ?_
     refine AW.cond rfl ?_ ?_
     ·intro hc; try simp at hc
      all_goals (
       refine rgA [2] ?_
       refine rt ?_
       first | (have hr := all_not (p := isLow) hx (by simp [isLow]; omega); simp [go_sem, Try.results83, nameF, hr]; done) | (have hr := all_end (p := isLow) (show s.length ≤ i by omega) hall; simp [go_sem, Try.results83, nameF, hr] at * <;> grind))
     ·intro hc; try simp at hc
      all_goals (
       refine AW.skipN (fun _ h => h) ?_
       refine rgA [2] ?_
       refine rt ?_
       first | (have hr := all_not (p := isLow) hx (by simp [isLow]; omega); simp [go_sem, Try.results83, nameF, hr]; done) | (have hr := all_end (p := isLow) (show s.length ≤ i by omega) hall; simp [go_sem, Try.results83, nameF, hr] at * <;> grind))))

end Go.AM
namespace Go.AM
open Go.Proofs

/-- spec.l4One -/
theorem dc_spec_l4One (p : List TStep) (hp : 1 ≤ p.length ∧ p.length ≤ 24) (hg : ∀ e ∈ p, e.gok) (i : Nat) (hi : i < p.length) (h1 : ∀ k, k < i → oneF p k = 0) : DC Try.prog 47 [.isl 6 (p.map TStep.ro), .int .i64 (i : Nat)] (.int .i64 (oneF p i)) [] := by
 obtain ⟨x, hx⟩ := at_some hi
 obtain ⟨g0, g1, g2⟩ := hg x (List.mem_of_getElem? hx)
 have hl := ones_ok i (by omega) h1
 have hL : ((pars p).take i).length = i := take_len (by omega)
 have hxo := oneF_at hx
 have hwi : IntKind.wrap .i64 ((i : Int) - 1) = (i : Int) - 1 := wrap64 (by omega) (by omega)
 have hdi : (decide ((i : Int) = 0)) = decide (i = 0) := by by_cases h : i = 0 <;> simp [h]
 refine DC.intro tiOk Try.func47 rfl rfl rfl rfl rfl rfl rfl rfl [] ?_
 refine rg [0,1] ?_
 intro k hk; simp -dsimp [go_sem, -decide_eq_true_eq, -decide_eq_false_iff_not, hx, hwi]
 repeat' first | apply And.intro | refine hk _ ?_ | intro hg | omega | exact True.intro
 all_goals clear hk k
 refine rg [0,1,5] ?_
 intro k hk; simp -dsimp [go_sem, -decide_eq_true_eq, -decide_eq_false_iff_not, hx, hwi]
 repeat' first | apply And.intro | refine hk _ ?_ | intro hg | omega | exact True.intro
 all_goals clear hk k
 refine AW.seq ?_
 refine AW.cut ⟨82, [(0, .isl 6 (p.map TStep.ro)), (1, .int .i64 (i : Nat)), (5, .ip x.ro), (20, .bool (decide (inR x.kind 1 8 = false ∨ alien x = true)))], []⟩ ?_ ?_
 ·skip
  refine rgK ?_
  intro k hk; simp +contextual -dsimp (maxSteps := 2000000) [go_sem, -decide_eq_true_eq, -decide_eq_false_iff_not, hx, hwi]
  repeat' first | apply And.intro | refine hk _ ?_ | (intro hg; try simp only [decide_eq_true_eq, decide_eq_false_iff_not] at hg) | ((first | refine CallK.intro (dc_spec_l1In _ _ _) ?_ | refine CallK.intro (dc_spec_l4Bare x ⟨g0, g1, g2⟩) ?_); simp +contextual -dsimp (maxSteps := 2000000) [go_sem, -decide_eq_true_eq, -decide_eq_false_iff_not, hx, hwi]) | omega | exact True.intro
  all_goals clear hk k
  all_goals (show St.Less _ _; exact Less.of rfl (by simp [go_sem] <;> first | omega | grind) (by simp [go_sem]))
 ·skip
  refine AW.cond rfl ?_ ?_
  ·intro hc; try simp at hc
   all_goals try (exfalso; omega; done)
   all_goals (
    refine rg [4] ?_
    intro k hk; simp -dsimp [go_sem, -decide_eq_true_eq, -decide_eq_false_iff_not, hx, hwi]
    repeat' first | apply And.intro | refine hk _ ?_ | intro hg | omega | exact True.intro
    all_goals clear hk k
    refine rt ?_
    rw [hxo]
    first | (have hs : stepF ((pars p).take i) x = 1 := (by have := @inR_iff x.kind 1 8; unfold stepF; grind); rw [hs]; simp [go_sem, Try.results47]; done) | (have hs : stepF ((pars p).take i) x = 3 := (by have := @inR_iff x.kind 1 8; unfold stepF; grind); rw [hs]; simp [go_sem, Try.results47]; done) | (have hs : stepF ((pars p).take i) x = 2 := (by have := @inR_iff x.kind 1 8; unfold stepF; grind); rw [hs]; simp [go_sem, Try.results47]; done) | (have hs : stepF ((pars p).take i) x = nameF x.name := (by have := @inR_iff x.kind 1 8; unfold stepF; grind); rw [hs]; simp [go_sem, Try.results47]; done) | (have hs : stepF ((pars p).take i) x = exprF x.expr := (by have := @inR_iff x.kind 1 8; unfold stepF; grind); rw [hs]; simp [go_sem, Try.results47]; done) | (have hs : stepF ((pars p).take i) x = 0 := (by have := @inR_iff x.kind 1 8; unfold stepF; unfold alien at *; unfold lowA highA at *; grind); rw [hs]; simp [go_sem, Try.results47]))
  ·intro hc; try simp at hc
   all_goals try (exfalso; omega; done)
   all_goals (
    refine AW.skipN (fun _ h => h) ?_
    refine AW.seq ?_
    refine AW.cut ⟨82, [(0, .isl 6 (p.map TStep.ro)), (1, .int .i64 (i : Nat)), (5, .ip x.ro), (43, .bool (decide (parF ((pars p).take i) x.par = 3)))], []⟩ ?_ ?_
    ·skip
     refine rgK ?_
     intro k hk; simp +contextual -dsimp (maxSteps := 2000000) [go_sem, -decide_eq_true_eq, -decide_eq_false_iff_not, hx, hwi]
     repeat' first | apply And.intro | refine hk _ ?_ | (intro hg; try simp only [decide_eq_true_eq, decide_eq_false_iff_not] at hg) | (refine CallK.intro (dc_spec_l1In _ _ _) ?_; simp +contextual -dsimp (maxSteps := 2000000) [go_sem, -decide_eq_true_eq, -decide_eq_false_iff_not, hx, hwi]) | omega | exact True.intro
     all_goals clear hk k
     all_goals (show St.Less _ _; exact Less.of rfl (by simp [go_sem, parF, hL, inR] at * <;> grind) (by simp [go_sem]))
    ·skip
     refine AW.cond rfl ?_ ?_
     ·intro hc; try simp at hc
      all_goals try (exfalso; omega; done)
      all_goals (
       refine rg [4] ?_
       intro k hk; simp -dsimp [go_sem, -decide_eq_true_eq, -decide_eq_false_iff_not, hx, hwi]
       repeat' first | apply And.intro | refine hk _ ?_ | intro hg | omega | exact True.intro
       all_goals clear hk k
       refine rt ?_
       rw [hxo]
       first | (have hs : stepF ((pars p).take i) x = 1 := (by have := @inR_iff x.kind 1 8; unfold stepF; grind); rw [hs]; simp [go_sem, Try.results47]; done) | (have hs : stepF ((pars p).take i) x = 3 := (by have := @inR_iff x.kind 1 8; unfold stepF; grind); rw [hs]; simp [go_sem, Try.results47]; done) | (have hs : stepF ((pars p).take i) x = 2 := (by have := @inR_iff x.kind 1 8; unfold stepF; grind); rw [hs]; simp [go_sem, Try.results47]; done) | (have hs : stepF ((pars p).take i) x = nameF x.name := (by have := @inR_iff x.kind 1 8; unfold stepF; grind); rw [hs]; simp [go_sem, Try.results47]; done) | (have hs : stepF ((pars p).take i) x = exprF x.expr := (by have := @inR_iff x.kind 1 8; unfold stepF; grind); rw [hs]; simp [go_sem, Try.results47]; done) | (have hs : stepF ((pars p).take i) x = 0 := (by have := @inR_iff x.kind 1 8; unfold stepF; unfold alien at *; unfold lowA highA at *; grind); rw [hs]; simp [go_sem, Try.results47]))
     ·intro hc; try simp at hc
      all_goals try (exfalso; omega; done)
      all_goals (
       refine AW.skipN (fun _ h => h) ?_
       refine AW.seq ?_
       refine AW.cut ⟨82, [(0, .isl 6 (p.map TStep.ro)), (1, .int .i64 (i : Nat)), (5, .ip x.ro), (51, .bool (decide (parF ((pars p).take i) x.par = 1)))], []⟩ ?_ ?_
       ·skip
        refine rgK ?_
        intro k hk; simp +contextual -dsimp (maxSteps := 2000000) [go_sem, -decide_eq_true_eq, -decide_eq_false_iff_not, hx, hwi]
        repeat' first | apply And.intro | refine hk _ ?_ | (intro hg; try simp only [decide_eq_true_eq, decide_eq_false_iff_not] at hg) | (refine CallK.intro (dc_spec_l4Line p hp.2 i x hx (by omega) hl) ?_; simp +contextual -dsimp (maxSteps := 2000000) [go_sem, -decide_eq_true_eq, -decide_eq_false_iff_not, hx, hwi]) | omega | exact True.intro
        all_goals clear hk k
        all_goals (show St.Less _ _; exact Less.of rfl (by simp [go_sem, parF, hL] at * <;> grind) (by simp [go_sem]))
       ·skip
        refine AW.cond rfl ?_ ?_
        ·intro hc; try simp at hc
         all_goals try (exfalso; omega; done)
         all_goals (
          refine rg [4] ?_
          intro k hk; simp -dsimp [go_sem, -decide_eq_true_eq, -decide_eq_false_iff_not, hx, hwi]
          repeat' first | apply And.intro | refine hk _ ?_ | intro hg | omega | exact True.intro
          all_goals clear hk k
          refine rt ?_
          rw [hxo]
          first | (have hs : stepF ((pars p).take i) x = 1 := (by have := @inR_iff x.kind 1 8; unfold stepF; grind); rw [hs]; simp [go_sem, Try.results47]; done) | (have hs : stepF ((pars p).take i) x = 3 := (by have := @inR_iff x.kind 1 8; unfold stepF; grind); rw [hs]; simp [go_sem, Try.results47]; done) | (have hs : stepF ((pars p).take i) x = 2 := (by have := @inR_iff x.kind 1 8; unfold stepF; grind); rw [hs]; simp [go_sem, Try.results47]; done) | (have hs : stepF ((pars p).take i) x = nameF x.name := (by have := @inR_iff x.kind 1 8; unfold stepF; grind); rw [hs]; simp [go_sem, Try.results47]; done) | (have hs : stepF ((pars p).take i) x = exprF x.expr := (by have := @inR_iff x.kind 1 8; unfold stepF; grind); rw [hs]; simp [go_sem, Try.results47]; done) | (have hs : stepF ((pars p).take i) x = 0 := (by have := @inR_iff x.kind 1 8; unfold stepF; unfold alien at *; unfold lowA highA at *; grind); rw [hs]; simp [go_sem, Try.results47]))
        ·intro hc; try simp at hc
         all_goals try (exfalso; omega; done)
         all_goals (
          refine AW.skipN (fun _ h => h) ?_
          refine AW.seq ?_
          have hz : parF ((pars p).take i) x.par = 0 := by have : parF ((pars p).take i) x.par = 0 ∨ parF ((pars p).take i) x.par = 1 ∨ parF ((pars p).take i) x.par = 3 := (by unfold parF; split; exact Or.inr (Or.inr rfl); split; exact Or.inr (Or.inl rfl); exact Or.inl rfl); grind
          have hpo := parF_ok hz
          have htn := take_next hx
          have hl2 : ParOk ((pars p).take (i + 1)) := by rw [htn]; exact hl.snoc hpo.1 hpo.2.1
          refine rg [5,55] ?_
          intro k hk; simp -dsimp (maxSteps := 2000000) [go_sem, -decide_eq_true_eq, -decide_eq_false_iff_not, hx, hwi, htn]
          repeat' first | apply And.intro | refine hk _ ?_ | intro hg | (refine CallK.intro (dc_spec_l4Deep p hp.2 (i + 1) (by omega) hl2 (i : Int) (by omega)) ?_; simp -dsimp (maxSteps := 2000000) [go_sem, -decide_eq_true_eq, -decide_eq_false_iff_not, hx, hwi, htn]) | omega | exact True.intro
          all_goals clear hk k
          refine AW.cond rfl ?_ ?_
          ·intro hc; try simp at hc
           all_goals try (exfalso; omega; done)
           all_goals (
            refine rg [4] ?_
            intro k hk; simp -dsimp [go_sem, -decide_eq_true_eq, -decide_eq_false_iff_not, hx, hwi]
            repeat' first | apply And.intro | refine hk _ ?_ | intro hg | omega | exact True.intro
            all_goals clear hk k
            refine rt ?_
            rw [hxo]
            first | (have hs : stepF ((pars p).take i) x = 1 := (by have := @inR_iff x.kind 1 8; unfold stepF; grind); rw [hs]; simp [go_sem, Try.results47]; done) | (have hs : stepF ((pars p).take i) x = 3 := (by have := @inR_iff x.kind 1 8; unfold stepF; grind); rw [hs]; simp [go_sem, Try.results47]; done) | (have hs : stepF ((pars p).take i) x = 2 := (by have := @inR_iff x.kind 1 8; unfold stepF; grind); rw [hs]; simp [go_sem, Try.results47]; done) | (have hs : stepF ((pars p).take i) x = nameF x.name := (by have := @inR_iff x.kind 1 8; unfold stepF; grind); rw [hs]; simp [go_sem, Try.results47]; done) | (have hs : stepF ((pars p).take i) x = exprF x.expr := (by have := @inR_iff x.kind 1 8; unfold stepF; grind); rw [hs]; simp [go_sem, Try.results47]; done) | (have hs : stepF ((pars p).take i) x = 0 := (by have := @inR_iff x.kind 1 8; unfold stepF; unfold alien at *; unfold lowA highA at *; grind); rw [hs]; simp [go_sem, Try.results47]))
          ·intro hc; try simp at hc
           all_goals try (exfalso; omega; done)
           all_goals (
            refine AW.skipN (fun _ h => h) ?_
            refine AW.seq ?_
            refine rg [5,60] ?_
            intro k hk; simp -dsimp [go_sem, -decide_eq_true_eq, -decide_eq_false_iff_not, hx, hwi]
            repeat' first | apply And.intro | refine hk _ ?_ | intro hg | omega | exact True.intro
            all_goals clear hk k
            refine AW.cond rfl ?_ ?_
            ·intro hc; try simp at hc
             all_goals try (exfalso; omega; done)
             all_goals (
              refine rg [5,6] ?_
              intro k hk; simp -dsimp (maxSteps := 2000000) [go_sem, -decide_eq_true_eq, -decide_eq_false_iff_not, hx, hwi]
              repeat' first | apply And.intro | refine hk _ ?_ | intro hg | (refine CallK.intro (dc_spec_l1Name x.name g0) ?_; simp -dsimp (maxSteps := 2000000) [go_sem, -decide_eq_true_eq, -decide_eq_false_iff_not, hx, hwi]) | omega | exact True.intro
              all_goals clear hk k
              refine rg [5,6,67] ?_
              intro k hk; simp -dsimp [go_sem, -decide_eq_true_eq, -decide_eq_false_iff_not, hx, hwi]
              repeat' first | apply And.intro | refine hk _ ?_ | intro hg | omega | exact True.intro
              all_goals clear hk k
              refine AW.cond rfl ?_ ?_
              ·intro hc; try simp at hc
               all_goals try (exfalso; omega; done)
               all_goals (
                refine rg [4] ?_
                intro k hk; simp -dsimp [go_sem, -decide_eq_true_eq, -decide_eq_false_iff_not, hx, hwi]
                repeat' first | apply And.intro | refine hk _ ?_ | intro hg | omega | exact True.intro
                all_goals clear hk k
                refine rt ?_
                rw [hxo]
                first | (have hs : stepF ((pars p).take i) x = 1 := (by have := @inR_iff x.kind 1 8; unfold stepF; grind); rw [hs]; simp [go_sem, Try.results47]; done) | (have hs : stepF ((pars p).take i) x = 3 := (by have := @inR_iff x.kind 1 8; unfold stepF; grind); rw [hs]; simp [go_sem, Try.results47]; done) | (have hs : stepF ((pars p).take i) x = 2 := (by have := @inR_iff x.kind 1 8; unfold stepF; grind); rw [hs]; simp [go_sem, Try.results47]; done) | (have hs : stepF ((pars p).take i) x = nameF x.name := (by have := @inR_iff x.kind 1 8; unfold stepF; grind); rw [hs]; simp [go_sem, Try.results47]; done) | (have hs : stepF ((pars p).take i) x = exprF x.expr := (by have := @inR_iff x.kind 1 8; unfold stepF; grind); rw [hs]; simp [go_sem, Try.results47]; done) | (have hs : stepF ((pars p).take i) x = 0 := (by have := @inR_iff x.kind 1 8; unfold stepF; unfold alien at *; unfold lowA highA at *; grind); rw [hs]; simp [go_sem, Try.results47]))
              ·intro hc; try simp at hc
               all_goals try (exfalso; omega; done)
               all_goals (
                refine AW.skipN (fun _ h => h) ?_
                refine AW.seq ?_
                refine rg [5,71] ?_
                intro k hk; simp -dsimp (maxSteps := 2000000) [go_sem, -decide_eq_true_eq, -decide_eq_false_iff_not, hx, hwi]
                repeat' first | apply And.intro | refine hk _ ?_ | intro hg | (refine CallK.intro (dc_spec_l4Arg _) ?_; simp -dsimp (maxSteps := 2000000) [go_sem, -decide_eq_true_eq, -decide_eq_false_iff_not, hx, hwi]) | omega | exact True.intro
                all_goals clear hk k
                refine AW.cond rfl ?_ ?_
                ·intro hc; try simp at hc
                 all_goals try (exfalso; omega; done)
                 all_goals (
                  refine rg [4] ?_
                  intro k hk; simp -dsimp [go_sem, -decide_eq_true_eq, -decide_eq_false_iff_not, hx, hwi]
                  repeat' first | apply And.intro | refine hk _ ?_ | intro hg | omega | exact True.intro
                  all_goals clear hk k
                  refine rt ?_
                  rw [hxo]
                  first | (have hs : stepF ((pars p).take i) x = 1 := (by have := @inR_iff x.kind 1 8; unfold stepF; grind); rw [hs]; simp [go_sem, Try.results47]; done) | (have hs : stepF ((pars p).take i) x = 3 := (by have := @inR_iff x.kind 1 8; unfold stepF; grind); rw [hs]; simp [go_sem, Try.results47]; done) | (have hs : stepF ((pars p).take i) x = 2 := (by have := @inR_iff x.kind 1 8; unfold stepF; grind); rw [hs]; simp [go_sem, Try.results47]; done) | (have hs : stepF ((pars p).take i) x = nameF x.name := (by have := @inR_iff x.kind 1 8; unfold stepF; grind); rw [hs]; simp [go_sem, Try.results47]; done) | (have hs : stepF ((pars p).take i) x = exprF x.expr := (by have := @inR_iff x.kind 1 8; unfold stepF; grind); rw [hs]; simp [go_sem, Try.results47]; done) | (have hs : stepF ((pars p).take i) x = 0 := (by have := @inR_iff x.kind 1 8; unfold stepF; unfold alien at *; unfold lowA highA at *; grind); rw [hs]; simp [go_sem, Try.results47]))
                ·intro hc; try simp at hc
                 all_goals try (exfalso; omega; done)
                 all_goals (
                  refine AW.skipN (fun _ h => h) ?_
                  refine AW.seq ?_
                  refine rg [5,76] ?_
                  intro k hk; simp -dsimp [go_sem, -decide_eq_true_eq, -decide_eq_false_iff_not, hx, hwi]
                  repeat' first | apply And.intro | refine hk _ ?_ | intro hg | omega | exact True.intro
                  all_goals clear hk k
                  refine AW.cond rfl ?_ ?_
                  ·intro hc; try simp at hc
                   all_goals try (exfalso; omega; done)
                   all_goals (
                    refine rg [4] ?_
                    intro k hk; simp -dsimp (maxSteps := 2000000) [go_sem, -decide_eq_true_eq, -decide_eq_false_iff_not, hx, hwi]
                    repeat' first | apply And.intro | refine hk _ ?_ | intro hg | (refine CallK.intro (dc_spec_l3Fault x.expr g2) ?_; simp -dsimp (maxSteps := 2000000) [go_sem, -decide_eq_true_eq, -decide_eq_false_iff_not, hx, hwi]) | omega | exact True.intro
                    all_goals clear hk k
                    refine rt ?_
                    rw [hxo]
                    first | (have hs : stepF ((pars p).take i) x = 1 := (by have := @inR_iff x.kind 1 8; unfold stepF; grind); rw [hs]; simp [go_sem, Try.results47]; done) | (have hs : stepF ((pars p).take i) x = 3 := (by have := @inR_iff x.kind 1 8; unfold stepF; grind); rw [hs]; simp [go_sem, Try.results47]; done) | (have hs : stepF ((pars p).take i) x = 2 := (by have := @inR_iff x.kind 1 8; unfold stepF; grind); rw [hs]; simp [go_sem, Try.results47]; done) | (have hs : stepF ((pars p).take i) x = nameF x.name := (by have := @inR_iff x.kind 1 8; unfold stepF; grind); rw [hs]; simp [go_sem, Try.results47]; done) | (have hs : stepF ((pars p).take i) x = exprF x.expr := (by have := @inR_iff x.kind 1 8; unfold stepF; grind); rw [hs]; simp [go_sem, Try.results47]; done) | (have hs : stepF ((pars p).take i) x = 0 := (by have := @inR_iff x.kind 1 8; unfold stepF; unfold alien at *; unfold lowA highA at *; grind); rw [hs]; simp [go_sem, Try.results47]))
                  ·intro hc; try simp at hc
                   all_goals try (exfalso; omega; done)
                   all_goals (
                    refine AW.skipN (fun _ h => h) ?_
                    refine rg [4] ?_
                    intro k hk; simp -dsimp [go_sem, -decide_eq_true_eq, -decide_eq_false_iff_not, hx, hwi]
                    repeat' first | apply And.intro | refine hk _ ?_ | intro hg | omega | exact True.intro
                    all_goals clear hk k
                    refine rt ?_
                    rw [hxo]
                    first | (have hs : stepF ((pars p).take i) x = 1 := (by have := @inR_iff x.kind 1 8; unfold stepF; grind); rw [hs]; simp [go_sem, Try.results47]; done) | (have hs : stepF ((pars p).take i) x = 3 := (by have := @inR_iff x.kind 1 8; unfold stepF; grind); rw [hs]; simp [go_sem, Try.results47]; done) | (have hs : stepF ((pars p).take i) x = 2 := (by have := @inR_iff x.kind 1 8; unfold stepF; grind); rw [hs]; simp [go_sem, Try.results47]; done) | (have hs : stepF ((pars p).take i) x = nameF x.name := (by have := @inR_iff x.kind 1 8; unfold stepF; grind); rw [hs]; simp [go_sem, Try.results47]; done) | (have hs : stepF ((pars p).take i) x = exprF x.expr := (by have := @inR_iff x.kind 1 8; unfold stepF; grind); rw [hs]; simp [go_sem, Try.results47]; done) | (have hs : stepF ((pars p).take i) x = 0 := (by have := @inR_iff x.kind 1 8; unfold stepF; unfold alien at *; unfold lowA highA at *; grind); rw [hs]; simp [go_sem, Try.results47])))))
            ·intro hc; try simp at hc
             all_goals try (exfalso; omega; done)
             all_goals (
              refine AW.skipN (fun _ h => h) ?_
              refine AW.seq ?_
              refine rg [5,71] ?_
              intro k hk; simp -dsimp (maxSteps := 2000000) [go_sem, -decide_eq_true_eq, -decide_eq_false_iff_not, hx, hwi]
              repeat' first | apply And.intro | refine hk _ ?_ | intro hg | (refine CallK.intro (dc_spec_l4Arg _) ?_; simp -dsimp (maxSteps := 2000000) [go_sem, -decide_eq_true_eq, -decide_eq_false_iff_not, hx, hwi]) | omega | exact True.intro
              all_goals clear hk k
              refine AW.cond rfl ?_ ?_
              ·intro hc; try simp at hc
               all_goals try (exfalso; omega; done)
               all_goals (
                refine rg [4] ?_
                intro k hk; simp -dsimp [go_sem, -decide_eq_true_eq, -decide_eq_false_iff_not, hx, hwi]
                repeat' first | apply And.intro | refine hk _ ?_ | intro hg | omega | exact True.intro
                all_goals clear hk k
                refine rt ?_
                rw [hxo]
                first | (have hs : stepF ((pars p).take i) x = 1 := (by have := @inR_iff x.kind 1 8; unfold stepF; grind); rw [hs]; simp [go_sem, Try.results47]; done) | (have hs : stepF ((pars p).take i) x = 3 := (by have := @inR_iff x.kind 1 8; unfold stepF; grind); rw [hs]; simp [go_sem, Try.results47]; done) | (have hs : stepF ((pars p).take i) x = 2 := (by have := @inR_iff x.kind 1 8; unfold stepF; grind); rw [hs]; simp [go_sem, Try.results47]; done) | (have hs : stepF ((pars p).take i) x = nameF x.name := (by have := @inR_iff x.kind 1 8; unfold stepF; grind); rw [hs]; simp [go_sem, Try.results47]; done) | (have hs : stepF ((pars p).take i) x = exprF x.expr := (by have := @inR_iff x.kind 1 8; unfold stepF; grind); rw [hs]; simp [go_sem, Try.results47]; done) | (have hs : stepF ((pars p).take i) x = 0 := (by have := @inR_iff x.kind 1 8; unfold stepF; unfold alien at *; unfold lowA highA at *; grind); rw [hs]; simp [go_sem, Try.results47]))
              ·intro hc; try simp at hc
               all_goals try (exfalso; omega; done)
               all_goals (
                refine AW.skipN (fun _ h => h) ?_
                refine AW.seq ?_
                refine rg [5,76] ?_
                intro k hk; simp -dsimp [go_sem, -decide_eq_true_eq, -decide_eq_false_iff_not, hx, hwi]
                repeat' first | apply And.intro | refine hk _ ?_ | intro hg | omega | exact True.intro
                all_goals clear hk k
                refine AW.cond rfl ?_ ?_
                ·intro hc; try simp at hc
                 all_goals try (exfalso; omega; done)
                 all_goals (
                  refine rg [4] ?_
                  intro k hk; simp -dsimp (maxSteps := 2000000) [go_sem, -decide_eq_true_eq, -decide_eq_false_iff_not, hx, hwi]
                  repeat' first | apply And.intro | refine hk _ ?_ | intro hg | (refine CallK.intro (dc_spec_l3Fault x.expr g2) ?_; simp -dsimp (maxSteps := 2000000) [go_sem, -decide_eq_true_eq, -decide_eq_false_iff_not, hx, hwi]) | omega | exact True.intro
                  all_goals clear hk k
                  refine rt ?_
                  rw [hxo]
                  first | (have hs : stepF ((pars p).take i) x = 1 := (by have := @inR_iff x.kind 1 8; unfold stepF; grind); rw [hs]; simp [go_sem, Try.results47]; done) | (have hs : stepF ((pars p).take i) x = 3 := (by have := @inR_iff x.kind 1 8; unfold stepF; grind); rw [hs]; simp [go_sem, Try.results47]; done) | (have hs : stepF ((pars p).take i) x = 2 := (by have := @inR_iff x.kind 1 8; unfold stepF; grind); rw [hs]; simp [go_sem, Try.results47]; done) | (have hs : stepF ((pars p).take i) x = nameF x.name := (by have := @inR_iff x.kind 1 8; unfold stepF; grind); rw [hs]; simp [go_sem, Try.results47]; done) | (have hs : stepF ((pars p).take i) x = exprF x.expr := (by have := @inR_iff x.kind 1 8; unfold stepF; grind); rw [hs]; simp [go_sem, Try.results47]; done) | (have hs : stepF ((pars p).take i) x = 0 := (by have := @inR_iff x.kind 1 8; unfold stepF; unfold alien at *; unfold lowA highA at *; grind); rw [hs]; simp [go_sem, Try.results47]))
                ·intro hc; try simp at hc
                 all_goals try (exfalso; omega; done)
                 all_goals (
                  refine AW.skipN (fun _ h => h) ?_
                  refine rg [4] ?_
                  intro k hk; simp -dsimp [go_sem, -decide_eq_true_eq, -decide_eq_false_iff_not, hx, hwi]
                  repeat' first | apply And.intro | refine hk _ ?_ | intro hg | omega | exact True.intro
                  all_goals clear hk k
                  refine rt ?_
                  rw [hxo]
                  first | (have hs : stepF ((pars p).take i) x = 1 := (by have := @inR_iff x.kind 1 8; unfold stepF; grind); rw [hs]; simp [go_sem, Try.results47]; done) | (have hs : stepF ((pars p).take i) x = 3 := (by have := @inR_iff x.kind 1 8; unfold stepF; grind); rw [hs]; simp [go_sem, Try.results47]; done) | (have hs : stepF ((pars p).take i) x = 2 := (by have := @inR_iff x.kind 1 8; unfold stepF; grind); rw [hs]; simp [go_sem, Try.results47]; done) | (have hs : stepF ((pars p).take i) x = nameF x.name := (by have := @inR_iff x.kind 1 8; unfold stepF; grind); rw [hs]; simp [go_sem, Try.results47]; done) | (have hs : stepF ((pars p).take i) x = exprF x.expr := (by have := @inR_iff x.kind 1 8; unfold stepF; grind); rw [hs]; simp [go_sem, Try.results47]; done) | (have hs : stepF ((pars p).take i) x = 0 := (by have := @inR_iff x.kind 1 8; unfold stepF; unfold alien at *; unfold lowA highA at *; grind); rw [hs]; simp [go_sem, Try.results47]))))))))

end Go.AM
namespace Go.AM
open Go.Proofs

/-- spec.l4Shape -/
theorem dc_spec_l4Shape (p : List TStep) (ho : StepsOk p) (hg : ∀ e ∈ p, e.gok) : DC Try.prog 48 [.isl 6 (p.map TStep.ro)] (.int .i64 (sc (shapeF p) p.length 0)) [] := by
 have hlen := ho.len
 refine DC.intro tiOk Try.func48 rfl rfl rfl rfl rfl rfl rfl rfl [] ?_
 refine rgA [0] ?_
 refine AW.seq ?_
 refine rgA [0,3] ?_
 refine AW.block ?_
 refine AW.loopI (fun i : Nat => ⟨49, [(0, .isl 6 (p.map TStep.ro)), (3, .int .i64 i)], []⟩) (fun i => i ≤ p.length ∧ ∀ k, k < i → shapeF p k = 0) (fun i => p.length - i) (0) (by simp) (Less.of rfl (by simp [go_sem]) (by simp [go_sem])) ?_
 rintro i ⟨hi, hall⟩
 refine AW.seq ?_
 refine rgA [0,3,8] ?_
 refine AW.cond rfl ?_ ?_
 ·intro hc; try simp at hc
  all_goals (
   have hlt : i < p.length := by assumption
   obtain ⟨x, hx⟩ := at_some hlt
   have hxS := nS_at hx
   obtain ⟨g0, g1, g2⟩ := hg x (List.mem_of_getElem? hx)
   have hkm := kids_len p (i : Int)
   refine AW.skipN (fun _ h => h) ?_
   refine AW.seq ?_
   refine AW.block ?_
   refine AW.seq ?_
   refine rg [0,3,21] ?_
   intro k hk; simp -dsimp (maxSteps := 2000000) [go_sem, -decide_eq_true_eq, -decide_eq_false_iff_not, hx]
   repeat' first | (refine Chk.keys ?_; simp only [go_sem, List.map_cons, List.map_nil, List.flatMap_cons, List.flatMap_nil, List.flatMap_append, List.append_nil, List.nil_append, List.cons_append]; decide +kernel) | apply And.intro | refine hk _ ?_ | intro hg | ((first | refine CallK.intro (dc_spec_l4Kids p (i : Int) (by omega) (by rw [ho.par0]; omega)) ?_ | refine CallK.intro (dc_spec_l4Many x.kind (kids p (i : Int)).length (by omega)) ?_); simp -dsimp (maxSteps := 2000000) [go_sem, -decide_eq_true_eq, -decide_eq_false_iff_not, hx]) | omega | exact True.intro
   all_goals clear hk k
   refine AW.cond rfl ?_ ?_
   ·intro hc; try simp at hc
    all_goals (
     refine rg [2] ?_
     intro k hk; simp -dsimp [go_sem, -decide_eq_true_eq, -decide_eq_false_iff_not, hx]
     repeat' first | apply And.intro | refine hk _ ?_ | intro hg | omega | exact True.intro
     all_goals clear hk k
     refine rt ?_
     first | (rw [sc_none (fun k hk => hall k (by omega))]; simp [go_sem, Try.results48]; done) | (have hs : shapeF p i = 1 := (by simp [shapeF, hxS] at * <;> grind); rw [shape_sc hlt hall (by rw [hs]; decide), hs]; simp [go_sem, Try.results48]; done) | (have hs : shapeF p i = exprF x.cond := (by simp [shapeF, hxS] at * <;> grind); rw [shape_sc hlt hall (by rw [hs]; first | assumption | simpa using hc), hs]; simp [go_sem, Try.results48]))
   ·intro hc; try simp at hc
    all_goals (
     refine AW.skipN (fun _ h => h) ?_
     refine AW.seq ?_
     refine rg [0,3,32] ?_
     intro k hk; simp -dsimp (maxSteps := 2000000) [go_sem, -decide_eq_true_eq, -decide_eq_false_iff_not, hx]
     repeat' first | (refine Chk.keys ?_; simp only [go_sem, List.map_cons, List.map_nil, List.flatMap_cons, List.flatMap_nil, List.flatMap_append, List.append_nil, List.nil_append, List.cons_append]; decide +kernel) | apply And.intro | refine hk _ ?_ | intro hg | (refine CallK.intro (dc_spec_l4Needs p ho i hlt) ?_; simp -dsimp (maxSteps := 2000000) [go_sem, -decide_eq_true_eq, -decide_eq_false_iff_not, hx]) | omega | exact True.intro
     all_goals clear hk k
     refine AW.cond rfl ?_ ?_
     ·intro hc; try simp at hc
      all_goals (
       refine rg [2] ?_
       intro k hk; simp -dsimp [go_sem, -decide_eq_true_eq, -decide_eq_false_iff_not, hx]
       repeat' first | apply And.intro | refine hk _ ?_ | intro hg | omega | exact True.intro
       all_goals clear hk k
       refine rt ?_
       first | (rw [sc_none (fun k hk => hall k (by omega))]; simp [go_sem, Try.results48]; done) | (have hs : shapeF p i = 1 := (by simp [shapeF, hxS] at * <;> grind); rw [shape_sc hlt hall (by rw [hs]; decide), hs]; simp [go_sem, Try.results48]; done) | (have hs : shapeF p i = exprF x.cond := (by simp [shapeF, hxS] at * <;> grind); rw [shape_sc hlt hall (by rw [hs]; first | assumption | simpa using hc), hs]; simp [go_sem, Try.results48]))
     ·intro hc; try simp at hc
      all_goals (
       refine AW.skipN (fun _ h => h) ?_
       refine rg [0,3,39] ?_
       intro k hk; simp -dsimp (maxSteps := 2000000) [go_sem, -decide_eq_true_eq, -decide_eq_false_iff_not, hx]
       repeat' first | apply And.intro | refine hk _ ?_ | intro hg | omega | exact True.intro
       all_goals clear hk k
       refine AW.cond rfl ?_ ?_
       ·intro hc; try simp at hc
        all_goals (
         refine rg [0,3,4] ?_
         intro k hk; simp -dsimp (maxSteps := 2000000) [go_sem, -decide_eq_true_eq, -decide_eq_false_iff_not, hx]
         repeat' first | apply And.intro | refine hk _ ?_ | intro hg | (refine CallK.intro (dc_spec_l3Fault x.cond g1) ?_; simp -dsimp (maxSteps := 2000000) [go_sem, -decide_eq_true_eq, -decide_eq_false_iff_not, hx]) | omega | exact True.intro
         all_goals clear hk k
         refine rg [0,3,4,47] ?_
         intro k hk; simp -dsimp [go_sem, -decide_eq_true_eq, -decide_eq_false_iff_not, hx]
         repeat' first | apply And.intro | refine hk _ ?_ | intro hg | omega | exact True.intro
         all_goals clear hk k
         refine AW.cond rfl ?_ ?_
         ·intro hc; try simp at hc
          all_goals (
           refine rg [2] ?_
           intro k hk; simp -dsimp [go_sem, -decide_eq_true_eq, -decide_eq_false_iff_not, hx]
           repeat' first | apply And.intro | refine hk _ ?_ | intro hg | omega | exact True.intro
           all_goals clear hk k
           refine rt ?_
           first | (rw [sc_none (fun k hk => hall k (by omega))]; simp [go_sem, Try.results48]; done) | (have hs : shapeF p i = 1 := (by simp [shapeF, hxS] at * <;> grind); rw [shape_sc hlt hall (by rw [hs]; decide), hs]; simp [go_sem, Try.results48]; done) | (have hs : shapeF p i = exprF x.cond := (by simp [shapeF, hxS] at * <;> grind); rw [shape_sc hlt hall (by rw [hs]; first | assumption | simpa using hc), hs]; simp [go_sem, Try.results48]))
         ·intro hc; try simp at hc
          all_goals (
           refine AW.skipN (fun _ h => h) ?_
           refine rgK ?_
           intro k hk; simp -dsimp [go_sem, -decide_eq_true_eq, -decide_eq_false_iff_not, hx]
           repeat' first | apply And.intro | refine hk _ ?_ | intro hg | omega | exact True.intro
           all_goals clear hk k
           show ∃ _, _
           have hw := wrapi hlt (by omega)
           refine ⟨i + 1, ⟨by omega, upto hall (by simp [shapeF, hxS] at * <;> grind)⟩, by omega, Less.of rfl (by simp [go_sem, hw]) (by simp [go_sem])⟩))
       ·intro hc; try simp at hc
        all_goals (
         refine AW.skipN (fun _ h => h) ?_
         refine rgK ?_
         intro k hk; simp -dsimp [go_sem, -decide_eq_true_eq, -decide_eq_false_iff_not, hx]
         repeat' first | apply And.intro | refine hk _ ?_ | intro hg | omega | exact True.intro
         all_goals clear hk k
         show ∃ _, _
         have hw := wrapi hlt (by omega)
         refine ⟨i + 1, ⟨by omega, upto hall (by simp [shapeF, hxS] at * <;> grind)⟩, by omega, Less.of rfl (by simp [go_sem, hw]) (by simp [go_sem])⟩))))
 ·intro hc; try simp at hc
  all_goals (
   refine AW.exitN (fun _ h => h) ?_
   refine rgA [2] ?_
   refine rt ?_
   first | (rw [sc_none (fun k hk => hall k (by omega))]; simp [go_sem, Try.results48]; done) | (have hs : shapeF p i = 1 := (by simp [shapeF, hxS] at * <;> grind); rw [shape_sc hlt hall (by rw [hs]; decide), hs]; simp [go_sem, Try.results48]; done) | (have hs : shapeF p i = exprF x.cond := (by simp [shapeF, hxS] at * <;> grind); rw [shape_sc hlt hall (by rw [hs]; first | assumption | simpa using hc), hs]; simp [go_sem, Try.results48]))

end Go.AM
namespace Go.AM
open Go.Proofs

/-- spec.l4Fault -/
theorem dc_spec_l4Fault (p : List TStep) (hp : p.length ≤ 9223372036854775807) (hg : ∀ e ∈ p, e.gok) : DC Try.prog 24 [.isl 6 (p.map TStep.ro)] (.int .i64 (procF p)) [] := by
 refine DC.intro tiOk Try.func24 rfl rfl rfl rfl rfl rfl rfl rfl [] ?_
 refine rgA [0] ?_
 refine AW.seq ?_
 refine AW.cut ⟨58, [(0, .isl 6 (p.map TStep.ro)), (16, .bool (decide (p.length < 1 ∨ 24 < p.length)))], []⟩ ?_ ?_
 ·skip
  refine rgK ?_
  intro k hk; simp +contextual -dsimp (maxSteps := 2000000) [go_sem, -decide_eq_true_eq, -decide_eq_false_iff_not]
  repeat' first | apply And.intro | refine hk _ ?_ | (intro hg; try simp only [decide_eq_true_eq, decide_eq_false_iff_not] at hg) | omega | exact True.intro
  all_goals clear hk k
  all_goals (show St.Less _ _; exact Less.of rfl (by simp [go_sem, -Nat.lt_one_iff, -List.length_eq_zero_iff] <;> first | omega | grind) (by simp [go_sem]))
 ·skip
  refine AW.cond rfl ?_ ?_
  ·intro hc; try simp at hc
   all_goals (
    refine rgA [2] ?_
    refine rt ?_
    first | (rw [procF_len' (by simpa using hc)]; simp [go_sem, Try.results24]; done) | (rw [procF_ok hR h1 h2 h3]; simp [go_sem, Try.results24]; done) | (have hty : tyF p i = typF x.cond 2 := (by rw [hxt]; grind); rw [procF_ty hR h1 h2 hlt hal3 (by rw [hty]; first | assumption | simpa using hc), hty]; simp [go_sem, Try.results24]; done) | (have hty : tyF p i = typF x.expr 1 := (by rw [hxt]; grind); rw [procF_ty hR h1 h2 hlt hal3 (by rw [hty]; first | assumption | simpa using hc), hty]; simp [go_sem, Try.results24]; done) | (rw [procF_shape' hR h1 (by first | assumption | simpa using hc)]; simp [go_sem, Try.results24]; done) | (rw [procF_one hR hlt hall (by first | assumption | simpa using hc)]; simp [go_sem, Try.results24]))
  ·intro hc; try simp at hc
   all_goals (
    refine AW.skipN (fun _ h => h) ?_
    refine AW.seq ?_
    have hlen : 1 ≤ p.length ∧ p.length ≤ 24 := by obtain ⟨h8, h9⟩ := hc; have : p.length ≠ 0 := (fun h => h8 (List.length_eq_zero_iff.1 h)); omega
    have hR : inR p.length 1 24 = true := inR_iff.2 (by omega)
    refine rgA [0,3] ?_
    refine AW.block ?_
    refine AW.loopI (fun i : Nat => ⟨58, [(0, .isl 6 (p.map TStep.ro)), (3, .int .i64 i)], []⟩) (fun i => i ≤ p.length ∧ ∀ k, k < i → oneF p k = 0) (fun i => p.length - i) (0) (by simp) (Less.of rfl (by simp [go_sem]) (by simp [go_sem])) ?_
    rintro i ⟨hi, hall⟩
    refine AW.seq ?_
    refine rgA [0,3,20] ?_
    refine AW.cond rfl ?_ ?_
    ·intro hc; try simp at hc
     all_goals (
      have hlt : i < p.length := by assumption
      refine AW.skipN (fun _ h => h) ?_
      refine AW.seq ?_
      refine AW.block ?_
      refine rg [0,3,4] ?_
      intro k hk; simp -dsimp (maxSteps := 2000000) [go_sem, -decide_eq_true_eq, -decide_eq_false_iff_not]
      repeat' first | apply And.intro | refine hk _ ?_ | intro hg | (refine CallK.intro (dc_spec_l4One p (by omega) hg i hlt hall) ?_; simp -dsimp (maxSteps := 2000000) [go_sem, -decide_eq_true_eq, -decide_eq_false_iff_not]) | omega | exact True.intro
      all_goals clear hk k
      refine rgA [0,3,4,27] ?_
      refine AW.cond rfl ?_ ?_
      ·intro hc; try simp at hc
       all_goals (
        refine rgA [2] ?_
        refine rt ?_
        first | (rw [procF_len' (by simpa using hc)]; simp [go_sem, Try.results24]; done) | (rw [procF_ok hR h1 h2 h3]; simp [go_sem, Try.results24]; done) | (have hty : tyF p i = typF x.cond 2 := (by rw [hxt]; grind); rw [procF_ty hR h1 h2 hlt hal3 (by rw [hty]; first | assumption | simpa using hc), hty]; simp [go_sem, Try.results24]; done) | (have hty : tyF p i = typF x.expr 1 := (by rw [hxt]; grind); rw [procF_ty hR h1 h2 hlt hal3 (by rw [hty]; first | assumption | simpa using hc), hty]; simp [go_sem, Try.results24]; done) | (rw [procF_shape' hR h1 (by first | assumption | simpa using hc)]; simp [go_sem, Try.results24]; done) | (rw [procF_one hR hlt hall (by first | assumption | simpa using hc)]; simp [go_sem, Try.results24]))
      ·intro hc; try simp at hc
       all_goals (
        refine AW.skipN (fun _ h => h) ?_
        refine rgKA ?_
        show ∃ _, _
        have hw := wrapi hlt (by omega)
        refine ⟨i + 1, ⟨by omega, upto hall (by first | assumption | simpa using hc)⟩, by omega, Less.of rfl (by simp [go_sem, hw]) (by simp [go_sem])⟩))
    ·intro hc; try simp at hc
     all_goals (
      refine AW.exitN (fun _ h => h) ?_
      refine AW.seq ?_
      have h1 : ∀ k, k < p.length → oneF p k = 0 := fun k hk => hall k (by omega)
      have ho : StepsOk p := ⟨by omega, h1⟩
      refine rg [0,5] ?_
      intro k hk; simp -dsimp (maxSteps := 2000000) [go_sem, -decide_eq_true_eq, -decide_eq_false_iff_not]
      repeat' first | apply And.intro | refine hk _ ?_ | intro hg | (refine CallK.intro (dc_spec_l4Shape p ho hg) ?_; simp -dsimp (maxSteps := 2000000) [go_sem, -decide_eq_true_eq, -decide_eq_false_iff_not]) | omega | exact True.intro
      all_goals clear hk k
      refine rgA [0,5,32] ?_
      refine AW.cond rfl ?_ ?_
      ·intro hc; try simp at hc
       all_goals (
        refine rgA [2] ?_
        refine rt ?_
        first | (rw [procF_len' (by simpa using hc)]; simp [go_sem, Try.results24]; done) | (rw [procF_ok hR h1 h2 h3]; simp [go_sem, Try.results24]; done) | (have hty : tyF p i = typF x.cond 2 := (by rw [hxt]; grind); rw [procF_ty hR h1 h2 hlt hal3 (by rw [hty]; first | assumption | simpa using hc), hty]; simp [go_sem, Try.results24]; done) | (have hty : tyF p i = typF x.expr 1 := (by rw [hxt]; grind); rw [procF_ty hR h1 h2 hlt hal3 (by rw [hty]; first | assumption | simpa using hc), hty]; simp [go_sem, Try.results24]; done) | (rw [procF_shape' hR h1 (by first | assumption | simpa using hc)]; simp [go_sem, Try.results24]; done) | (rw [procF_one hR hlt hall (by first | assumption | simpa using hc)]; simp [go_sem, Try.results24]))
      ·intro hc; try simp at hc
       all_goals (
        refine AW.skipN (fun _ h => h) ?_
        refine AW.seq ?_
        have h2 : ∀ k, k < p.length → shapeF p k = 0 := sc_all (by first | assumption | simpa using hc)
        refine rgA [0,6] ?_
        refine AW.block ?_
        refine AW.loopI (fun i : Nat => ⟨58, [(0, .isl 6 (p.map TStep.ro)), (6, .int .i64 i)], []⟩) (fun i => i ≤ p.length ∧ ∀ k, k < i → tyF p k = 0) (fun i => p.length - i) (0) (by simp) (Less.of rfl (by simp [go_sem]) (by simp [go_sem])) ?_
        rintro i ⟨hi, hal3⟩
        refine AW.seq ?_
        refine rgA [0,6,37] ?_
        refine AW.cond rfl ?_ ?_
        ·intro hc; try simp at hc
         all_goals (
          have hlt : i < p.length := by assumption
          obtain ⟨x, hx⟩ := at_some hlt
          have hxt := tyF_at hx
          obtain ⟨g0, g1, g2⟩ := hg x (List.mem_of_getElem? hx)
          refine AW.skipN (fun _ h => h) ?_
          refine AW.seq ?_
          refine AW.block ?_
          refine AW.seq ?_
          refine rg [0,6,7] ?_
          intro k hk; simp -dsimp (maxSteps := 2000000) [go_sem, -decide_eq_true_eq, -decide_eq_false_iff_not, hx]
          repeat' first | apply And.intro | refine hk _ ?_ | intro hg | ((first | refine CallK.intro (dc_spec_l4Typed x.cond 2 g1) ?_ | refine CallK.intro (dc_spec_l4Typed x.expr 1 g2) ?_); simp -dsimp (maxSteps := 2000000) [go_sem, -decide_eq_true_eq, -decide_eq_false_iff_not, hx]) | omega | exact True.intro
          all_goals clear hk k
          refine rg [0,6,7,47] ?_
          intro k hk; simp -dsimp [go_sem, -decide_eq_true_eq, -decide_eq_false_iff_not, hx]
          repeat' first | apply And.intro | refine hk _ ?_ | intro hg | omega | exact True.intro
          all_goals clear hk k
          refine AW.cond rfl ?_ ?_
          ·intro hc; try simp at hc
           all_goals (
            refine rg [2] ?_
            intro k hk; simp -dsimp [go_sem, -decide_eq_true_eq, -decide_eq_false_iff_not, hx]
            repeat' first | apply And.intro | refine hk _ ?_ | intro hg | omega | exact True.intro
            all_goals clear hk k
            refine rt ?_
            first | (rw [procF_len' (by simpa using hc)]; simp [go_sem, Try.results24]; done) | (rw [procF_ok hR h1 h2 h3]; simp [go_sem, Try.results24]; done) | (have hty : tyF p i = typF x.cond 2 := (by rw [hxt]; grind); rw [procF_ty hR h1 h2 hlt hal3 (by rw [hty]; first | assumption | simpa using hc), hty]; simp [go_sem, Try.results24]; done) | (have hty : tyF p i = typF x.expr 1 := (by rw [hxt]; grind); rw [procF_ty hR h1 h2 hlt hal3 (by rw [hty]; first | assumption | simpa using hc), hty]; simp [go_sem, Try.results24]; done) | (rw [procF_shape' hR h1 (by first | assumption | simpa using hc)]; simp [go_sem, Try.results24]; done) | (rw [procF_one hR hlt hall (by first | assumption | simpa using hc)]; simp [go_sem, Try.results24]))
          ·intro hc; try simp at hc
           all_goals (
            refine AW.skipN (fun _ h => h) ?_
            refine rg [0,6,8] ?_
            intro k hk; simp -dsimp (maxSteps := 2000000) [go_sem, -decide_eq_true_eq, -decide_eq_false_iff_not, hx]
            repeat' first | apply And.intro | refine hk _ ?_ | intro hg | ((first | refine CallK.intro (dc_spec_l4Typed x.cond 2 g1) ?_ | refine CallK.intro (dc_spec_l4Typed x.expr 1 g2) ?_); simp -dsimp (maxSteps := 2000000) [go_sem, -decide_eq_true_eq, -decide_eq_false_iff_not, hx]) | omega | exact True.intro
            all_goals clear hk k
            refine rg [0,6,8,56] ?_
            intro k hk; simp -dsimp [go_sem, -decide_eq_true_eq, -decide_eq_false_iff_not, hx]
            repeat' first | apply And.intro | refine hk _ ?_ | intro hg | omega | exact True.intro
            all_goals clear hk k
            refine AW.cond rfl ?_ ?_
            ·intro hc; try simp at hc
             all_goals (
              refine rg [2] ?_
              intro k hk; simp -dsimp [go_sem, -decide_eq_true_eq, -decide_eq_false_iff_not, hx]
              repeat' first | apply And.intro | refine hk _ ?_ | intro hg | omega | exact True.intro
              all_goals clear hk k
              refine rt ?_
              first | (rw [procF_len' (by simpa using hc)]; simp [go_sem, Try.results24]; done) | (rw [procF_ok hR h1 h2 h3]; simp [go_sem, Try.results24]; done) | (have hty : tyF p i = typF x.cond 2 := (by rw [hxt]; grind); rw [procF_ty hR h1 h2 hlt hal3 (by rw [hty]; first | assumption | simpa using hc), hty]; simp [go_sem, Try.results24]; done) | (have hty : tyF p i = typF x.expr 1 := (by rw [hxt]; grind); rw [procF_ty hR h1 h2 hlt hal3 (by rw [hty]; first | assumption | simpa using hc), hty]; simp [go_sem, Try.results24]; done) | (rw [procF_shape' hR h1 (by first | assumption | simpa using hc)]; simp [go_sem, Try.results24]; done) | (rw [procF_one hR hlt hall (by first | assumption | simpa using hc)]; simp [go_sem, Try.results24]))
            ·intro hc; try simp at hc
             all_goals (
              refine AW.skipN (fun _ h => h) ?_
              refine rgK ?_
              intro k hk; simp -dsimp [go_sem, -decide_eq_true_eq, -decide_eq_false_iff_not, hx]
              repeat' first | apply And.intro | refine hk _ ?_ | intro hg | omega | exact True.intro
              all_goals clear hk k
              show ∃ _, _
              have hw := wrapi hlt (by omega)
              have htz : tyF p i = 0 := by rw [hxt]; grind
              refine ⟨i + 1, ⟨by omega, upto hal3 htz⟩, by omega, Less.of rfl (by simp [go_sem, hw]) (by simp [go_sem])⟩)))
        ·intro hc; try simp at hc
         all_goals (
          refine AW.exitN (fun _ h => h) ?_
          have h3 : ∀ k, k < p.length → tyF p k = 0 := fun k hk => hal3 k (by omega)
          refine rgA [2] ?_
          refine rt ?_
          first | (rw [procF_len' (by simpa using hc)]; simp [go_sem, Try.results24]; done) | (rw [procF_ok hR h1 h2 h3]; simp [go_sem, Try.results24]; done) | (have hty : tyF p i = typF x.cond 2 := (by rw [hxt]; grind); rw [procF_ty hR h1 h2 hlt hal3 (by rw [hty]; first | assumption | simpa using hc), hty]; simp [go_sem, Try.results24]; done) | (have hty : tyF p i = typF x.expr 1 := (by rw [hxt]; grind); rw [procF_ty hR h1 h2 hlt hal3 (by rw [hty]; first | assumption | simpa using hc), hty]; simp [go_sem, Try.results24]; done) | (rw [procF_shape' hR h1 (by first | assumption | simpa using hc)]; simp [go_sem, Try.results24]; done) | (rw [procF_one hR hlt hall (by first | assumption | simpa using hc)]; simp [go_sem, Try.results24])))))

end Go.AM
namespace Go.AM
open Go.Proofs

/-- spec.GraphOf -/
theorem dc_spec_GraphOf_ok (p : List TStep) (hg : p.length ≤ 9223372036854775807 ∧ ∀ e ∈ p, e.gok) (hl : procF p = 0) : DC Try.prog 18 [.isl 6 (p.map TStep.ro)] (.agg [.int .i64 0, .osl 5 ((gNs p).map TGNode.oc), .osl 3 ((srt TFlow.frm (gFl p)).map TFlow.oc)]) [] := by
 have hP := procOk hl
 refine DC.intro tiOk Try.func18 rfl rfl rfl rfl rfl rfl rfl rfl [1000] ?_
 refine rg [0,2] ?_
 intro k hk; simp -dsimp [go_sem, -decide_eq_true_eq, -decide_eq_false_iff_not, hl]
 repeat' first | apply And.intro | refine hk _ ?_ | intro hg | omega | exact True.intro
 all_goals clear hk k
 refine AW.seq ?_
 refine rg [0,2,3] ?_
 intro k hk; simp -dsimp (maxSteps := 2000000) [go_sem, -decide_eq_true_eq, -decide_eq_false_iff_not, hl]
 repeat' first | apply And.intro | refine hk _ ?_ | intro hg | (refine CallK.intro (dc_spec_l4Fault p hg.1 hg.2) ?_; simp -dsimp (maxSteps := 2000000) [go_sem, -decide_eq_true_eq, -decide_eq_false_iff_not, hl]) | omega | exact True.intro
 all_goals clear hk k
 refine rg [0,2,3,7] ?_
 intro k hk; simp -dsimp [go_sem, -decide_eq_true_eq, -decide_eq_false_iff_not, hl]
 repeat' first | apply And.intro | refine hk _ ?_ | intro hg | omega | exact True.intro
 all_goals clear hk k
 refine AW.cond rfl ?_ ?_
 ·intro hc; try simp at hc
  all_goals try (exfalso; contradiction; done)
  all_goals (
   refine rg [2] ?_
   intro k hk; simp -dsimp [go_sem, -decide_eq_true_eq, -decide_eq_false_iff_not, hl]
   repeat' first | apply And.intro | refine hk _ ?_ | intro hg | omega | exact True.intro
   all_goals clear hk k
   refine rt ?_
   simp [go_sem, Try.results18])
 ·intro hc; try simp at hc
  all_goals try (exfalso; contradiction; done)
  all_goals (
   refine AW.skipN (fun _ h => h) ?_
   refine rg [2] ?_
   intro k hk; simp -dsimp (maxSteps := 2000000) [go_sem, -decide_eq_true_eq, -decide_eq_false_iff_not, hl]
   repeat' first | apply And.intro | refine hk _ ?_ | intro hg | (refine CallK.intro (dc_spec_l6Graph p hP) ?_; simp -dsimp (maxSteps := 2000000) [go_sem, -decide_eq_true_eq, -decide_eq_false_iff_not, hl]) | omega | exact True.intro
   all_goals clear hk k
   refine rt ?_
   simp [go_sem, Try.results18])

/-- spec.GraphOf -/
theorem dc_spec_GraphOf_bad (p : List TStep) (hg : p.length ≤ 9223372036854775807 ∧ ∀ e ∈ p, e.gok) (hl : procF p ≠ 0) : DC Try.prog 18 [.isl 6 (p.map TStep.ro)] (.agg [.int .i64 (procF p), .isl 5 [], .isl 3 []]) [] := by
 refine DC.intro tiOk Try.func18 rfl rfl rfl rfl rfl rfl rfl rfl [1000] ?_
 refine rg [0,2] ?_
 intro k hk; simp -dsimp [go_sem, -decide_eq_true_eq, -decide_eq_false_iff_not, hl]
 repeat' first | apply And.intro | refine hk _ ?_ | intro hg | omega | exact True.intro
 all_goals clear hk k
 refine AW.seq ?_
 refine rg [0,2,3] ?_
 intro k hk; simp -dsimp (maxSteps := 2000000) [go_sem, -decide_eq_true_eq, -decide_eq_false_iff_not, hl]
 repeat' first | apply And.intro | refine hk _ ?_ | intro hg | (refine CallK.intro (dc_spec_l4Fault p hg.1 hg.2) ?_; simp -dsimp (maxSteps := 2000000) [go_sem, -decide_eq_true_eq, -decide_eq_false_iff_not, hl]) | omega | exact True.intro
 all_goals clear hk k
 refine rg [0,2,3,7] ?_
 intro k hk; simp -dsimp [go_sem, -decide_eq_true_eq, -decide_eq_false_iff_not, hl]
 repeat' first | apply And.intro | refine hk _ ?_ | intro hg | omega | exact True.intro
 all_goals clear hk k
 refine AW.cond rfl ?_ ?_
 ·intro hc; try simp at hc
  all_goals try (exfalso; contradiction; done)
  all_goals (
   refine rg [2] ?_
   intro k hk; simp -dsimp [go_sem, -decide_eq_true_eq, -decide_eq_false_iff_not, hl]
   repeat' first | apply And.intro | refine hk _ ?_ | intro hg | omega | exact True.intro
   all_goals clear hk k
   refine rt ?_
   simp [go_sem, Try.results18])
 ·intro hc; try simp at hc
  all_goals try (exfalso; contradiction; done)
  all_goals (
   refine AW.skipN (fun _ h => h) ?_
   skip)

end Go.AM
namespace Go.AM
/-! the node of a step -/
theorem gNs_len (p : List TStep) : (gNs p).length = (gTop p).ns.length + 2 := by unfold gNs; rw [List.length_append, List.length_append]; simp only [List.length_singleton]; omega
end Go.AM
namespace Go.AM
def TGNode.mn (x : TGNode) : Nat := 4 + 4 * x.expr.length
def TFlow.mn (x : TFlow) : Nat := 2 + 4 * x.cond.length
def mkG (l : List TGNode) : Nat := (l.map TGNode.mn).sum
def mkF (l : List TFlow) : Nat := (l.map TFlow.mn).sum
theorem mkG_take {l : List TGNode} {i : Nat} {x : TGNode} (h : l[i]? = some x) : mkG (l.take (i + 1)) = mkG (l.take i) + x.mn := by
  unfold mkG; rw [List.map_take, List.map_take]; exact sum_take h
theorem mkF_take {l : List TFlow} {i : Nat} {x : TFlow} (h : l[i]? = some x) : mkF (l.take (i + 1)) = mkF (l.take i) + x.mn := by
  unfold mkF; rw [List.map_take, List.map_take]; exact sum_take h
theorem mkG_le (l : List TGNode) (i : Nat) : mkG (l.take i) ≤ mkG l := by
  unfold mkG; rw [List.map_take]; exact sum_le
theorem mkF_le (l : List TFlow) (i : Nat) : mkF (l.take i) ≤ mkF l := by
  unfold mkF; rw [List.map_take]; exact sum_le
theorem mkG_len (l : List TGNode) : l.length ≤ mkG l := by
  unfold mkG
  induction l with
  | nil => simp
  | cons x l ih => simp only [List.map_cons, List.sum_cons, List.length_cons, TGNode.mn] at *; omega
theorem mkF_len (l : List TFlow) : l.length ≤ mkF l := by
  unfold mkF
  induction l with
  | nil => simp
  | cons x l ih => simp only [List.map_cons, List.sum_cons, List.length_cons, TFlow.mn] at *; omega
def gnodeM (k : Int) (x : TGNode) : TGNode := ⟨k, k + 1, mt (k + 2), k + 3, mN x.expr.length (k + 4)⟩
def flowM (k : Int) (x : TFlow) : TFlow := ⟨k, k + 1, mN x.cond.length (k + 2)⟩
def mGn (k : Int) (l : List TGNode) : List TGNode := l.mapIdx fun j x => gnodeM (k + (mkG (l.take j) : Int)) x
def mFl (k : Int) (l : List TFlow) : List TFlow := l.mapIdx fun j x => flowM (k + (mkF (l.take j) : Int)) x
theorem mGn_len {k : Int} {l : List TGNode} : (mGn k l).length = l.length := by simp [mGn]
theorem mFl_len {k : Int} {l : List TFlow} : (mFl k l).length = l.length := by simp [mFl]
theorem mGn_at {k : Int} {l : List TGNode} {i : Nat} {x : TGNode} (h : l[i]? = some x) : (mGn k l)[i]? = some (gnodeM (k + (mkG (l.take i) : Int)) x) := by simp [mGn, h]
theorem mFl_at {k : Int} {l : List TFlow} {i : Nat} {x : TFlow} (h : l[i]? = some x) : (mFl k l)[i]? = some (flowM (k + (mkF (l.take i) : Int)) x) := by simp [mFl, h]
theorem ogids (l : List TGNode) : (l.map TGNode.oc).flatMap idsL = [] := flatids (f := TGNode.oc) (by intro x; simp [go_sem]) l
theorem ofids (l : List TFlow) : (l.map TFlow.oc).flatMap idsL = [] := flatids (f := TFlow.oc) (by intro x; simp [go_sem]) l
/-! no node and no flow holds much -/
def SmG (x : TGNode) : Prop := x.name.length ≤ 8 ∧ x.expr.length ≤ 16
def SmF (x : TFlow) : Prop := x.cond.length ≤ 16
def Sg (g : Nat → Nat → GR) (k : Int) : Prop := ∀ n, (∀ x ∈ (g k.toNat n).ns, SmG x) ∧ ∀ x ∈ (g k.toNat n).fs, SmF x
theorem seq_sg {g : Nat → Nat → GR} {n : Nat} {ks : List Int} (h0 : ks ≠ []) (h : ∀ k ∈ ks, Sg g k) : ∀ i, i + 1 ≤ ks.length → (∀ x ∈ (seqN g n ks i).ns, SmG x) ∧ ∀ x ∈ (seqN g n ks i).fs, SmF x := by
  intro i
  induction i with
  | zero =>
    intro hi
    obtain ⟨u, hu⟩ := at_some (l := ks) (i := 0) (by omega)
    have e : headI ks = u := by unfold headI; rw [List.getD_eq_getElem?_getD, hu]; rfl
    rw [seq_zero, e]
    exact h u (List.mem_of_getElem? hu) n
  | succ i ih =>
    intro hi
    obtain ⟨u, hu⟩ := at_some (l := ks) (i := i + 1) (by omega)
    have h1 := ih (by omega)
    have h2 := h u (List.mem_of_getElem? hu) (n + (seqN g n ks i).ns.length)
    rw [seq_succ hu]
    simp only [seqF, List.mem_append, List.mem_singleton]
    refine ⟨fun x hx => ?_, fun x hx => ?_⟩
    · rcases hx with hx | hx
      · exact h1.1 x hx
      · exact h2.1 x hx
    · rcases hx with (hx | hx) | hx
      · exact h1.2 x hx
      · exact h2.2 x hx
      · rw [hx]; simp [SmF]
theorem sd_sg {g : Nat → Nat → GR} {cd : Nat → List TNode} (hcd : ∀ a, (cd a).length ≤ 16) {n : Nat} {op : TGNode} (ho : SmG op) {ks : List Int} (h : ∀ k ∈ ks, Sg g k) : ∀ i, i ≤ ks.length → (∀ x ∈ (sdN g cd n op ks i).ns, SmG x) ∧ ∀ x ∈ (sdN g cd n op ks i).fs, SmF x := by
  intro i
  induction i with
  | zero => intro _; rw [sd_zero]; exact ⟨by intro x hx; rw [List.mem_singleton.1 hx]; exact ho, by intro x hx; cases hx⟩
  | succ i ih =>
    intro hi
    obtain ⟨u, hu⟩ := at_some (l := ks) (i := i) (by omega)
    have h1 := ih (by omega)
    have h2 := h u (List.mem_of_getElem? hu) (n + (sdN g cd n op ks i).ns.length)
    rw [sd_succ hu]
    simp only [sdF, List.mem_append, List.mem_singleton]
    refine ⟨fun x hx => ?_, fun x hx => ?_⟩
    · rcases hx with hx | hx
      · exact h1.1 x hx
      · exact h2.1 x hx
    · rcases hx with (hx | hx) | hx
      · exact h1.2 x hx
      · exact h2.2 x hx
      · rw [hx]; exact hcd _
theorem sides_sg {g : Nat → Nat → GR} {cd : Nat → List TNode} (hcd : ∀ a, (cd a).length ≤ 16) {op cl : TGNode} (ho : SmG op) (hc : SmG cl) {ks : List Int} (h : ∀ k ∈ ks, Sg g k) (n : Nat) : (∀ x ∈ (sidesG g cd op cl ks n).ns, SmG x) ∧ ∀ x ∈ (sidesG g cd op cl ks n).fs, SmF x := by
  have h1 := sd_sg hcd (n := n) ho h ks.length (Nat.le_refl _)
  simp only [sidesG, List.mem_append, List.mem_singleton, List.mem_map]
  refine ⟨fun x hx => ?_, fun x hx => ?_⟩
  · rcases hx with hx | hx
    · exact h1.1 x hx
    · rw [hx]; exact hc
  · rcases hx with hx | ⟨o, _, rfl⟩
    · exact h1.2 x hx
    · simp [SmF]
theorem nS_sml {p : List TStep} (hP : ProcOk p) (a : Nat) : Sml (nS p a) := by
  rcases Nat.lt_or_ge a p.length with h | h
  · obtain ⟨x, hx⟩ := at_some h
    rw [nS_at hx]; exact hP.sml x (List.mem_of_getElem? hx)
  · unfold nS
    rw [List.getD_eq_getElem?_getD, List.getElem?_eq_none h]
    refine ⟨?_, ?_, ?_⟩ <;> decide
theorem gstep_sg {p : List TStep} (hP : ProcOk p) : ∀ (f a : Nat), a < p.length → Sg (gstep p f) (a : Int) := by
  intro f
  induction f with
  | zero => intro a ha n; constructor <;> (intro x hx; simp [gstep] at hx)
  | succ f ih =>
    intro a ha n
    have hk : ∀ k ∈ kids p (a : Int), Sg (gstep p f) k := by
      intro k hk
      obtain ⟨m, rfl, h1, h2, _, _⟩ := hP.kid hk
      exact ih m h2
    have hm := hP.many ha
    have hs := nS_sml hP a
    have hcd : ∀ a, (cdS p a).length ≤ 16 := fun a => (nS_sml hP a).2.1
    rw [Int.toNat_natCast]
    unfold gstep
    have lf : ∀ y : TGNode, SmG y → (∀ x ∈ (leafG y n).ns, SmG x) ∧ ∀ x ∈ (leafG y n).fs, SmF x := by
      intro y hy
      exact ⟨by intro x hx; rw [List.mem_singleton.1 hx]; exact hy, by intro x hx; cases hx⟩
    have z : ∀ kd ag, SmG (⟨kd, a, [], ag, []⟩ : TGNode) := fun kd ag => ⟨by simp, by simp⟩
    split
    · exact lf _ ⟨hs.1, by simp⟩
    split
    · exact lf _ (z _ _)
    split
    · exact lf _ (z _ _)
    split
    · exact lf _ ⟨by simp, hs.2.2⟩
    split
    · rename_i h1
      rw [h1] at hm
      have hlen := kid_one hm
      exact seq_sg (by intro e; rw [e] at hlen; simp at hlen) hk _ (by omega)
    split
    · rename_i h8
      rw [h8] at hm
      have hlen := kid_two hm
      obtain ⟨k0, k1, hk2⟩ : ∃ k0 k1, kids p (a : Int) = [k0, k1] := by
        match hq : kids p (a : Int), hlen with
        | [x, y], _ => exact ⟨x, y, rfl⟩
      rw [hk2] at hk ⊢
      have a1 := hk k0 (by simp) (n + 1)
      have a2 := hk k1 (by simp) (n + 1 + (gstep p f k0.toNat (n + 1)).ns.length + 1)
      have q0 : gI [k0, k1] 0 = k0 := rfl
      have q1 : gI [k0, k1] 1 = k1 := rfl
      simp only [guardG, q0, q1, List.mem_append, List.mem_cons, List.not_mem_nil, or_false]
      refine ⟨fun x hx => ?_, fun x hx => ?_⟩
      · rcases hx with (((hx | hx) | hx) | hx) | hx
        · rw [hx]; exact z _ _
        · exact a1.1 x hx
        · rw [hx]; exact z _ _
        · exact a2.1 x hx
        · rw [hx]; exact z _ _
      · rcases hx with (hx | hx) | hx
        · exact a1.2 x hx
        · exact a2.2 x hx
        · rcases hx with hx | hx | hx | hx | hx <;> (rw [hx]; simp [SmF])
    split
    · exact sides_sg hcd (z _ _) (z _ _) hk n
    · exact sides_sg hcd (z _ _) (z _ _) hk n
/-- the answer of GraphOf -/
def gAll (p : List TStep) : TGraph := ⟨gNs p, srt TFlow.frm (gFl p)⟩
theorem gAll_ok {p : List TStep} (hP : ProcOk p) : ((gAll p).nodes ≠ [] ∧ (gAll p).flows ≠ []) ∧ ((gAll p).nodes.length ≤ 74 ∧ (gAll p).flows.length ≤ 120) ∧ (∀ x ∈ (gAll p).nodes, SmG x) ∧ ∀ x ∈ (gAll p).flows, SmF x := by
  have hf := gTop_few hP
  have hs := gstep_sg hP p.length 0 (by have := hP.len; omega) 1
  have hl := gNs_len p
  have hfl : (gFl p).length = (gTop p).fs.length + 2 := by unfold gFl; simp
  have hsl := srt_len (key := TFlow.frm) (gFl p)
  have z : ∀ kd, SmG (⟨kd, 0, [], 0, []⟩ : TGNode) := fun kd => ⟨by simp, by simp⟩
  refine ⟨⟨?_, ?_⟩, ⟨?_, ?_⟩, ?_, ?_⟩
  · exact List.ne_nil_of_length_pos (by simp only [gAll]; omega)
  · exact List.ne_nil_of_length_pos (by simp only [gAll]; omega)
  · simp only [gAll]; omega
  · simp only [gAll]; omega
  · intro x hx
    simp only [gAll, gNs, List.mem_append, List.mem_singleton] at hx
    rcases hx with (hx | hx) | hx
    · rw [hx]; exact z _
    · exact hs.1 x hx
    · rw [hx]; exact z _
  · intro x hx
    simp only [gAll] at hx
    have hx := (srt_perm (key := TFlow.frm) (gFl p)).mem_iff.1 hx
    simp only [gFl, List.mem_append, List.mem_singleton] at hx
    rcases hx with (hx | hx) | hx
    · exact hs.2 x hx
    · rw [hx]; simp [SmF]
    · rw [hx]; simp [SmF]
theorem gAll_mk {p : List TStep} (hP : ProcOk p) : mkG (gAll p).nodes ≤ 5032 ∧ mkF (gAll p).flows ≤ 7920 := by
  obtain ⟨_, ⟨h1, h2⟩, h3, h4⟩ := gAll_ok hP
  have a : ∀ l : List TGNode, (∀ x ∈ l, SmG x) → mkG l ≤ 68 * l.length := by
    intro l
    induction l with
    | nil => intro _; simp [mkG]
    | cons x l ih =>
      intro h
      have h5 := ih fun y hy => h y (List.mem_cons_of_mem _ hy)
      have h6 := (h x List.mem_cons_self).2
      simp only [mkG, List.map_cons, List.sum_cons, List.length_cons, TGNode.mn] at *; omega
  have b : ∀ l : List TFlow, (∀ x ∈ l, SmF x) → mkF l ≤ 66 * l.length := by
    intro l
    induction l with
    | nil => intro _; simp [mkF]
    | cons x l ih =>
      intro h
      have h5 := ih fun y hy => h y (List.mem_cons_of_mem _ hy)
      have h6 : x.cond.length ≤ 16 := h x List.mem_cons_self
      simp only [mkF, List.map_cons, List.sum_cons, List.length_cons, TFlow.mn] at *; omega
  have := a _ h3
  have := b _ h4
  omega
theorem gAll_gok {p : List TStep} (hP : ProcOk p) : (gAll p).gok := by
  obtain ⟨_, ⟨h1, h2⟩, h3, h4⟩ := gAll_ok hP
  exact ⟨⟨by omega, fun e he => ⟨by have := (h3 e he).1; omega, by have := (h3 e he).2; omega⟩⟩, ⟨by omega, fun e he => by have : e.cond.length ≤ 16 := h4 e he; unfold TFlow.gok; omega⟩⟩
end Go.AM
namespace Go.AM
open Go.Proofs

/-- laws.markNodeS -/
theorem dc_laws_markNodeS_nil (k : Int) : DC Try.prog 33 [.isl 4 [], .int .i64 k] (.int .i64 k) [] := by
 refine DC.intro tiOk Try.func33 rfl rfl rfl rfl rfl rfl rfl rfl [] ?_
 refine rgA [0,1] ?_
 refine AW.seq ?_
 refine rgA [0,1,5] ?_
 refine AW.block ?_
 refine AW.loopI (fun _ : Nat => ⟨41, [(0, .isl 4 []), (1, .int .i64 k), (5, .int .i64 0)], []⟩) (fun _ => True) (fun _ => 0) (0) (trivial) (Less.of rfl (by simp [go_sem]) (by simp [go_sem])) ?_
 rintro i _
 refine AW.seq ?_
 refine rgA [0,1,5,9] ?_
 refine AW.cond rfl ?_ ?_
 ·intro hc; try simp at hc
  all_goals try (exfalso; first | omega | (simp at hc; done); done)
  all_goals (
   refine AW.skipN (fun _ h => h) ?_
   refine AW.seq ?_
   refine AW.block ?_
   refine rgA [0,1,5] ?_
   refine rgA [0,1,5] ?_
   refine rgA [0,1,5] ?_
   refine rgA [0,1,5] ?_
   refine rgA [0,1,5] ?_
   refine rgA [0,1,5] ?_
   refine rgA [0,1,5] ?_
   refine rgNA [0,1,5] (fun _ h => h) ?_
   refine rgKA ?_
   show ∃ _, _
   exact absurd hc (by simp))
 ·intro hc; try simp at hc
  all_goals try (exfalso; first | omega | (simp at hc; done); done)
  all_goals (
   refine AW.exitN (fun _ h => h) ?_
   refine rgA [4] ?_
   refine rt ?_
   simp [go_sem, Try.results33])

/-- laws.markNodeS -/
theorem dc_laws_markNodeS_x (l : List TNode) (k : Int) (hk : 0 ≤ k ∧ k + 4 * l.length ≤ 4611686018427387904) : DC Try.prog 33 [.osl 4 (l.map TNode.ro), .int .i64 k] (.int .i64 (k + 4 * (l.length : Int))) [(0, .osl 4 ((mN l.length k).map TNode.ro))] := by
 refine DC.intro tiOk Try.func33 rfl rfl rfl rfl rfl rfl rfl (by simp [noW, noWo]) [] ?_
 refine rgA [0,1] ?_
 refine AW.seq ?_
 refine rgA [0,1,5] ?_
 refine AW.block ?_
 refine AW.loopI (fun i : Nat => ⟨41, [(0, .sl 1900 4 0 l.length), (1, .int .i64 (k + 4 * (i : Int))), (5, .int .i64 i)], [(1900, some ⟨4, mkP (fN k) (l.map TNode.ro) 0 i⟩)]⟩) (fun i => i ≤ l.length) (fun i => l.length - i) (0) (by simp) (Less.of rfl (by simp [go_sem]) (by simp [go_sem, mkP_zero])) ?_
 rintro i hi
 refine AW.seq ?_
 refine rgA [0,1,5,9] ?_
 refine AW.cond rfl ?_ ?_
 ·intro hc; try simp at hc
  all_goals (
   have hlt : i < l.length := by assumption
   obtain ⟨x, hx⟩ := at_some hlt
   have hp : (mkP (fN k) (l.map TNode.ro) 0 i).length = l.length := by rw [mkP_len (by simpa using hi)]; simp
   have hp2 : (mkP (fN k) (l.map TNode.ro) 0 i)[i]? = some x.ro := mkP_at (by simp [hx])
   have hp3 : ∀ h, (mkP (fN k) (l.map TNode.ro) 0 i)[i]'h = x.ro := fun h => by have h9 := hp2; rw [List.getElem?_eq_getElem h] at h9; exact Option.some.inj h9
   have hwk0 : IntKind.wrap .i64 (k + 4 * (i : Int) + 1) = k + 4 * (i : Int) + 1 := (wrap64 (by omega) (by omega)).trans (by omega)
   have hwk1 : IntKind.wrap .i64 (k + 4 * (i : Int) + 1 + 1) = k + 4 * (i : Int) + 2 := (wrap64 (by omega) (by omega)).trans (by omega)
   have hwk2 : IntKind.wrap .i64 (k + 4 * (i : Int) + 2 + 1) = k + 4 * (i : Int) + 3 := (wrap64 (by omega) (by omega)).trans (by omega)
   have hwk3 : IntKind.wrap .i64 (k + 4 * (i : Int) + 3 + 1) = k + 4 * (i : Int) + 4 := (wrap64 (by omega) (by omega)).trans (by omega)
   have hwv0 : IntKind.wrap .i64 (k + 4 * (i : Int)) = k + 4 * (i : Int) := wrap64 (by omega) (by omega)
   have hwv1 : IntKind.wrap .i64 (k + 4 * (i : Int) + 1) = k + 4 * (i : Int) + 1 := wrap64 (by omega) (by omega)
   have hwv2 : IntKind.wrap .i64 (k + 4 * (i : Int) + 2) = k + 4 * (i : Int) + 2 := wrap64 (by omega) (by omega)
   have hwv3 : IntKind.wrap .i64 (k + 4 * (i : Int) + 3) = k + 4 * (i : Int) + 3 := wrap64 (by omega) (by omega)
   have hwv4 : IntKind.wrap .i64 (k + 4 * (i : Int) + 4) = k + 4 * (i : Int) + 4 := wrap64 (by omega) (by omega)
   refine AW.skipN (fun _ h => h) ?_
   refine AW.seq ?_
   refine AW.block ?_
   refine rg [0,1,5] ?_
   intro k hk; simp -dsimp [go_sem, -decide_eq_true_eq, -decide_eq_false_iff_not, hp, hp2, hp3, hlt, hwk0, hwk1, hwk2, hwk3, hwv0, hwv1, hwv2, hwv3, hwv4]
   repeat' first | apply And.intro | refine hk _ ?_ | intro hg | omega | exact True.intro
   all_goals clear hk k
   refine rg [0,1,5] ?_
   intro k hk; simp -dsimp [go_sem, -decide_eq_true_eq, -decide_eq_false_iff_not, hp, hp2, hp3, hlt, hwk0, hwk1, hwk2, hwk3, hwv0, hwv1, hwv2, hwv3, hwv4]
   repeat' first | apply And.intro | refine hk _ ?_ | intro hg | omega | exact True.intro
   all_goals clear hk k
   refine rg [0,1,5] ?_
   intro k hk; simp -dsimp [go_sem, -decide_eq_true_eq, -decide_eq_false_iff_not, hp, hp2, hp3, hlt, hwk0, hwk1, hwk2, hwk3, hwv0, hwv1, hwv2, hwv3, hwv4]
   repeat' first | apply And.intro | refine hk _ ?_ | intro hg | omega | exact True.intro
   all_goals clear hk k
   refine rg [0,1,5] ?_
   intro k hk; simp -dsimp [go_sem, -decide_eq_true_eq, -decide_eq_false_iff_not, hp, hp2, hp3, hlt, hwk0, hwk1, hwk2, hwk3, hwv0, hwv1, hwv2, hwv3, hwv4]
   repeat' first | apply And.intro | refine hk _ ?_ | intro hg | omega | exact True.intro
   all_goals clear hk k
   refine rg [0,1,5] ?_
   intro k hk; simp -dsimp [go_sem, -decide_eq_true_eq, -decide_eq_false_iff_not, hp, hp2, hp3, hlt, hwk0, hwk1, hwk2, hwk3, hwv0, hwv1, hwv2, hwv3, hwv4]
   repeat' first | apply And.intro | refine hk _ ?_ | intro hg | omega | exact True.intro
   all_goals clear hk k
   refine rg [0,1,5] ?_
   intro k hk; simp -dsimp [go_sem, -decide_eq_true_eq, -decide_eq_false_iff_not, hp, hp2, hp3, hlt, hwk0, hwk1, hwk2, hwk3, hwv0, hwv1, hwv2, hwv3, hwv4]
   repeat' first | apply And.intro | refine hk _ ?_ | intro hg | omega | exact True.intro
   all_goals clear hk k
   refine rg [0,1,5] ?_
   intro k hk; simp -dsimp [go_sem, -decide_eq_true_eq, -decide_eq_false_iff_not, hp, hp2, hp3, hlt, hwk0, hwk1, hwk2, hwk3, hwv0, hwv1, hwv2, hwv3, hwv4]
   repeat' first | apply And.intro | refine hk _ ?_ | intro hg | omega | exact True.intro
   all_goals clear hk k
   refine rgN [0,1,5] (fun _ h => h) ?_
   intro k hk; simp -dsimp [go_sem, -decide_eq_true_eq, -decide_eq_false_iff_not, hp, hp2, hp3, hlt, hwk0, hwk1, hwk2, hwk3, hwv0, hwv1, hwv2, hwv3, hwv4]
   repeat' first | apply And.intro | refine hk _ ?_ | intro hg | omega | exact True.intro
   all_goals clear hk k
   refine rgK ?_
   intro k hk; simp -dsimp [go_sem, -decide_eq_true_eq, -decide_eq_false_iff_not, hp, hp2, hp3, hlt, hwk0, hwk1, hwk2, hwk3, hwv0, hwv1, hwv2, hwv3, hwv4]
   repeat' first | apply And.intro | refine hk _ ?_ | intro hg | omega | exact True.intro
   all_goals clear hk k
   show ∃ _, _
   have hw := wrapi hlt (by omega)
   have hs := mkP_set (f := fN k) (l := l.map TNode.ro) (k := 0) (i := i) (by simpa using hlt)
   rw [fN_eq] at hs
   refine ⟨i + 1, by omega, by omega, Less.of rfl (by simp [go_sem, hw]; omega) (by simp [go_sem, ← hs])⟩)
 ·intro hc; try simp at hc
  all_goals (
   refine AW.exitN (fun _ h => h) ?_
   refine rgA [0,4] ?_
   refine rt ?_
   obtain rfl : i = l.length := (by omega)
   simp [go_sem, Try.results33, mkN_end, mN_len])

/-- laws.heldNodeS -/
theorem dc_laws_heldNodeS (n : Nat) (k : Int) (hk : 0 ≤ k ∧ k + 4 * n ≤ 4611686018427387904) : DC Try.prog 62 [.isl 4 ((mN n k).map TNode.ro), .int .i64 k] (.int .i64 (k + 4 * (n : Int))) [] := by
 have hml := mN_len (n := n) (k := k)
 refine DC.intro tiOk Try.func62 rfl rfl rfl rfl rfl rfl rfl rfl [] ?_
 refine rg [0,1] ?_
 intro k hk; simp -dsimp [go_sem, -decide_eq_true_eq, -decide_eq_false_iff_not, hml]
 repeat' first | apply And.intro | refine hk _ ?_ | intro hg | omega | exact True.intro
 all_goals clear hk k
 refine AW.seq ?_
 refine rg [0,1,5] ?_
 intro k hk; simp -dsimp [go_sem, -decide_eq_true_eq, -decide_eq_false_iff_not, hml]
 repeat' first | apply And.intro | refine hk _ ?_ | intro hg | omega | exact True.intro
 all_goals clear hk k
 refine AW.block ?_
 refine AW.loopI (fun i : Nat => ⟨49, [(0, .isl 4 ((mN n k).map TNode.ro)), (1, .int .i64 (k + 4 * (i : Int))), (5, .int .i64 i)], []⟩) (fun i => i ≤ n) (fun i => n - i) (0) (by simp) (Less.of rfl (by simp [go_sem]) (by simp [go_sem])) ?_
 rintro i hi
 refine AW.seq ?_
 refine rg [0,1,5,9] ?_
 intro k hk; simp -dsimp [go_sem, -decide_eq_true_eq, -decide_eq_false_iff_not, hml]
 repeat' first | apply And.intro | refine hk _ ?_ | intro hg | omega | exact True.intro
 all_goals clear hk k
 refine AW.cond rfl ?_ ?_
 ·intro hc; try simp at hc
  all_goals try (exfalso; omega; done)
  all_goals (
   have hlt : i < n := by assumption
   have hx := mN_at (k := k) hlt
   have hwk0 : IntKind.wrap .i64 (k + 4 * (i : Int) + 1) = k + 4 * (i : Int) + 1 := (wrap64 (by omega) (by omega)).trans (by omega)
   have hwk1 : IntKind.wrap .i64 (k + 4 * (i : Int) + 1 + 1) = k + 4 * (i : Int) + 2 := (wrap64 (by omega) (by omega)).trans (by omega)
   have hwk2 : IntKind.wrap .i64 (k + 4 * (i : Int) + 2 + 1) = k + 4 * (i : Int) + 3 := (wrap64 (by omega) (by omega)).trans (by omega)
   have hwk3 : IntKind.wrap .i64 (k + 4 * (i : Int) + 3 + 1) = k + 4 * (i : Int) + 4 := (wrap64 (by omega) (by omega)).trans (by omega)
   have hwv0 : IntKind.wrap .i64 (k + 4 * (i : Int)) = k + 4 * (i : Int) := wrap64 (by omega) (by omega)
   have hwv1 : IntKind.wrap .i64 (k + 4 * (i : Int) + 1) = k + 4 * (i : Int) + 1 := wrap64 (by omega) (by omega)
   have hwv2 : IntKind.wrap .i64 (k + 4 * (i : Int) + 2) = k + 4 * (i : Int) + 2 := wrap64 (by omega) (by omega)
   have hwv3 : IntKind.wrap .i64 (k + 4 * (i : Int) + 3) = k + 4 * (i : Int) + 3 := wrap64 (by omega) (by omega)
   have hwv4 : IntKind.wrap .i64 (k + 4 * (i : Int) + 4) = k + 4 * (i : Int) + 4 := wrap64 (by omega) (by omega)
   refine AW.skipN (fun _ h => h) ?_
   refine AW.seq ?_
   refine AW.block ?_
   refine AW.seq ?_
   refine rg [0,1,5,18] ?_
   intro k hk; simp -dsimp (maxSteps := 2000000) [go_sem, -decide_eq_true_eq, -decide_eq_false_iff_not, hml, hx, nodeM, hwk0, hwk1, hwk2, hwk3, hwv0, hwv1, hwv2, hwv3, hwv4]
   repeat' first | apply And.intro | refine hk _ ?_ | intro hg | omega | exact True.intro
   all_goals clear hk k
   refine AW.cond rfl ?_ ?_
   ·intro hc; try simp at hc
    all_goals try (exfalso; omega; done)
    all_goals (
     refine rg [4] ?_
     intro k hk; simp -dsimp [go_sem, -decide_eq_true_eq, -decide_eq_false_iff_not, hml, hx, nodeM, hwk0, hwk1, hwk2, hwk3, hwv0, hwv1, hwv2, hwv3, hwv4]
     repeat' first | apply And.intro | refine hk _ ?_ | intro hg | omega | exact True.intro
     all_goals clear hk k
     refine rt ?_
     obtain rfl : i = n := (by omega)
     simp [go_sem, Try.results62])
   ·intro hc; try simp at hc
    all_goals try (exfalso; omega; done)
    all_goals (
     refine AW.skipN (fun _ h => h) ?_
     refine rg [0,1,5] ?_
     intro k hk; simp -dsimp [go_sem, -decide_eq_true_eq, -decide_eq_false_iff_not, hml, hx, nodeM, hwk0, hwk1, hwk2, hwk3, hwv0, hwv1, hwv2, hwv3, hwv4]
     repeat' first | apply And.intro | refine hk _ ?_ | intro hg | omega | exact True.intro
     all_goals clear hk k
     refine AW.seq ?_
     refine rg [0,1,5,27] ?_
     intro k hk; simp -dsimp (maxSteps := 2000000) [go_sem, -decide_eq_true_eq, -decide_eq_false_iff_not, hml, hx, nodeM, hwk0, hwk1, hwk2, hwk3, hwv0, hwv1, hwv2, hwv3, hwv4]
     repeat' first | apply And.intro | refine hk _ ?_ | intro hg | omega | exact True.intro
     all_goals clear hk k
     refine AW.cond rfl ?_ ?_
     ·intro hc; try simp at hc
      all_goals try (exfalso; omega; done)
      all_goals (
       refine rg [4] ?_
       intro k hk; simp -dsimp [go_sem, -decide_eq_true_eq, -decide_eq_false_iff_not, hml, hx, nodeM, hwk0, hwk1, hwk2, hwk3, hwv0, hwv1, hwv2, hwv3, hwv4]
       repeat' first | apply And.intro | refine hk _ ?_ | intro hg | omega | exact True.intro
       all_goals clear hk k
       refine rt ?_
       obtain rfl : i = n := (by omega)
       simp [go_sem, Try.results62])
     ·intro hc; try simp at hc
      all_goals try (exfalso; omega; done)
      all_goals (
       refine AW.skipN (fun _ h => h) ?_
       refine rg [0,1,5] ?_
       intro k hk; simp -dsimp [go_sem, -decide_eq_true_eq, -decide_eq_false_iff_not, hml, hx, nodeM, hwk0, hwk1, hwk2, hwk3, hwv0, hwv1, hwv2, hwv3, hwv4]
       repeat' first | apply And.intro | refine hk _ ?_ | intro hg | omega | exact True.intro
       all_goals clear hk k
       refine AW.seq ?_
       refine rg [0,1,5,36] ?_
       intro k hk; simp -dsimp (maxSteps := 2000000) [go_sem, -decide_eq_true_eq, -decide_eq_false_iff_not, hml, hx, nodeM, hwk0, hwk1, hwk2, hwk3, hwv0, hwv1, hwv2, hwv3, hwv4]
       repeat' first | apply And.intro | refine hk _ ?_ | intro hg | omega | exact True.intro
       all_goals clear hk k
       refine AW.cond rfl ?_ ?_
       ·intro hc; try simp at hc
        all_goals try (exfalso; omega; done)
        all_goals (
         refine rg [4] ?_
         intro k hk; simp -dsimp [go_sem, -decide_eq_true_eq, -decide_eq_false_iff_not, hml, hx, nodeM, hwk0, hwk1, hwk2, hwk3, hwv0, hwv1, hwv2, hwv3, hwv4]
         repeat' first | apply And.intro | refine hk _ ?_ | intro hg | omega | exact True.intro
         all_goals clear hk k
         refine rt ?_
         obtain rfl : i = n := (by omega)
         simp [go_sem, Try.results62])
       ·intro hc; try simp at hc
        all_goals try (exfalso; omega; done)
        all_goals (
         refine AW.skipN (fun _ h => h) ?_
         refine rg [0,1,5] ?_
         intro k hk; simp -dsimp [go_sem, -decide_eq_true_eq, -decide_eq_false_iff_not, hml, hx, nodeM, hwk0, hwk1, hwk2, hwk3, hwv0, hwv1, hwv2, hwv3, hwv4]
         repeat' first | apply And.intro | refine hk _ ?_ | intro hg | omega | exact True.intro
         all_goals clear hk k
         refine AW.seq ?_
         refine rg [0,1,5,45] ?_
         intro k hk; simp -dsimp (maxSteps := 2000000) [go_sem, -decide_eq_true_eq, -decide_eq_false_iff_not, hml, hx, nodeM, hwk0, hwk1, hwk2, hwk3, hwv0, hwv1, hwv2, hwv3, hwv4]
         repeat' first | apply And.intro | refine hk _ ?_ | intro hg | omega | exact True.intro
         all_goals clear hk k
         refine AW.cond rfl ?_ ?_
         ·intro hc; try simp at hc
          all_goals try (exfalso; omega; done)
          all_goals (
           refine rg [4] ?_
           intro k hk; simp -dsimp [go_sem, -decide_eq_true_eq, -decide_eq_false_iff_not, hml, hx, nodeM, hwk0, hwk1, hwk2, hwk3, hwv0, hwv1, hwv2, hwv3, hwv4]
           repeat' first | apply And.intro | refine hk _ ?_ | intro hg | omega | exact True.intro
           all_goals clear hk k
           refine rt ?_
           obtain rfl : i = n := (by omega)
           simp [go_sem, Try.results62])
         ·intro hc; try simp at hc
          all_goals try (exfalso; omega; done)
          all_goals (
           refine AW.skipN (fun _ h => h) ?_
           refine rgN [0,1,5] (fun _ h => h) ?_
           intro k hk; simp -dsimp [go_sem, -decide_eq_true_eq, -decide_eq_false_iff_not, hml, hx, nodeM, hwk0, hwk1, hwk2, hwk3, hwv0, hwv1, hwv2, hwv3, hwv4]
           repeat' first | apply And.intro | refine hk _ ?_ | intro hg | omega | exact True.intro
           all_goals clear hk k
           refine rgK ?_
           intro k hk; simp -dsimp [go_sem, -decide_eq_true_eq, -decide_eq_false_iff_not, hml, hx, nodeM, hwk0, hwk1, hwk2, hwk3, hwv0, hwv1, hwv2, hwv3, hwv4]
           repeat' first | apply And.intro | refine hk _ ?_ | intro hg | omega | exact True.intro
           all_goals clear hk k
           show ∃ _, _
           have hw := wrapi hlt (by omega)
           refine ⟨i + 1, by omega, by omega, Less.of rfl (by simp [go_sem, hw]; omega) (by simp [go_sem])⟩)))))
 ·intro hc; try simp at hc
  all_goals try (exfalso; omega; done)
  all_goals (
   refine AW.exitN (fun _ h => h) ?_
   refine rg [4] ?_
   intro k hk; simp -dsimp [go_sem, -decide_eq_true_eq, -decide_eq_false_iff_not, hml]
   repeat' first | apply And.intro | refine hk _ ?_ | intro hg | omega | exact True.intro
   all_goals clear hk k
   refine rt ?_
   obtain rfl : i = n := (by omega)
   simp [go_sem, Try.results62])

end Go.AM
