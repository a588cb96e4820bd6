/- Joined texts: Bd Be Bf Sa Psp Sd Se Sb Sf. -/
import Derived.Test.YtijoeghjkklaaaaB1
import Derived.Test.YtijoeghjkklaaaaB2
import Derived.Test.YtijoeghjkklaaaaB3
import Derived.Test.YtijoeghjkklaaaaB4
import Derived.Test.YtijoeghjkklaaaaB5
import Derived.Test.YtijoeghjkklaaaaB6
import Derived.Test.YtijoeghjkklaaaaB7
import Derived.Test.YtijoeghjkklaaaaB8
set_option linter.unusedVariables false
set_option linter.unusedSimpArgs false
set_option maxHeartbeats 600000
set_option maxRecDepth 100000
namespace Go.AM
open Go.Proofs
set_option maxHeartbeats 8000000 in
theorem dc_impl_graphMaker_sides (p : List TStep) (hP : ProcOk p) (f : Nat) (hS : ∀ (k : Int) (ns : List TGNode) (fs : List TFlow), 0 ≤ k → k.toNat < p.length → p.length ≤ k.toNat + f → ns.length + 3 * cK p f k ≤ 400 → fs.length + 5 * cK p f k ≤ 400 → DC Try.prog 31 [.op (mrow p ns fs), .int .i64 k] (.tup [.int .i64 (gstep p f k.toNat ns.length).en, .int .i64 (gstep p f k.toNat ns.length).lv]) [(0, .op (mrow p (ns ++ (gstep p f k.toNat ns.length).ns) (fs ++ (gstep p f k.toNat ns.length).fs)))]) (ns : List TGNode) (fs : List TFlow) (a : Nat) (ha : a < p.length) (hf : p.length ≤ a + f + 1) (ok ck : Int) (hb1 : ns.length + 3 * cKs p f (kids p (a : Int)) ≤ 397) (hb2 : fs.length + 5 * cKs p f (kids p (a : Int)) ≤ 395) : DC Try.prog 52 [.op (mrow p ns fs), .int .i64 (a : Nat), .int .i64 ok, .int .i64 ck] (.tup [.int .i64 (sidesG (gstep p f) (cdS p) (⟨ok, a, [], 0, []⟩ : TGNode) (⟨ck, a, [], 0, []⟩ : TGNode) (kids p (a : Int)) ns.length).en, .int .i64 (sidesG (gstep p f) (cdS p) (⟨ok, a, [], 0, []⟩ : TGNode) (⟨ck, a, [], 0, []⟩ : TGNode) (kids p (a : Int)) ns.length).lv]) [(0, .op (mrow p (ns ++ (sidesG (gstep p f) (cdS p) (⟨ok, a, [], 0, []⟩ : TGNode) (⟨ck, a, [], 0, []⟩ : TGNode) (kids p (a : Int)) ns.length).ns) (fs ++ (sidesG (gstep p f) (cdS p) (⟨ok, a, [], 0, []⟩ : TGNode) (⟨ck, a, [], 0, []⟩ : TGNode) (kids p (a : Int)) ns.length).fs)))] := by
 have hkl := kids_len p (a : Int)
 have hp := hP.len.2
 have hfw : ∀ k2 ∈ (kids p (a : Int)), Few p f (gstep p f) k2 := fun k2 h9 => by obtain ⟨m, rfl, h1, h2, _, _⟩ := hP.kid h9; exact gstep_few hP f m h2
 have hnd0 := dc_impl_graphMaker_node_z p ns fs ok (a : Int) 0 0 0 [] (by omega)
 obtain ⟨N0, hN0⟩ : ∃ N, N = ns ++ [(⟨ok, a, [], 0, []⟩ : TGNode)] := ⟨_, rfl⟩
 rw [← hN0] at hnd0
 refine DC.intro tiOk Try.func52 rfl rfl rfl rfl rfl rfl rfl (by simp [noW, noWo]) [] ?_
 refine rgA [0,1,2,3] ?_
 refine AW.reg tiOk (fun i => if i = 4 then [0] else []) [0,1,3,10,11] ?_
 intro k hk; simp -dsimp (maxSteps := 2000000) [go_sem, -decide_eq_true_eq, -decide_eq_false_iff_not]
 repeat' first | apply And.intro | refine hk _ ?_ | intro hg | (refine CallK.intro (hnd0) ?_; simp -dsimp (maxSteps := 2000000) [go_sem, -decide_eq_true_eq, -decide_eq_false_iff_not]) | omega | exact True.intro
 all_goals clear hk k
 refine AW.seq ?_
 refine rg [0,1,3,10,11,30,31,32] ?_
 intro k hk; simp -dsimp (maxSteps := 2000000) [go_sem, -decide_eq_true_eq, -decide_eq_false_iff_not]
 repeat' first | apply And.intro | refine hk _ ?_ | intro hg | (refine CallK.intro (dc_impl_kids p (a : Int) hp) ?_; simp -dsimp (maxSteps := 2000000) [go_sem, -decide_eq_true_eq, -decide_eq_false_iff_not]) | omega | exact True.intro
 all_goals clear hk k
 refine AW.block ?_
 refine AW.rename (nd := ?nd_1) 24 57 ?h1_1 ?h2_1 ?h4_1 ?kk_1
 (case h1_1 => exact rfl)
 (case h2_1 => simp [go_sem])
 (case h4_1 => simp [go_sem])
 refine AW.loopI (fun q : Nat × List TGNode × List TFlow => ⟨77, [(0, .ptr 1900 3 0 0), (1, .int .i64 (a : Nat)), (3, .int .i64 ck), (10, .int .i64 (ns.length : Nat)), (11, .sl 57 1 0 q.1), (30, .sl 1030 1 0 (kids p (a : Int)).length), (31, .int .i64 (kids p (a : Int)).length), (32, .int .i64 (q.1 : Nat))], [(57, some ⟨1, (sdN (gstep p f) (cdS p) ns.length (⟨ok, a, [], 0, []⟩ : TGNode) (kids p (a : Int)) q.1).os.map I1⟩), (1030, some ⟨1, (kids p (a : Int)).map I1⟩), (1900, some ⟨3, [mrow p q.2.1 q.2.2]⟩)]⟩) (fun q => q.1 ≤ (kids p (a : Int)).length ∧ q.2.1 = ns ++ (sdN (gstep p f) (cdS p) ns.length (⟨ok, a, [], 0, []⟩ : TGNode) (kids p (a : Int)) q.1).ns ∧ q.2.2 = fs ++ (sdN (gstep p f) (cdS p) ns.length (⟨ok, a, [], 0, []⟩ : TGNode) (kids p (a : Int)) q.1).fs) (fun q => (kids p (a : Int)).length - q.1) ((0, N0, fs)) (⟨Nat.zero_le _, hN0, by simp only; rw [sd_zero]; simp⟩) (Less.of rfl (by simp [go_sem, sd_zero]) (by simp [go_sem, sd_zero])) ?_
 rintro ⟨i, N1, F1⟩ ⟨hi, hN1, hF1⟩
 refine AW.rename (nd := ?nd_2) 57 24 ?h1_2 ?h2_2 ?h4_2 ?kk_2
 (case h1_2 => exact rfl)
 (case h2_2 => simp [go_sem])
 (case h4_2 => simp [go_sem])
 simp only at hi hN1 hF1
 have hf1 := sd_few (cd := cdS p) (n := ns.length) (op := (⟨ok, a, [], 0, []⟩ : TGNode)) hfw i hi
 have hc2 := cKs_le p f (kids p (a : Int)) i
 have hNl : N1.length = ns.length + (sdN (gstep p f) (cdS p) ns.length (⟨ok, a, [], 0, []⟩ : TGNode) (kids p (a : Int)) i).ns.length := by rw [hN1, List.length_append]
 have hFl : F1.length = fs.length + (sdN (gstep p f) (cdS p) ns.length (⟨ok, a, [], 0, []⟩ : TGNode) (kids p (a : Int)) i).fs.length := by rw [hF1, List.length_append]
 have hol : (sdN (gstep p f) (cdS p) ns.length (⟨ok, a, [], 0, []⟩ : TGNode) (kids p (a : Int)) i).os.length = i := hf1.2.2
 refine rgA [0,1,3,10,11,30,31,32,33] ?_
 refine AW.seq ?_
 refine AW.cond rfl ?_ ?_
 ·intro hc; try simp at hc
  all_goals (
 have hlt : i < (kids p (a : Int)).length := by first | assumption | omega
 obtain ⟨u, hu⟩ := at_some (l := (kids p (a : Int))) (i := i) hlt
 have hu3 := gel hu
 obtain ⟨um, hum, hu1, hu2, hu4, hu5⟩ := hP.kid (List.mem_of_getElem? hu)
 have hc1 := cKs_snoc (p := p) (f := f) hu
 have hc3 := cKs_le p f (kids p (a : Int)) (i + 1)
 have hpz := cK_pos p f u
 have hcall := hS u N1 F1 (by omega) (by omega) (by omega) (by omega) (by omega)
 have hsd := sd_succ (g := gstep p f) (cd := cdS p) (n := ns.length) (op := (⟨ok, a, [], 0, []⟩ : TGNode)) hu
 rw [hNl] at hcall
 obtain ⟨R, hR⟩ : ∃ R, gstep p f u.toNat (ns.length + (sdN (gstep p f) (cdS p) ns.length (⟨ok, a, [], 0, []⟩ : TGNode) (kids p (a : Int)) i).ns.length) = R := ⟨_, rfl⟩
 have hfR := hfw u (List.mem_of_getElem? hu) (ns.length + (sdN (gstep p f) (cdS p) ns.length (⟨ok, a, [], 0, []⟩ : TGNode) (kids p (a : Int)) i).ns.length)
 unfold sdF at hsd
 rw [hR] at hcall hsd hfR
 obtain ⟨N2, hN2⟩ : ∃ N, N = N1 ++ R.ns := ⟨_, rfl⟩
 obtain ⟨F2, hF2⟩ : ∃ N, N = F1 ++ R.fs := ⟨_, rfl⟩
 rw [← hN2, ← hF2] at hcall
 have hum2 : u.toNat = um := by omega
 obtain ⟨x, hx⟩ := at_some hu2
 have hx3 := gel hx
 have hcd : cdS p um = x.cond := by unfold cdS; rw [nS_at hx]
 rw [hum2, hcd] at hsd
 have hxs := hP.sml x (List.mem_of_getElem? hx)
 have hfl := dc_impl_graphMaker_flow_c p N2 F2 (ns.length : Int) R.en x.cond (by have := hxs.2.1; omega) (by rw [hF2, List.length_append]; omega)
 have htk : ((sdN (gstep p f) (cdS p) ns.length (⟨ok, a, [], 0, []⟩ : TGNode) (kids p (a : Int)) i).os.map I1).take i = (sdN (gstep p f) (cdS p) ns.length (⟨ok, a, [], 0, []⟩ : TGNode) (kids p (a : Int)) i).os.map I1 := List.take_of_length_le (by rw [List.length_map]; omega)
 have hu0b : (0 : Int) ≤ u := by omega
 have hult : u < (p.length : Nat) := by omega
 refine AW.skipN (fun _ h => h) ?_
 refine AW.seq ?_
 refine AW.block ?_
 refine rg [0,1,3,10,11,13,30,31,32] ?_
 intro k hk; simp -dsimp [go_sem, -decide_eq_true_eq, -decide_eq_false_iff_not, hu, hu3]
 repeat' first | apply And.intro | refine hk _ ?_ | intro hg | omega | exact True.intro
 all_goals clear hk k
 refine AW.reg tiOk (fun _ => [0]) [0,1,3,10,11,13,14,15,30,31,32] ?_
 intro k hk; simp -dsimp (maxSteps := 2000000) [go_sem, -decide_eq_true_eq, -decide_eq_false_iff_not, hu, hu3]
 repeat' first | apply And.intro | refine hk _ ?_ | intro hg | (refine CallK.intro (hcall) ?_; simp -dsimp (maxSteps := 2000000) [go_sem, -decide_eq_true_eq, -decide_eq_false_iff_not, hu, hu3]) | omega | exact True.intro
 all_goals clear hk k
 refine AW.reg tiOk (fun _ => [0]) [0,1,3,10,11,15,30,31,32] ?_
 intro k hk; simp -dsimp (maxSteps := 2000000) [go_sem, -decide_eq_true_eq, -decide_eq_false_iff_not, hx, hx3, hum2]
 repeat' first | apply And.intro | refine hk _ ?_ | intro hg | (refine CallK.intro (hfl) ?_; simp -dsimp (maxSteps := 2000000) [go_sem, -decide_eq_true_eq, -decide_eq_false_iff_not, hx, hx3, hum2]) | omega | exact True.intro
 all_goals clear hk k
 refine rgN [0,1,3,10,11,30,31,32] (fun _ h => h) ?_
 intro k hk; simp -dsimp [go_sem, -decide_eq_true_eq, -decide_eq_false_iff_not, htk, hol]
 repeat' first | apply And.intro | refine hk _ ?_ | intro hg | omega | exact True.intro
 all_goals clear hk k
 refine rgKA ?_
 show ∃ _, _
 have hww : IntKind.wrap .i64 ((i : Int) + 1) = (i : Int) + 1 := wrap64 (by omega) (by omega)
 refine ⟨(i + 1, N2, F2 ++ [⟨(ns.length : Int), R.en, x.cond⟩]), ⟨by simp only; omega, by simp only; rw [hsd, hN2, hN1]; simp, by simp only; rw [hsd, hF2, hF1]; simp⟩, by simp only; omega, Less.of rfl (by simp [go_sem, hww, hsd, hol]) (by simp [go_sem, hsd])⟩)
 ·intro hc; try simp at hc
  all_goals (
 refine AW.exitN (fun _ h => h) ?_
 obtain rfl : i = (kids p (a : Int)).length := by first | omega | (simp at hc; omega)
 have hnd9 := dc_impl_graphMaker_node_z p N1 F1 ck (a : Int) 0 0 0 [] (by omega)
 obtain ⟨N3, hN3⟩ : ∃ N, N = N1 ++ [(⟨ck, a, [], 0, []⟩ : TGNode)] := ⟨_, rfl⟩
 rw [← hN3] at hnd9
 obtain ⟨OS, hOS⟩ : ∃ O, (sdN (gstep p f) (cdS p) ns.length (⟨ok, a, [], 0, []⟩ : TGNode) (kids p (a : Int)) (kids p (a : Int)).length).os = O := ⟨_, rfl⟩
 rw [hOS] at hol ⊢
 refine AW.reg tiOk (fun _ => [0]) [0,10,11,16] ?_
 intro k hk; simp -dsimp (maxSteps := 2000000) [go_sem, -decide_eq_true_eq, -decide_eq_false_iff_not]
 repeat' first | apply And.intro | refine hk _ ?_ | intro hg | (refine CallK.intro (hnd9) ?_; simp -dsimp (maxSteps := 2000000) [go_sem, -decide_eq_true_eq, -decide_eq_false_iff_not]) | omega | exact True.intro
 all_goals clear hk k
 refine AW.seq ?_
 refine rg [0,10,16,64,65,66] ?_
 intro k hk; simp -dsimp [go_sem, -decide_eq_true_eq, -decide_eq_false_iff_not, hol]
 repeat' first | apply And.intro | refine hk _ ?_ | intro hg | omega | exact True.intro
 all_goals clear hk k
 refine AW.block ?_
 refine AW.loopI (fun q : Nat × List TFlow => ⟨77, [(0, .ptr 1900 3 0 0), (10, .int .i64 (ns.length : Nat)), (16, .int .i64 (N1.length : Nat)), (64, .sl 24 1 0 (kids p (a : Int)).length), (65, .int .i64 (kids p (a : Int)).length), (66, .int .i64 (q.1 : Nat))], [(24, some ⟨1, OS.map I1⟩), (1900, some ⟨3, [mrow p N3 q.2]⟩)]⟩) (fun q => q.1 ≤ (kids p (a : Int)).length ∧ q.2 = F1 ++ (OS.take q.1).map fun o => (⟨o, (N1.length : Nat), []⟩ : TFlow)) (fun q => (kids p (a : Int)).length - q.1) ((0, F1)) (⟨Nat.zero_le _, by simp⟩) (Less.of rfl (by simp [go_sem]) (by simp [go_sem])) ?_
 rintro ⟨j, F4⟩ ⟨hj, hF4⟩
 simp only at hj hF4
 refine rgA [0,10,16,64,65,66,67] ?_
 refine AW.seq ?_
 refine AW.cond rfl ?_ ?_
 ·intro hc; try simp at hc
  all_goals (
 have hlt : j < (kids p (a : Int)).length := by first | assumption | omega
 obtain ⟨o, ho⟩ := at_some (l := OS) (i := j) (by omega)
 have ho3 := gel ho
 have hos := take_snoc ho
 have hF4l : F4.length = F1.length + j := by rw [hF4, List.length_append, List.length_map, List.length_take]; omega
 have hfn := dc_impl_graphMaker_flow_n p N3 F4 o (N1.length : Int) (by omega)
 refine AW.skipN (fun _ h => h) ?_
 refine AW.seq ?_
 refine AW.block ?_
 refine rg [0,10,16,18,64,65,66] ?_
 intro k hk; simp -dsimp [go_sem, -decide_eq_true_eq, -decide_eq_false_iff_not, ho, ho3, hol]
 repeat' first | apply And.intro | refine hk _ ?_ | intro hg | omega | exact True.intro
 all_goals clear hk k
 refine AW.regN tiOk (fun _ => [0]) [0,10,16,64,65,66] (fun _ h => h) ?_
 intro k hk; simp -dsimp (maxSteps := 2000000) [go_sem, -decide_eq_true_eq, -decide_eq_false_iff_not, ho, ho3, hol]
 repeat' first | apply And.intro | refine hk _ ?_ | intro hg | (refine CallK.intro (hfn) ?_; simp -dsimp (maxSteps := 2000000) [go_sem, -decide_eq_true_eq, -decide_eq_false_iff_not, ho, ho3, hol]) | omega | exact True.intro
 all_goals clear hk k
 refine rgK ?_
 intro k hk; simp -dsimp [go_sem, -decide_eq_true_eq, -decide_eq_false_iff_not, ho, ho3, hol]
 repeat' first | apply And.intro | refine hk _ ?_ | intro hg | omega | exact True.intro
 all_goals clear hk k
 show ∃ _, _
 have hww : IntKind.wrap .i64 ((j : Int) + 1) = (j : Int) + 1 := wrap64 (by omega) (by omega)
 refine ⟨(j + 1, F4 ++ [⟨o, (N1.length : Nat), []⟩]), ⟨by simp only; omega, by simp only; rw [hos, hF4]; simp⟩, by simp only; omega, Less.of rfl (by simp [go_sem, hww]) (by simp [go_sem])⟩)
 ·intro hc; try simp at hc
  all_goals (
 refine AW.exitN (fun _ h => h) ?_
 refine rgA [0,8,9] ?_
 refine rt ?_
 obtain rfl : j = (kids p (a : Int)).length := by first | omega | (simp at hc; omega)
 have hfi : sidesG (gstep p f) (cdS p) (⟨ok, a, [], 0, []⟩ : TGNode) (⟨ck, a, [], 0, []⟩ : TGNode) (kids p (a : Int)) ns.length = ⟨(sdN (gstep p f) (cdS p) ns.length (⟨ok, a, [], 0, []⟩ : TGNode) (kids p (a : Int)) (kids p (a : Int)).length).ns ++ [(⟨ck, a, [], 0, []⟩ : TGNode)], (sdN (gstep p f) (cdS p) ns.length (⟨ok, a, [], 0, []⟩ : TGNode) (kids p (a : Int)) (kids p (a : Int)).length).fs ++ OS.map fun o => (⟨o, (N1.length : Nat), []⟩ : TFlow), (ns.length : Nat), (N1.length : Nat)⟩ := by simp only [sidesG, hOS, hNl]
 rw [hfi]
 rw [List.take_of_length_le (by omega)] at hF4
 rw [hN3, hF4, hF1]
 rw [hN1] at hNl ⊢
 simp [go_sem, Try.results52]))
end Go.AM
namespace Go.AM
open Go.Proofs
set_option maxHeartbeats 8000000 in
theorem dc_impl_graphMaker_guard (p : List TStep) (hP : ProcOk p) (f : Nat) (hS : ∀ (k : Int) (ns : List TGNode) (fs : List TFlow), 0 ≤ k → k.toNat < p.length → p.length ≤ k.toNat + f → ns.length + 3 * cK p f k ≤ 400 → fs.length + 5 * cK p f k ≤ 400 → DC Try.prog 31 [.op (mrow p ns fs), .int .i64 k] (.tup [.int .i64 (gstep p f k.toNat ns.length).en, .int .i64 (gstep p f k.toNat ns.length).lv]) [(0, .op (mrow p (ns ++ (gstep p f k.toNat ns.length).ns) (fs ++ (gstep p f k.toNat ns.length).fs)))]) (ns : List TGNode) (fs : List TFlow) (a : Nat) (ha : a < p.length) (hf : p.length ≤ a + f + 1) (hk2 : (kids p (a : Int)).length = 2) (hb1 : ns.length + 3 * cKs p f (kids p (a : Int)) ≤ 397) (hb2 : fs.length + 5 * cKs p f (kids p (a : Int)) ≤ 395) : DC Try.prog 51 [.op (mrow p ns fs), .int .i64 (a : Nat)] (.tup [.int .i64 (guardG (gstep p f) ⟨11, a, [], (nS p a).arg, []⟩ ⟨12, a, [], 0, []⟩ ⟨13, a, [], 0, []⟩ (gI (kids p (a : Int)) 0) (gI (kids p (a : Int)) 1) ns.length).en, .int .i64 (guardG (gstep p f) ⟨11, a, [], (nS p a).arg, []⟩ ⟨12, a, [], 0, []⟩ ⟨13, a, [], 0, []⟩ (gI (kids p (a : Int)) 0) (gI (kids p (a : Int)) 1) ns.length).lv]) [(0, .op (mrow p (ns ++ (guardG (gstep p f) ⟨11, a, [], (nS p a).arg, []⟩ ⟨12, a, [], 0, []⟩ ⟨13, a, [], 0, []⟩ (gI (kids p (a : Int)) 0) (gI (kids p (a : Int)) 1) ns.length).ns) (fs ++ (guardG (gstep p f) ⟨11, a, [], (nS p a).arg, []⟩ ⟨12, a, [], 0, []⟩ ⟨13, a, [], 0, []⟩ (gI (kids p (a : Int)) 0) (gI (kids p (a : Int)) 1) ns.length).fs)))] := by
 have hkl := kids_len p (a : Int)
 have hp := hP.len.2
 have hfw : ∀ k2 ∈ (kids p (a : Int)), Few p f (gstep p f) k2 := fun k2 h9 => by obtain ⟨m, rfl, h1, h2, _, _⟩ := hP.kid h9; exact gstep_few hP f m h2
 obtain ⟨x, hx⟩ := at_some ha
 have hx3 := gel hx
 have hxn := nS_at hx
 obtain ⟨u0, hu0⟩ := at_some (l := (kids p (a : Int))) (i := 0) (by omega)
 obtain ⟨u1, hu1⟩ := at_some (l := (kids p (a : Int))) (i := 1) (by omega)
 have hu03 := gel hu0
 have hu13 := gel hu1
 obtain ⟨um0, hum0, v1, v2, v4, v5⟩ := hP.kid (List.mem_of_getElem? hu0)
 obtain ⟨um1, hum1, w1, w2, w4, w5⟩ := hP.kid (List.mem_of_getElem? hu1)
 have hc0 : cKs p f (List.take 1 (kids p (a : Int))) = cKs p f (List.take 0 (kids p (a : Int))) + cK p f u0 := cKs_snoc hu0
 have hc1 : cKs p f (List.take 2 (kids p (a : Int))) = cKs p f (List.take 1 (kids p (a : Int))) + cK p f u1 := cKs_snoc hu1
 have hce : cKs p f (List.take 0 (kids p (a : Int))) = 0 := rfl
 have hcl := cKs_le p f (kids p (a : Int)) 2
 have hg0 : gI (kids p (a : Int)) 0 = u0 := by unfold gI; rw [List.getD_eq_getElem?_getD]; simp [hu0]
 have hg1 : gI (kids p (a : Int)) 1 = u1 := by unfold gI; rw [List.getD_eq_getElem?_getD]; simp [hu1]
 have hn0 := dc_impl_graphMaker_node_z p ns fs 11 (a : Int) 0 0 x.arg [] (by omega)
 obtain ⟨N0, hN0⟩ : ∃ N, N = ns ++ [(⟨11, a, [], x.arg, []⟩ : TGNode)] := ⟨_, rfl⟩
 rw [← hN0] at hn0
 have l0 : N0.length = ns.length + 1 := by rw [hN0]; simp
 have hs0 := hS u0 N0 fs (by omega) (by omega) (by omega) (by omega) (by omega)
 rw [l0] at hs0
 obtain ⟨R0, hR0⟩ : ∃ N, N = gstep p f u0.toNat (ns.length + 1) := ⟨_, rfl⟩
 have hf0 := hfw u0 (List.mem_of_getElem? hu0) (ns.length + 1)
 rw [← hR0] at hs0 hf0
 obtain ⟨N1, hN1⟩ : ∃ N, N = N0 ++ R0.ns := ⟨_, rfl⟩
 obtain ⟨F1, hF1⟩ : ∃ N, N = fs ++ R0.fs := ⟨_, rfl⟩
 rw [← hN1, ← hF1] at hs0
 have l1 : N1.length = ns.length + 1 + R0.ns.length := by rw [hN1, List.length_append, l0]
 have m1 : F1.length = fs.length + R0.fs.length := by rw [hF1, List.length_append]
 have hn1 := dc_impl_graphMaker_node_z p N1 F1 12 (a : Int) 0 0 0 [] (by omega)
 obtain ⟨N2, hN2⟩ : ∃ N, N = N1 ++ [(⟨12, a, [], 0, []⟩ : TGNode)] := ⟨_, rfl⟩
 rw [← hN2] at hn1
 have l2 : N2.length = ns.length + 1 + R0.ns.length + 1 := by rw [hN2, List.length_append, l1]; rfl
 have hs1 := hS u1 N2 F1 (by omega) (by omega) (by omega) (by omega) (by omega)
 rw [l2] at hs1
 obtain ⟨R1, hR1⟩ : ∃ N, N = gstep p f u1.toNat (ns.length + 1 + R0.ns.length + 1) := ⟨_, rfl⟩
 have hf1 := hfw u1 (List.mem_of_getElem? hu1) (ns.length + 1 + R0.ns.length + 1)
 rw [← hR1] at hs1 hf1
 obtain ⟨N3, hN3⟩ : ∃ N, N = N2 ++ R1.ns := ⟨_, rfl⟩
 obtain ⟨F2, hF2⟩ : ∃ N, N = F1 ++ R1.fs := ⟨_, rfl⟩
 rw [← hN3, ← hF2] at hs1
 have l3 : N3.length = ns.length + 1 + R0.ns.length + 1 + R1.ns.length := by rw [hN3, List.length_append, l2]
 have m2 : F2.length = F1.length + R1.fs.length := by rw [hF2, List.length_append]
 have hn3 := dc_impl_graphMaker_node_z p N3 F2 13 (a : Int) 0 0 0 [] (by omega)
 obtain ⟨N4, hN4⟩ : ∃ N, N = N3 ++ [(⟨13, a, [], 0, []⟩ : TGNode)] := ⟨_, rfl⟩
 rw [← hN4] at hn3
 have hq0 := dc_impl_graphMaker_flow_n p N4 F2 (ns.length : Nat) R0.en (by omega)
 obtain ⟨F3, hF3⟩ : ∃ N, N = F2 ++ [(⟨(ns.length : Nat), R0.en, []⟩ : TFlow)] := ⟨_, rfl⟩
 rw [← hF3] at hq0
 have m3 : F3.length = F2.length + 1 := by rw [hF3, List.length_append]; rfl
 have hq1 := dc_impl_graphMaker_flow_n p N4 F3 (ns.length : Nat) R1.en (by omega)
 obtain ⟨F4, hF4⟩ : ∃ N, N = F3 ++ [(⟨(ns.length : Nat), R1.en, []⟩ : TFlow)] := ⟨_, rfl⟩
 rw [← hF4] at hq1
 have m4 : F4.length = F3.length + 1 := by rw [hF4, List.length_append]; rfl
 have hq2 := dc_impl_graphMaker_flow_n p N4 F4 R0.lv (N1.length : Nat) (by omega)
 obtain ⟨F5, hF5⟩ : ∃ N, N = F4 ++ [(⟨R0.lv, (N1.length : Nat), []⟩ : TFlow)] := ⟨_, rfl⟩
 rw [← hF5] at hq2
 have m5 : F5.length = F4.length + 1 := by rw [hF5, List.length_append]; rfl
 have hq3 := dc_impl_graphMaker_flow_n p N4 F5 (N1.length : Nat) (N3.length : Nat) (by omega)
 obtain ⟨F6, hF6⟩ : ∃ N, N = F5 ++ [(⟨(N1.length : Nat), (N3.length : Nat), []⟩ : TFlow)] := ⟨_, rfl⟩
 rw [← hF6] at hq3
 have m6 : F6.length = F5.length + 1 := by rw [hF6, List.length_append]; rfl
 have hq4 := dc_impl_graphMaker_flow_n p N4 F6 R1.lv (N3.length : Nat) (by omega)
 obtain ⟨F7, hF7⟩ : ∃ N, N = F6 ++ [(⟨R1.lv, (N3.length : Nat), []⟩ : TFlow)] := ⟨_, rfl⟩
 rw [← hF7] at hq4
 have m7 : F7.length = F6.length + 1 := by rw [hF7, List.length_append]; rfl
 refine DC.intro tiOk Try.func51 rfl rfl rfl rfl rfl rfl rfl (by simp [noW, noWo]) [] ?_
 refine rgA [0,1] ?_
 refine rg [0,1,6] ?_
 intro k hk; simp -dsimp (maxSteps := 2000000) [go_sem, -decide_eq_true_eq, -decide_eq_false_iff_not]
 repeat' first | apply And.intro | refine hk _ ?_ | intro hg | (refine CallK.intro (dc_impl_kids p (a : Int) hp) ?_; simp -dsimp (maxSteps := 2000000) [go_sem, -decide_eq_true_eq, -decide_eq_false_iff_not]) | omega | exact True.intro
 all_goals clear hk k
 refine AW.reg tiOk (fun i => if i = 11 then [0] else []) [0,1,6,7] ?_
 intro k hk; simp -dsimp (maxSteps := 2000000) [go_sem, -decide_eq_true_eq, -decide_eq_false_iff_not, hx, hx3]
 repeat' first | apply And.intro | refine hk _ ?_ | intro hg | (refine CallK.intro (hn0) ?_; simp -dsimp (maxSteps := 2000000) [go_sem, -decide_eq_true_eq, -decide_eq_false_iff_not, hx, hx3]) | omega | exact True.intro
 all_goals clear hk k
 refine AW.reg tiOk (fun _ => [0]) [0,1,6,7,8,9] ?_
 intro k hk; simp -dsimp (maxSteps := 2000000) [go_sem, -decide_eq_true_eq, -decide_eq_false_iff_not, hu0, hu03, hk2]
 repeat' first | apply And.intro | refine hk _ ?_ | intro hg | (refine CallK.intro (hs0) ?_; simp -dsimp (maxSteps := 2000000) [go_sem, -decide_eq_true_eq, -decide_eq_false_iff_not, hu0, hu03, hk2]) | omega | exact True.intro
 all_goals clear hk k
 refine AW.reg tiOk (fun _ => [0]) [0,1,6,7,8,9,10] ?_
 intro k hk; simp -dsimp (maxSteps := 2000000) [go_sem, -decide_eq_true_eq, -decide_eq_false_iff_not]
 repeat' first | apply And.intro | refine hk _ ?_ | intro hg | (refine CallK.intro (hn1) ?_; simp -dsimp (maxSteps := 2000000) [go_sem, -decide_eq_true_eq, -decide_eq_false_iff_not]) | omega | exact True.intro
 all_goals clear hk k
 refine AW.reg tiOk (fun _ => [0]) [0,1,7,8,9,10,11,12] ?_
 intro k hk; simp -dsimp (maxSteps := 2000000) [go_sem, -decide_eq_true_eq, -decide_eq_false_iff_not, hu1, hu13, hk2]
 repeat' first | apply And.intro | refine hk _ ?_ | intro hg | (refine CallK.intro (hs1) ?_; simp -dsimp (maxSteps := 2000000) [go_sem, -decide_eq_true_eq, -decide_eq_false_iff_not, hu1, hu13, hk2]) | omega | exact True.intro
 all_goals clear hk k
 refine AW.reg tiOk (fun _ => [0]) [0,7,8,9,10,11,12,13] ?_
 intro k hk; simp -dsimp (maxSteps := 2000000) [go_sem, -decide_eq_true_eq, -decide_eq_false_iff_not]
 repeat' first | apply And.intro | refine hk _ ?_ | intro hg | (refine CallK.intro (hn3) ?_; simp -dsimp (maxSteps := 2000000) [go_sem, -decide_eq_true_eq, -decide_eq_false_iff_not]) | omega | exact True.intro
 all_goals clear hk k
 refine AW.reg tiOk (fun _ => [0]) [0,7,9,10,11,12,13] ?_
 intro k hk; simp -dsimp (maxSteps := 2000000) [go_sem, -decide_eq_true_eq, -decide_eq_false_iff_not]
 repeat' first | apply And.intro | refine hk _ ?_ | intro hg | (refine CallK.intro (hq0) ?_; simp -dsimp (maxSteps := 2000000) [go_sem, -decide_eq_true_eq, -decide_eq_false_iff_not]) | omega | exact True.intro
 all_goals clear hk k
 refine AW.reg tiOk (fun _ => [0]) [0,7,9,10,12,13] ?_
 intro k hk; simp -dsimp (maxSteps := 2000000) [go_sem, -decide_eq_true_eq, -decide_eq_false_iff_not]
 repeat' first | apply And.intro | refine hk _ ?_ | intro hg | (refine CallK.intro (hq1) ?_; simp -dsimp (maxSteps := 2000000) [go_sem, -decide_eq_true_eq, -decide_eq_false_iff_not]) | omega | exact True.intro
 all_goals clear hk k
 refine AW.reg tiOk (fun _ => [0]) [0,7,10,12,13] ?_
 intro k hk; simp -dsimp (maxSteps := 2000000) [go_sem, -decide_eq_true_eq, -decide_eq_false_iff_not]
 repeat' first | apply And.intro | refine hk _ ?_ | intro hg | (refine CallK.intro (hq2) ?_; simp -dsimp (maxSteps := 2000000) [go_sem, -decide_eq_true_eq, -decide_eq_false_iff_not]) | omega | exact True.intro
 all_goals clear hk k
 refine AW.reg tiOk (fun _ => [0]) [0,7,12,13] ?_
 intro k hk; simp -dsimp (maxSteps := 2000000) [go_sem, -decide_eq_true_eq, -decide_eq_false_iff_not]
 repeat' first | apply And.intro | refine hk _ ?_ | intro hg | (refine CallK.intro (hq3) ?_; simp -dsimp (maxSteps := 2000000) [go_sem, -decide_eq_true_eq, -decide_eq_false_iff_not]) | omega | exact True.intro
 all_goals clear hk k
 refine AW.reg tiOk (fun _ => [0]) [0,7,13] ?_
 intro k hk; simp -dsimp (maxSteps := 2000000) [go_sem, -decide_eq_true_eq, -decide_eq_false_iff_not]
 repeat' first | apply And.intro | refine hk _ ?_ | intro hg | (refine CallK.intro (hq4) ?_; simp -dsimp (maxSteps := 2000000) [go_sem, -decide_eq_true_eq, -decide_eq_false_iff_not]) | omega | exact True.intro
 all_goals clear hk k
 refine rgA [0,4,5] ?_
 refine rt ?_
 have hfi : (guardG (gstep p f) ⟨11, a, [], (nS p a).arg, []⟩ ⟨12, a, [], 0, []⟩ ⟨13, a, [], 0, []⟩ (gI (kids p (a : Int)) 0) (gI (kids p (a : Int)) 1) ns.length) = ⟨[(⟨11, a, [], x.arg, []⟩ : TGNode)] ++ R0.ns ++ [(⟨12, a, [], 0, []⟩ : TGNode)] ++ R1.ns ++ [(⟨13, a, [], 0, []⟩ : TGNode)], R0.fs ++ R1.fs ++ [⟨(ns.length : Nat), R0.en, []⟩, ⟨(ns.length : Nat), R1.en, []⟩, ⟨R0.lv, (N1.length : Nat), []⟩, ⟨(N1.length : Nat), (N3.length : Nat), []⟩, ⟨R1.lv, (N3.length : Nat), []⟩], (ns.length : Nat), (N3.length : Nat)⟩ := by simp only [guardG, hg0, hg1, hxn, ← hR0, ← hR1, l1, l3]
 rw [hfi]
 simp only [hN4, hN3, hN2, hN1, hN0, hF7, hF6, hF5, hF4, hF3, hF2, hF1]
 simp [go_sem, Try.results51]
end Go.AM
namespace Go.AM
open Go.Proofs
set_option maxHeartbeats 8000000 in
theorem dc_impl_graphMaker_step (p : List TStep) (hP : ProcOk p) (f : Nat) (hS : ∀ (k : Int) (ns : List TGNode) (fs : List TFlow), 0 ≤ k → k.toNat < p.length → p.length ≤ k.toNat + f → ns.length + 3 * cK p f k ≤ 400 → fs.length + 5 * cK p f k ≤ 400 → DC Try.prog 31 [.op (mrow p ns fs), .int .i64 k] (.tup [.int .i64 (gstep p f k.toNat ns.length).en, .int .i64 (gstep p f k.toNat ns.length).lv]) [(0, .op (mrow p (ns ++ (gstep p f k.toNat ns.length).ns) (fs ++ (gstep p f k.toNat ns.length).fs)))]) (ns : List TGNode) (fs : List TFlow) (a : Nat) (ha : a < p.length) (hf : p.length ≤ a + f + 1) (hb1 : ns.length + 3 * cK p (f + 1) (a : Int) ≤ 400) (hb2 : fs.length + 5 * cK p (f + 1) (a : Int) ≤ 400) : DC Try.prog 31 [.op (mrow p ns fs), .int .i64 (a : Nat)] (.tup [.int .i64 (gstep p (f + 1) a ns.length).en, .int .i64 (gstep p (f + 1) a ns.length).lv]) [(0, .op (mrow p (ns ++ (gstep p (f + 1) a ns.length).ns) (fs ++ (gstep p (f + 1) a ns.length).fs)))] := by
 have hkl := kids_len p (a : Int)
 have hp := hP.len.2
 obtain ⟨x, hx⟩ := at_some ha
 have hx3 := gel hx
 have hxn := nS_at hx
 have hck := cK_succ p f a
 have hmn := hP.many ha
 rw [hxn] at hmn
 have hxs := hP.sml x (List.mem_of_getElem? hx)
 refine DC.intro tiOk Try.func31 rfl rfl rfl rfl rfl rfl rfl (by simp [noW, noWo]) [] ?_
 refine rgA [0,1] ?_
 refine rg [0,1,6] ?_
 intro k hk; simp -dsimp (maxSteps := 2000000) [go_sem, -decide_eq_true_eq, -decide_eq_false_iff_not, hx, hx3]
 repeat' first | apply And.intro | refine hk _ ?_ | intro hg | omega | exact True.intro
 all_goals clear hk k
 refine AW.seq ?_
 refine rgA [0,1,6,19] ?_
 refine AW.block ?_
 refine rgA [0,1,6,19,20] ?_
 refine AW.cond rfl ?_ ?_
 ·intro hc; try simp at hc
  all_goals try (exfalso; first | omega | contradiction; done)
  all_goals (
 have hk2 : x.kind = 2 := by first | assumption | simpa using hc
 have hg : (gstep p (f + 1) a ns.length) = leafG (⟨3, a, x.name, 0, []⟩ : TGNode) ns.length := by unfold gstep; rw [hxn, if_pos hk2]
 refine AW.reg tiOk (fun i => if i = 5 then [0] else []) [0,7] ?_
 intro k hk; simp -dsimp (maxSteps := 2000000) [go_sem, -decide_eq_true_eq, -decide_eq_false_iff_not]
 repeat' first | apply And.intro | refine hk _ ?_ | intro hg | (refine CallK.intro ((dc_impl_graphMaker_node_z p ns fs 3 (a : Int) 0 0 0 x.name (by omega))) ?_; simp -dsimp (maxSteps := 2000000) [go_sem, -decide_eq_true_eq, -decide_eq_false_iff_not]) | omega | exact True.intro
 all_goals clear hk k
 refine rgA [0,4,5] ?_
 refine rt ?_
 first | (rw [hg]; simp [go_sem, Try.results31, leafG]; done) | (rw [hg]; simp [go_sem, Try.results31, leafG, hoc]; done) | (have hg : (gstep p (f + 1) a ns.length) = leafG (⟨5, a, [], x.arg, []⟩ : TGNode) ns.length := (by unfold gstep; rw [hxn, if_neg (by omega), if_neg (by omega), if_pos (by assumption)]); rw [hg]; simp [go_sem, Try.results31, leafG]; done) | (have hg : (gstep p (f + 1) a ns.length) = leafG (⟨4, a, [], x.arg, []⟩ : TGNode) ns.length := (by unfold gstep; rw [hxn, if_neg (by omega), if_pos (by first | assumption | omega)]); rw [hg]; simp [go_sem, Try.results31, leafG]; done))
 ·intro hc; try simp at hc
  all_goals try (exfalso; first | omega | contradiction; done)
  all_goals (
 refine AW.seq ?_
 refine rgA [0,1,6,19,30] ?_
 refine AW.cond rfl ?_ ?_
 ·intro hc; try simp at hc
  all_goals try (exfalso; first | omega | contradiction; done)
  all_goals (
 refine AW.skipN (fun _ h => h) ?_
 refine AW.cond rfl ?_ ?_
 ·intro hc; try simp at hc
  all_goals try (exfalso; first | omega | contradiction; done)
  all_goals (
 refine rgA [0,1,6,8] ?_
 refine AW.seq ?_
 refine rgA [0,1,6,8,35] ?_
 refine AW.cond rfl ?_ ?_
 ·intro hc; try simp at hc
  all_goals try (exfalso; first | omega | contradiction; done)
  all_goals (
 refine rgNA [0,1,6,8] (fun _ h => h) ?_
 first | (have hk6 : x.kind = 6 := by first | assumption | (simpa using hc)) | (have hk5 : x.kind = 5 := by first | assumption | omega | grind)
 refine AW.reg tiOk (fun i => if i = 6 then [0] else []) [0,9] ?_
 intro k hk; simp -dsimp (maxSteps := 2000000) [go_sem, -decide_eq_true_eq, -decide_eq_false_iff_not]
 repeat' first | apply And.intro | refine hk _ ?_ | intro hg | ((first | refine CallK.intro ((dc_impl_graphMaker_node_z p ns fs 4 (a : Int) 0 0 x.arg [] (by omega))) ?_ | refine CallK.intro ((dc_impl_graphMaker_node_z p ns fs 5 (a : Int) 0 0 x.arg [] (by omega))) ?_); simp -dsimp (maxSteps := 2000000) [go_sem, -decide_eq_true_eq, -decide_eq_false_iff_not]) | omega | exact True.intro
 all_goals clear hk k
 refine rgA [0,4,5] ?_
 refine rt ?_
 first | (rw [hg]; simp [go_sem, Try.results31, leafG]; done) | (rw [hg]; simp [go_sem, Try.results31, leafG, hoc]; done) | (have hg : (gstep p (f + 1) a ns.length) = leafG (⟨5, a, [], x.arg, []⟩ : TGNode) ns.length := (by unfold gstep; rw [hxn, if_neg (by omega), if_neg (by omega), if_pos (by assumption)]); rw [hg]; simp [go_sem, Try.results31, leafG]; done) | (have hg : (gstep p (f + 1) a ns.length) = leafG (⟨4, a, [], x.arg, []⟩ : TGNode) ns.length := (by unfold gstep; rw [hxn, if_neg (by omega), if_pos (by first | assumption | omega)]); rw [hg]; simp [go_sem, Try.results31, leafG]; done))
 ·intro hc; try simp at hc
  all_goals try (exfalso; first | omega | contradiction; done)
  all_goals (
 refine AW.skipN (fun _ h => h) ?_
 first | (have hk6 : x.kind = 6 := by first | assumption | (simpa using hc)) | (have hk5 : x.kind = 5 := by first | assumption | omega | grind)
 refine AW.reg tiOk (fun i => if i = 6 then [0] else []) [0,9] ?_
 intro k hk; simp -dsimp (maxSteps := 2000000) [go_sem, -decide_eq_true_eq, -decide_eq_false_iff_not]
 repeat' first | apply And.intro | refine hk _ ?_ | intro hg | ((first | refine CallK.intro ((dc_impl_graphMaker_node_z p ns fs 4 (a : Int) 0 0 x.arg [] (by omega))) ?_ | refine CallK.intro ((dc_impl_graphMaker_node_z p ns fs 5 (a : Int) 0 0 x.arg [] (by omega))) ?_); simp -dsimp (maxSteps := 2000000) [go_sem, -decide_eq_true_eq, -decide_eq_false_iff_not]) | omega | exact True.intro
 all_goals clear hk k
 refine rgA [0,4,5] ?_
 refine rt ?_
 first | (rw [hg]; simp [go_sem, Try.results31, leafG]; done) | (rw [hg]; simp [go_sem, Try.results31, leafG, hoc]; done) | (have hg : (gstep p (f + 1) a ns.length) = leafG (⟨5, a, [], x.arg, []⟩ : TGNode) ns.length := (by unfold gstep; rw [hxn, if_neg (by omega), if_neg (by omega), if_pos (by assumption)]); rw [hg]; simp [go_sem, Try.results31, leafG]; done) | (have hg : (gstep p (f + 1) a ns.length) = leafG (⟨4, a, [], x.arg, []⟩ : TGNode) ns.length := (by unfold gstep; rw [hxn, if_neg (by omega), if_pos (by first | assumption | omega)]); rw [hg]; simp [go_sem, Try.results31, leafG]; done)))
 ·intro hc; try simp at hc
  all_goals try (exfalso; first | omega | contradiction; done)
  all_goals (
 refine rgA [0,1,6,19,45] ?_
 refine AW.cond rfl ?_ ?_
 ·intro hc; try simp at hc
  all_goals try (exfalso; first | omega | contradiction; done)
  all_goals (
 have hk7 : x.kind = 7 := by first | assumption | simpa using hc
 have heg := hP.expr ha (by rw [hxn]; exact hk7)
 rw [hxn] at heg
 have hen : x.expr ≠ [] := List.ne_nil_of_length_pos (by have := heg.len; omega)
 have hoc : owc 4 (x.expr.map TNode.ro) = .osl 4 (x.expr.map TNode.ro) := owc_ne (by simpa using hen)
 have hg : (gstep p (f + 1) a ns.length) = leafG (⟨6, a, [], x.arg, x.expr⟩ : TGNode) ns.length := by unfold gstep; rw [hxn, if_neg (by omega), if_neg (by omega), if_neg (by omega), if_pos hk7]
 refine AW.reg tiOk (fun i => if i = 8 then [0, 3] else []) [0,10] ?_
 intro k hk; simp -dsimp (maxSteps := 2000000) [go_sem, -decide_eq_true_eq, -decide_eq_false_iff_not, hoc]
 repeat' first | ((refine Chk.keys ?_); simp only [go_sem, List.map_cons, List.map_nil, List.flatMap_cons, List.flatMap_nil, List.flatMap_append, List.append_nil, List.nil_append, List.cons_append]; decide +kernel) | apply And.intro | refine hk _ ?_ | intro hg | ((first | refine CallK.intro (dc_CloneN x.expr (by have := hxs.2.2; omega)) ?_ | refine CallK.intro ((dc_impl_graphMaker_node_o p ns fs 6 (a : Int) 0 0 x.arg [] x.expr hen (by omega))) ?_); simp -dsimp (maxSteps := 2000000) [go_sem, -decide_eq_true_eq, -decide_eq_false_iff_not, hoc]) | omega | exact True.intro
 all_goals clear hk k
 refine rgA [0,4,5] ?_
 refine rt ?_
 first | (rw [hg]; simp [go_sem, Try.results31, leafG]; done) | (rw [hg]; simp [go_sem, Try.results31, leafG, hoc]; done) | (have hg : (gstep p (f + 1) a ns.length) = leafG (⟨5, a, [], x.arg, []⟩ : TGNode) ns.length := (by unfold gstep; rw [hxn, if_neg (by omega), if_neg (by omega), if_pos (by assumption)]); rw [hg]; simp [go_sem, Try.results31, leafG]; done) | (have hg : (gstep p (f + 1) a ns.length) = leafG (⟨4, a, [], x.arg, []⟩ : TGNode) ns.length := (by unfold gstep; rw [hxn, if_neg (by omega), if_pos (by first | assumption | omega)]); rw [hg]; simp [go_sem, Try.results31, leafG]; done))
 ·intro hc; try simp at hc
  all_goals try (exfalso; first | omega | contradiction; done)
  all_goals (
 refine rgA [0,1,19,58] ?_
 refine AW.cond rfl ?_ ?_
 ·intro hc; try simp at hc
  all_goals try (exfalso; first | omega | contradiction; done)
  all_goals (
 have hk1x : x.kind = 1 := by first | assumption | simpa using hc
 have hk1 : 1 ≤ (kids p (a : Int)).length := by rw [hk1x] at hmn; exact kid_one hmn
 have hg : (gstep p (f + 1) a ns.length) = seqN (gstep p f) ns.length (kids p (a : Int)) ((kids p (a : Int)).length - 1) := by unfold gstep; rw [hxn, if_neg (by omega), if_neg (by omega), if_neg (by omega), if_neg (by omega), if_pos hk1x]
 refine AW.reg tiOk (fun i => if i = 7 then [0, 1] else []) [0,4,5] ?_
 intro k hk; simp -dsimp (maxSteps := 2000000) [go_sem, -decide_eq_true_eq, -decide_eq_false_iff_not]
 repeat' first | apply And.intro | refine hk _ ?_ | intro hg | ((first | refine CallK.intro (dc_impl_kids p (a : Int) hp) ?_ | refine CallK.intro ((dc_impl_graphMaker_sequence p hP f hS ns fs a ha hf hk1 (by omega) (by omega))) ?_); simp -dsimp (maxSteps := 2000000) [go_sem, -decide_eq_true_eq, -decide_eq_false_iff_not]) | omega | exact True.intro
 all_goals clear hk k
 refine rt ?_
 first | (rw [hg]; simp [go_sem, Try.results31, leafG]; done) | (rw [hg]; simp [go_sem, Try.results31, leafG, hoc]; done) | (have hg : (gstep p (f + 1) a ns.length) = leafG (⟨5, a, [], x.arg, []⟩ : TGNode) ns.length := (by unfold gstep; rw [hxn, if_neg (by omega), if_neg (by omega), if_pos (by assumption)]); rw [hg]; simp [go_sem, Try.results31, leafG]; done) | (have hg : (gstep p (f + 1) a ns.length) = leafG (⟨4, a, [], x.arg, []⟩ : TGNode) ns.length := (by unfold gstep; rw [hxn, if_neg (by omega), if_pos (by first | assumption | omega)]); rw [hg]; simp [go_sem, Try.results31, leafG]; done))
 ·intro hc; try simp at hc
  all_goals try (exfalso; first | omega | contradiction; done)
  all_goals (
 refine rgA [0,1,19,70] ?_
 refine AW.cond rfl ?_ ?_
 ·intro hc; try simp at hc
  all_goals try (exfalso; first | omega | contradiction; done)
  all_goals (
 have hk8x : x.kind = 8 := by first | assumption | simpa using hc
 have hk8 : (kids p (a : Int)).length = 2 := by rw [hk8x] at hmn; exact kid_two hmn
 have hg : (gstep p (f + 1) a ns.length) = (guardG (gstep p f) ⟨11, a, [], (nS p a).arg, []⟩ ⟨12, a, [], 0, []⟩ ⟨13, a, [], 0, []⟩ (gI (kids p (a : Int)) 0) (gI (kids p (a : Int)) 1) ns.length) := by unfold gstep; rw [hxn, if_neg (by omega), if_neg (by omega), if_neg (by omega), if_neg (by omega), if_neg (by omega), if_pos hk8x]
 refine AW.reg tiOk (fun _ => [0]) [0,4,5] ?_
 intro k hk; simp -dsimp (maxSteps := 2000000) [go_sem, -decide_eq_true_eq, -decide_eq_false_iff_not]
 repeat' first | apply And.intro | refine hk _ ?_ | intro hg | (refine CallK.intro ((dc_impl_graphMaker_guard p hP f hS ns fs a ha hf hk8 (by omega) (by omega))) ?_; simp -dsimp (maxSteps := 2000000) [go_sem, -decide_eq_true_eq, -decide_eq_false_iff_not]) | omega | exact True.intro
 all_goals clear hk k
 refine rt ?_
 first | (rw [hg]; simp [go_sem, Try.results31, leafG]; done) | (rw [hg]; simp [go_sem, Try.results31, leafG, hoc]; done) | (have hg : (gstep p (f + 1) a ns.length) = leafG (⟨5, a, [], x.arg, []⟩ : TGNode) ns.length := (by unfold gstep; rw [hxn, if_neg (by omega), if_neg (by omega), if_pos (by assumption)]); rw [hg]; simp [go_sem, Try.results31, leafG]; done) | (have hg : (gstep p (f + 1) a ns.length) = leafG (⟨4, a, [], x.arg, []⟩ : TGNode) ns.length := (by unfold gstep; rw [hxn, if_neg (by omega), if_pos (by first | assumption | omega)]); rw [hg]; simp [go_sem, Try.results31, leafG]; done))
 ·intro hc; try simp at hc
  all_goals try (exfalso; first | omega | contradiction; done)
  all_goals (
 refine rgA [0,1,77] ?_
 refine AW.cond rfl ?_ ?_
 ·intro hc; try simp at hc
  all_goals try (exfalso; first | omega | contradiction; done)
  all_goals (
 have hk3 : x.kind = 3 := by first | assumption | simpa using hc
 have hg : (gstep p (f + 1) a ns.length) = sidesG (gstep p f) (cdS p) (⟨7, a, [], 0, []⟩ : TGNode) ⟨8, a, [], 0, []⟩ (kids p (a : Int)) ns.length := by unfold gstep; rw [hxn, if_neg (by omega), if_neg (by omega), if_neg (by omega), if_neg (by omega), if_neg (by omega), if_neg (by omega), if_pos hk3]
 refine AW.reg tiOk (fun _ => [0]) [0,4,5] ?_
 intro k hk; simp -dsimp (maxSteps := 2000000) [go_sem, -decide_eq_true_eq, -decide_eq_false_iff_not]
 repeat' first | apply And.intro | refine hk _ ?_ | intro hg | (refine CallK.intro ((dc_impl_graphMaker_sides p hP f hS ns fs a ha hf 7 8 (by omega) (by omega))) ?_; simp -dsimp (maxSteps := 2000000) [go_sem, -decide_eq_true_eq, -decide_eq_false_iff_not]) | omega | exact True.intro
 all_goals clear hk k
 refine rt ?_
 first | (rw [hg]; simp [go_sem, Try.results31, leafG]; done) | (rw [hg]; simp [go_sem, Try.results31, leafG, hoc]; done) | (have hg : (gstep p (f + 1) a ns.length) = leafG (⟨5, a, [], x.arg, []⟩ : TGNode) ns.length := (by unfold gstep; rw [hxn, if_neg (by omega), if_neg (by omega), if_pos (by assumption)]); rw [hg]; simp [go_sem, Try.results31, leafG]; done) | (have hg : (gstep p (f + 1) a ns.length) = leafG (⟨4, a, [], x.arg, []⟩ : TGNode) ns.length := (by unfold gstep; rw [hxn, if_neg (by omega), if_pos (by first | assumption | omega)]); rw [hg]; simp [go_sem, Try.results31, leafG]; done))
 ·intro hc; try simp at hc
  all_goals try (exfalso; first | omega | contradiction; done)
  all_goals (
 refine AW.skipN (fun _ h => h) ?_
 have hg : (gstep p (f + 1) a ns.length) = sidesG (gstep p f) (cdS p) (⟨9, a, [], 0, []⟩ : TGNode) ⟨10, a, [], 0, []⟩ (kids p (a : Int)) ns.length := by unfold gstep; rw [hxn, if_neg (by assumption), if_neg (by assumption), if_neg (by assumption), if_neg (by assumption), if_neg (by assumption), if_neg (by assumption), if_neg (by assumption)]
 refine AW.reg tiOk (fun _ => [0]) [0,4,5] ?_
 intro k hk; simp -dsimp (maxSteps := 2000000) [go_sem, -decide_eq_true_eq, -decide_eq_false_iff_not]
 repeat' first | apply And.intro | refine hk _ ?_ | intro hg | (refine CallK.intro ((dc_impl_graphMaker_sides p hP f hS ns fs a ha hf 9 10 (by omega) (by omega))) ?_; simp -dsimp (maxSteps := 2000000) [go_sem, -decide_eq_true_eq, -decide_eq_false_iff_not]) | omega | exact True.intro
 all_goals clear hk k
 refine rt ?_
 first | (rw [hg]; simp [go_sem, Try.results31, leafG]; done) | (rw [hg]; simp [go_sem, Try.results31, leafG, hoc]; done) | (have hg : (gstep p (f + 1) a ns.length) = leafG (⟨5, a, [], x.arg, []⟩ : TGNode) ns.length := (by unfold gstep; rw [hxn, if_neg (by omega), if_neg (by omega), if_pos (by assumption)]); rw [hg]; simp [go_sem, Try.results31, leafG]; done) | (have hg : (gstep p (f + 1) a ns.length) = leafG (⟨4, a, [], x.arg, []⟩ : TGNode) ns.length := (by unfold gstep; rw [hxn, if_neg (by omega), if_pos (by first | assumption | omega)]); rw [hg]; simp [go_sem, Try.results31, leafG]; done)))))))
 ·intro hc; try simp at hc
  all_goals try (exfalso; first | omega | contradiction; done)
  all_goals (
 refine rgNA [0,1,6,19,30] (fun _ h => h) ?_
 refine AW.cond rfl ?_ ?_
 ·intro hc; try simp at hc
  all_goals try (exfalso; first | omega | contradiction; done)
  all_goals (
 refine rgA [0,1,6,8] ?_
 refine AW.seq ?_
 refine rgA [0,1,6,8,35] ?_
 refine AW.cond rfl ?_ ?_
 ·intro hc; try simp at hc
  all_goals try (exfalso; first | omega | contradiction; done)
  all_goals (
 refine rgNA [0,1,6,8] (fun _ h => h) ?_
 first | (have hk6 : x.kind = 6 := by first | assumption | (simpa using hc)) | (have hk5 : x.kind = 5 := by first | assumption | omega | grind)
 refine AW.reg tiOk (fun i => if i = 6 then [0] else []) [0,9] ?_
 intro k hk; simp -dsimp (maxSteps := 2000000) [go_sem, -decide_eq_true_eq, -decide_eq_false_iff_not]
 repeat' first | apply And.intro | refine hk _ ?_ | intro hg | ((first | refine CallK.intro ((dc_impl_graphMaker_node_z p ns fs 4 (a : Int) 0 0 x.arg [] (by omega))) ?_ | refine CallK.intro ((dc_impl_graphMaker_node_z p ns fs 5 (a : Int) 0 0 x.arg [] (by omega))) ?_); simp -dsimp (maxSteps := 2000000) [go_sem, -decide_eq_true_eq, -decide_eq_false_iff_not]) | omega | exact True.intro
 all_goals clear hk k
 refine rgA [0,4,5] ?_
 refine rt ?_
 first | (rw [hg]; simp [go_sem, Try.results31, leafG]; done) | (rw [hg]; simp [go_sem, Try.results31, leafG, hoc]; done) | (have hg : (gstep p (f + 1) a ns.length) = leafG (⟨5, a, [], x.arg, []⟩ : TGNode) ns.length := (by unfold gstep; rw [hxn, if_neg (by omega), if_neg (by omega), if_pos (by assumption)]); rw [hg]; simp [go_sem, Try.results31, leafG]; done) | (have hg : (gstep p (f + 1) a ns.length) = leafG (⟨4, a, [], x.arg, []⟩ : TGNode) ns.length := (by unfold gstep; rw [hxn, if_neg (by omega), if_pos (by first | assumption | omega)]); rw [hg]; simp [go_sem, Try.results31, leafG]; done))
 ·intro hc; try simp at hc
  all_goals try (exfalso; first | omega | contradiction; done)
  all_goals (
 refine AW.skipN (fun _ h => h) ?_
 first | (have hk6 : x.kind = 6 := by first | assumption | (simpa using hc)) | (have hk5 : x.kind = 5 := by first | assumption | omega | grind)
 refine AW.reg tiOk (fun i => if i = 6 then [0] else []) [0,9] ?_
 intro k hk; simp -dsimp (maxSteps := 2000000) [go_sem, -decide_eq_true_eq, -decide_eq_false_iff_not]
 repeat' first | apply And.intro | refine hk _ ?_ | intro hg | ((first | refine CallK.intro ((dc_impl_graphMaker_node_z p ns fs 4 (a : Int) 0 0 x.arg [] (by omega))) ?_ | refine CallK.intro ((dc_impl_graphMaker_node_z p ns fs 5 (a : Int) 0 0 x.arg [] (by omega))) ?_); simp -dsimp (maxSteps := 2000000) [go_sem, -decide_eq_true_eq, -decide_eq_false_iff_not]) | omega | exact True.intro
 all_goals clear hk k
 refine rgA [0,4,5] ?_
 refine rt ?_
 first | (rw [hg]; simp [go_sem, Try.results31, leafG]; done) | (rw [hg]; simp [go_sem, Try.results31, leafG, hoc]; done) | (have hg : (gstep p (f + 1) a ns.length) = leafG (⟨5, a, [], x.arg, []⟩ : TGNode) ns.length := (by unfold gstep; rw [hxn, if_neg (by omega), if_neg (by omega), if_pos (by assumption)]); rw [hg]; simp [go_sem, Try.results31, leafG]; done) | (have hg : (gstep p (f + 1) a ns.length) = leafG (⟨4, a, [], x.arg, []⟩ : TGNode) ns.length := (by unfold gstep; rw [hxn, if_neg (by omega), if_pos (by first | assumption | omega)]); rw [hg]; simp [go_sem, Try.results31, leafG]; done)))
 ·intro hc; try simp at hc
  all_goals try (exfalso; first | omega | contradiction; done)
  all_goals (
 refine rgA [0,1,6,19,45] ?_
 refine AW.cond rfl ?_ ?_
 ·intro hc; try simp at hc
  all_goals try (exfalso; first | omega | contradiction; done)
  all_goals (
 have hk7 : x.kind = 7 := by first | assumption | simpa using hc
 have heg := hP.expr ha (by rw [hxn]; exact hk7)
 rw [hxn] at heg
 have hen : x.expr ≠ [] := List.ne_nil_of_length_pos (by have := heg.len; omega)
 have hoc : owc 4 (x.expr.map TNode.ro) = .osl 4 (x.expr.map TNode.ro) := owc_ne (by simpa using hen)
 have hg : (gstep p (f + 1) a ns.length) = leafG (⟨6, a, [], x.arg, x.expr⟩ : TGNode) ns.length := by unfold gstep; rw [hxn, if_neg (by omega), if_neg (by omega), if_neg (by omega), if_pos hk7]
 refine AW.reg tiOk (fun i => if i = 8 then [0, 3] else []) [0,10] ?_
 intro k hk; simp -dsimp (maxSteps := 2000000) [go_sem, -decide_eq_true_eq, -decide_eq_false_iff_not, hoc]
 repeat' first | ((refine Chk.keys ?_); simp only [go_sem, List.map_cons, List.map_nil, List.flatMap_cons, List.flatMap_nil, List.flatMap_append, List.append_nil, List.nil_append, List.cons_append]; decide +kernel) | apply And.intro | refine hk _ ?_ | intro hg | ((first | refine CallK.intro (dc_CloneN x.expr (by have := hxs.2.2; omega)) ?_ | refine CallK.intro ((dc_impl_graphMaker_node_o p ns fs 6 (a : Int) 0 0 x.arg [] x.expr hen (by omega))) ?_); simp -dsimp (maxSteps := 2000000) [go_sem, -decide_eq_true_eq, -decide_eq_false_iff_not, hoc]) | omega | exact True.intro
 all_goals clear hk k
 refine rgA [0,4,5] ?_
 refine rt ?_
 first | (rw [hg]; simp [go_sem, Try.results31, leafG]; done) | (rw [hg]; simp [go_sem, Try.results31, leafG, hoc]; done) | (have hg : (gstep p (f + 1) a ns.length) = leafG (⟨5, a, [], x.arg, []⟩ : TGNode) ns.length := (by unfold gstep; rw [hxn, if_neg (by omega), if_neg (by omega), if_pos (by assumption)]); rw [hg]; simp [go_sem, Try.results31, leafG]; done) | (have hg : (gstep p (f + 1) a ns.length) = leafG (⟨4, a, [], x.arg, []⟩ : TGNode) ns.length := (by unfold gstep; rw [hxn, if_neg (by omega), if_pos (by first | assumption | omega)]); rw [hg]; simp [go_sem, Try.results31, leafG]; done))
 ·intro hc; try simp at hc
  all_goals try (exfalso; first | omega | contradiction; done)
  all_goals (
 refine rgA [0,1,19,58] ?_
 refine AW.cond rfl ?_ ?_
 ·intro hc; try simp at hc
  all_goals try (exfalso; first | omega | contradiction; done)
  all_goals (
 have hk1x : x.kind = 1 := by first | assumption | simpa using hc
 have hk1 : 1 ≤ (kids p (a : Int)).length := by rw [hk1x] at hmn; exact kid_one hmn
 have hg : (gstep p (f + 1) a ns.length) = seqN (gstep p f) ns.length (kids p (a : Int)) ((kids p (a : Int)).length - 1) := by unfold gstep; rw [hxn, if_neg (by omega), if_neg (by omega), if_neg (by omega), if_neg (by omega), if_pos hk1x]
 refine AW.reg tiOk (fun i => if i = 7 then [0, 1] else []) [0,4,5] ?_
 intro k hk; simp -dsimp (maxSteps := 2000000) [go_sem, -decide_eq_true_eq, -decide_eq_false_iff_not]
 repeat' first | apply And.intro | refine hk _ ?_ | intro hg | ((first | refine CallK.intro (dc_impl_kids p (a : Int) hp) ?_ | refine CallK.intro ((dc_impl_graphMaker_sequence p hP f hS ns fs a ha hf hk1 (by omega) (by omega))) ?_); simp -dsimp (maxSteps := 2000000) [go_sem, -decide_eq_true_eq, -decide_eq_false_iff_not]) | omega | exact True.intro
 all_goals clear hk k
 refine rt ?_
 first | (rw [hg]; simp [go_sem, Try.results31, leafG]; done) | (rw [hg]; simp [go_sem, Try.results31, leafG, hoc]; done) | (have hg : (gstep p (f + 1) a ns.length) = leafG (⟨5, a, [], x.arg, []⟩ : TGNode) ns.length := (by unfold gstep; rw [hxn, if_neg (by omega), if_neg (by omega), if_pos (by assumption)]); rw [hg]; simp [go_sem, Try.results31, leafG]; done) | (have hg : (gstep p (f + 1) a ns.length) = leafG (⟨4, a, [], x.arg, []⟩ : TGNode) ns.length := (by unfold gstep; rw [hxn, if_neg (by omega), if_pos (by first | assumption | omega)]); rw [hg]; simp [go_sem, Try.results31, leafG]; done))
 ·intro hc; try simp at hc
  all_goals try (exfalso; first | omega | contradiction; done)
  all_goals (
 refine rgA [0,1,19,70] ?_
 refine AW.cond rfl ?_ ?_
 ·intro hc; try simp at hc
  all_goals try (exfalso; first | omega | contradiction; done)
  all_goals (
 have hk8x : x.kind = 8 := by first | assumption | simpa using hc
 have hk8 : (kids p (a : Int)).length = 2 := by rw [hk8x] at hmn; exact kid_two hmn
 have hg : (gstep p (f + 1) a ns.length) = (guardG (gstep p f) ⟨11, a, [], (nS p a).arg, []⟩ ⟨12, a, [], 0, []⟩ ⟨13, a, [], 0, []⟩ (gI (kids p (a : Int)) 0) (gI (kids p (a : Int)) 1) ns.length) := by unfold gstep; rw [hxn, if_neg (by omega), if_neg (by omega), if_neg (by omega), if_neg (by omega), if_neg (by omega), if_pos hk8x]
 refine AW.reg tiOk (fun _ => [0]) [0,4,5] ?_
 intro k hk; simp -dsimp (maxSteps := 2000000) [go_sem, -decide_eq_true_eq, -decide_eq_false_iff_not]
 repeat' first | apply And.intro | refine hk _ ?_ | intro hg | (refine CallK.intro ((dc_impl_graphMaker_guard p hP f hS ns fs a ha hf hk8 (by omega) (by omega))) ?_; simp -dsimp (maxSteps := 2000000) [go_sem, -decide_eq_true_eq, -decide_eq_false_iff_not]) | omega | exact True.intro
 all_goals clear hk k
 refine rt ?_
 first | (rw [hg]; simp [go_sem, Try.results31, leafG]; done) | (rw [hg]; simp [go_sem, Try.results31, leafG, hoc]; done) | (have hg : (gstep p (f + 1) a ns.length) = leafG (⟨5, a, [], x.arg, []⟩ : TGNode) ns.length := (by unfold gstep; rw [hxn, if_neg (by omega), if_neg (by omega), if_pos (by assumption)]); rw [hg]; simp [go_sem, Try.results31, leafG]; done) | (have hg : (gstep p (f + 1) a ns.length) = leafG (⟨4, a, [], x.arg, []⟩ : TGNode) ns.length := (by unfold gstep; rw [hxn, if_neg (by omega), if_pos (by first | assumption | omega)]); rw [hg]; simp [go_sem, Try.results31, leafG]; done))
 ·intro hc; try simp at hc
  all_goals try (exfalso; first | omega | contradiction; done)
  all_goals (
 refine rgA [0,1,77] ?_
 refine AW.cond rfl ?_ ?_
 ·intro hc; try simp at hc
  all_goals try (exfalso; first | omega | contradiction; done)
  all_goals (
 have hk3 : x.kind = 3 := by first | assumption | simpa using hc
 have hg : (gstep p (f + 1) a ns.length) = sidesG (gstep p f) (cdS p) (⟨7, a, [], 0, []⟩ : TGNode) ⟨8, a, [], 0, []⟩ (kids p (a : Int)) ns.length := by unfold gstep; rw [hxn, if_neg (by omega), if_neg (by omega), if_neg (by omega), if_neg (by omega), if_neg (by omega), if_neg (by omega), if_pos hk3]
 refine AW.reg tiOk (fun _ => [0]) [0,4,5] ?_
 intro k hk; simp -dsimp (maxSteps := 2000000) [go_sem, -decide_eq_true_eq, -decide_eq_false_iff_not]
 repeat' first | apply And.intro | refine hk _ ?_ | intro hg | (refine CallK.intro ((dc_impl_graphMaker_sides p hP f hS ns fs a ha hf 7 8 (by omega) (by omega))) ?_; simp -dsimp (maxSteps := 2000000) [go_sem, -decide_eq_true_eq, -decide_eq_false_iff_not]) | omega | exact True.intro
 all_goals clear hk k
 refine rt ?_
 first | (rw [hg]; simp [go_sem, Try.results31, leafG]; done) | (rw [hg]; simp [go_sem, Try.results31, leafG, hoc]; done) | (have hg : (gstep p (f + 1) a ns.length) = leafG (⟨5, a, [], x.arg, []⟩ : TGNode) ns.length := (by unfold gstep; rw [hxn, if_neg (by omega), if_neg (by omega), if_pos (by assumption)]); rw [hg]; simp [go_sem, Try.results31, leafG]; done) | (have hg : (gstep p (f + 1) a ns.length) = leafG (⟨4, a, [], x.arg, []⟩ : TGNode) ns.length := (by unfold gstep; rw [hxn, if_neg (by omega), if_pos (by first | assumption | omega)]); rw [hg]; simp [go_sem, Try.results31, leafG]; done))
 ·intro hc; try simp at hc
  all_goals try (exfalso; first | omega | contradiction; done)
  all_goals (
 refine AW.skipN (fun _ h => h) ?_
 have hg : (gstep p (f + 1) a ns.length) = sidesG (gstep p f) (cdS p) (⟨9, a, [], 0, []⟩ : TGNode) ⟨10, a, [], 0, []⟩ (kids p (a : Int)) ns.length := by unfold gstep; rw [hxn, if_neg (by assumption), if_neg (by assumption), if_neg (by assumption), if_neg (by assumption), if_neg (by assumption), if_neg (by assumption), if_neg (by assumption)]
 refine AW.reg tiOk (fun _ => [0]) [0,4,5] ?_
 intro k hk; simp -dsimp (maxSteps := 2000000) [go_sem, -decide_eq_true_eq, -decide_eq_false_iff_not]
 repeat' first | apply And.intro | refine hk _ ?_ | intro hg | (refine CallK.intro ((dc_impl_graphMaker_sides p hP f hS ns fs a ha hf 9 10 (by omega) (by omega))) ?_; simp -dsimp (maxSteps := 2000000) [go_sem, -decide_eq_true_eq, -decide_eq_false_iff_not]) | omega | exact True.intro
 all_goals clear hk k
 refine rt ?_
 first | (rw [hg]; simp [go_sem, Try.results31, leafG]; done) | (rw [hg]; simp [go_sem, Try.results31, leafG, hoc]; done) | (have hg : (gstep p (f + 1) a ns.length) = leafG (⟨5, a, [], x.arg, []⟩ : TGNode) ns.length := (by unfold gstep; rw [hxn, if_neg (by omega), if_neg (by omega), if_pos (by assumption)]); rw [hg]; simp [go_sem, Try.results31, leafG]; done) | (have hg : (gstep p (f + 1) a ns.length) = leafG (⟨4, a, [], x.arg, []⟩ : TGNode) ns.length := (by unfold gstep; rw [hxn, if_neg (by omega), if_pos (by first | assumption | omega)]); rw [hg]; simp [go_sem, Try.results31, leafG]; done))))))))
theorem dc_gstep_impl (p : List TStep) (hP : ProcOk p) : ∀ f : Nat, ∀ (k : Int) (ns : List TGNode) (fs : List TFlow), 0 ≤ k → k.toNat < p.length → p.length ≤ k.toNat + f → ns.length + 3 * cK p f k ≤ 400 → fs.length + 5 * cK p f k ≤ 400 → DC Try.prog 31 [.op (mrow p ns fs), .int .i64 k] (.tup [.int .i64 (gstep p f k.toNat ns.length).en, .int .i64 (gstep p f k.toNat ns.length).lv]) [(0, .op (mrow p (ns ++ (gstep p f k.toNat ns.length).ns) (fs ++ (gstep p f k.toNat ns.length).fs)))] := by
 intro f
 induction f with
 | zero => intro k ns fs h0 h1 h2; omega
 | succ f ih =>
  intro k ns fs h0 h1 h2 h3 h4
  obtain ⟨a, rfl⟩ : ∃ a : Nat, k = a := ⟨_, (Int.toNat_of_nonneg h0).symm⟩
  rw [Int.toNat_natCast] at h1 h2 ⊢
  exact dc_impl_graphMaker_step p hP f ih ns fs a h1 (by omega) h3 h4
end Go.AM
namespace Go.AM
open Go.Proofs
theorem dc_cmp_isNaN_int64 (n : Int) : DC Try.prog 54 [.int .i64 n] (.bool false) [] := by
 refine DC.intro tiOk Try.func54 rfl rfl rfl rfl rfl rfl rfl rfl [] ?_
 refine rgA [0] ?_
 refine rgA [2] ?_
 refine rt ?_
 simp [go_sem, Try.results54]
theorem dc_cmp_Compare_int64 (a b : Int) : DC Try.prog 35 [.int .i64 a, .int .i64 b] (.int .i64 (cmpI a b)) [] := by
 refine DC.intro tiOk Try.func35 rfl rfl rfl rfl rfl rfl rfl rfl [] ?_
 refine rgA [0,1] ?_
 refine rg [0,1,5] ?_
 intro k hk; simp -dsimp (maxSteps := 2000000) [go_sem, -decide_eq_true_eq, -decide_eq_false_iff_not]
 repeat' first | apply And.intro | refine hk _ ?_ | intro hg | (refine CallK.intro (dc_cmp_isNaN_int64 _) ?_; simp -dsimp (maxSteps := 2000000) [go_sem, -decide_eq_true_eq, -decide_eq_false_iff_not]) | omega | exact True.intro
 all_goals clear hk k
 refine rg [0,1,5,6] ?_
 intro k hk; simp -dsimp (maxSteps := 2000000) [go_sem, -decide_eq_true_eq, -decide_eq_false_iff_not]
 repeat' first | apply And.intro | refine hk _ ?_ | intro hg | (refine CallK.intro (dc_cmp_isNaN_int64 _) ?_; simp -dsimp (maxSteps := 2000000) [go_sem, -decide_eq_true_eq, -decide_eq_false_iff_not]) | omega | exact True.intro
 all_goals clear hk k
 refine AW.seq ?_
 refine rgA [0,1,6,11] ?_
 refine AW.cond rfl ?_ ?_
 ·intro hc; try simp at hc
  all_goals try (exfalso; first | omega | (simp at hc; done); done)
  all_goals (
 refine AW.seq ?_
 refine rgA [12] ?_
 refine AW.cond rfl ?_ ?_
 ·intro hc; try simp at hc
  all_goals try (exfalso; first | omega | (simp at hc; done); done)
  all_goals (
 refine rgA [4] ?_
 refine rt ?_
 simp [go_sem, Try.results35, cmpI] <;> grind)
 ·intro hc; try simp at hc
  all_goals try (exfalso; first | omega | (simp at hc; done); done)
  all_goals (
 refine AW.skipN (fun _ h => h) ?_
 refine rgA [4] ?_
 refine rt ?_
 simp [go_sem, Try.results35, cmpI] <;> grind))
 ·intro hc; try simp at hc
  all_goals try (exfalso; first | omega | (simp at hc; done); done)
  all_goals (
 refine AW.skipN (fun _ h => h) ?_
 refine AW.seq ?_
 refine rgA [0,1,13] ?_
 refine AW.cond rfl ?_ ?_
 ·intro hc; try simp at hc
  all_goals try (exfalso; first | omega | (simp at hc; done); done)
  all_goals (
 refine rgA [4] ?_
 refine rt ?_
 simp [go_sem, Try.results35, cmpI] <;> grind)
 ·intro hc; try simp at hc
  all_goals try (exfalso; first | omega | (simp at hc; done); done)
  all_goals (
 refine AW.skipN (fun _ h => h) ?_
 refine AW.seq ?_
 refine rgA [0,1,16] ?_
 refine AW.cond rfl ?_ ?_
 ·intro hc; try simp at hc
  all_goals try (exfalso; first | omega | (simp at hc; done); done)
  all_goals (
 refine rgA [4] ?_
 refine rt ?_
 simp [go_sem, Try.results35, cmpI] <;> grind)
 ·intro hc; try simp at hc
  all_goals try (exfalso; first | omega | (simp at hc; done); done)
  all_goals (
 refine AW.skipN (fun _ h => h) ?_
 refine AW.seq ?_
 refine rgA [19] ?_
 refine AW.cond rfl ?_ ?_
 ·intro hc; try simp at hc
  all_goals try (exfalso; first | omega | (simp at hc; done); done)
  all_goals (
 refine rgA [4] ?_
 refine rt ?_
 simp [go_sem, Try.results35, cmpI] <;> grind)
 ·intro hc; try simp at hc
  all_goals try (exfalso; first | omega | (simp at hc; done); done)
  all_goals (
 refine AW.skipN (fun _ h => h) ?_
 refine rgA [4] ?_
 refine rt ?_
 simp [go_sem, Try.results35, cmpI] <;> grind))))
theorem dc_impl_graphOf_1 (x y : VF) : DC Try.prog 34 [.agg x.row, .agg y.row] (.int .i64 (cmpI x.src y.src)) [] := by
 refine DC.intro tiOk Try.func34 rfl rfl rfl rfl rfl rfl rfl rfl [] ?_
 refine rgA [2,3] ?_
 refine rg [4] ?_
 intro k hk; simp -dsimp (maxSteps := 2000000) [go_sem, -decide_eq_true_eq, -decide_eq_false_iff_not]
 repeat' first | apply And.intro | refine hk _ ?_ | intro hg | (refine CallK.intro (dc_cmp_Compare_int64 _ _) ?_; simp -dsimp (maxSteps := 2000000) [go_sem, -decide_eq_true_eq, -decide_eq_false_iff_not]) | omega | exact True.intro
 all_goals clear hk k
 refine rt ?_
 simp [go_sem, Try.results34]
theorem dc_swapRange (L M P X Y Z Q : List VF) (a b n : Nat) (hL : L = P ++ X ++ Y ++ Z ++ Q) (hM : M = P ++ Z ++ Y ++ X ++ Q) (hz : Z.length = X.length) (ha : a = P.length) (hb : b = P.length + X.length + Y.length) (hx0 : n = X.length) (hn : L.length ≤ 1048576) : DC Try.prog 88 [.osl 3 (L.map VF.row), .int .i64 (a : Nat), .int .i64 (b : Nat), .int .i64 (n : Nat), .fn 34 []] (.tup []) [(0, .osl 3 (M.map VF.row))] := by
 have hll : L.length = P.length + X.length + Y.length + X.length + Q.length := by rw [hL]; simp; omega
 refine DC.intro tiOk Try.func88 rfl rfl rfl rfl rfl rfl rfl (by simp [noW, noWo]) [] ?_
 refine rgA [0,1,2,3,10] ?_
 refine AW.block ?_
 refine AW.loopI (fun i : Nat => ⟨38, [(0, .sl 1900 3 0 L.length), (1, .int .i64 (a : Nat)), (2, .int .i64 (b : Nat)), (3, .int .i64 (n : Nat)), (10, .int .i64 (i : Nat))], [(1900, some ⟨3, (swR P X Y Z Q i).map VF.row⟩)]⟩) (fun i => i ≤ n) (fun i => n - i) (0) (Nat.zero_le _) (Less.of rfl (by simp [go_sem]) (by rw [swR_zero, ← hL]; simp [go_sem])) ?_
 rintro i hi
 refine AW.seq ?_
 refine rgA [0,1,2,3,10,13] ?_
 refine AW.cond rfl ?_ ?_
 ·intro hc; try simp at hc
  all_goals (
 have hlt : i < n := by first | assumption | omega
 obtain ⟨x, hx⟩ := at_some (l := X) (i := i) (by omega)
 obtain ⟨z, hzz⟩ := at_some (l := Z) (i := i) (by omega)
 obtain ⟨s, hs⟩ : ∃ s : Nat, s = a + i := ⟨_, rfl⟩
 obtain ⟨t, ht⟩ : ∃ t : Nat, t = b + i := ⟨_, rfl⟩
 obtain ⟨g1, g2, g3⟩ := swR_step (P := P) (Y := Y) (Q := Q) hx hzz (s := s) (t := t) (by omega) (by omega)
 have g3 := sw_rows g3
 have g4 := gel g1
 have g5 := gel g2
 have hsl := swR_len P X Y Z Q i hz (by omega)
 have hw1 : IntKind.wrap .i64 ((a : Int) + (i : Int)) = ((s : Nat) : Int) := by rw [wrap64 (by omega) (by omega)]; omega
 have hw2 : IntKind.wrap .i64 ((b : Int) + (i : Int)) = ((t : Nat) : Int) := by rw [wrap64 (by omega) (by omega)]; omega
 have hs2 : s < (swR P X Y Z Q i).length := at_lt g1
 have ht2 : t < (swR P X Y Z Q i).length := at_lt g2
 have hs3 : s < L.length := by omega
 have ht3 : t < L.length := by omega
 have hne : s ≠ t := by omega
 refine AW.skipN (fun _ h => h) ?_
 refine AW.seq ?_
 refine AW.block ?_
 refine rgN [0,1,2,3,10] (fun _ h => h) ?_
 intro k hk; simp -dsimp (maxSteps := 2000000) [go_sem, -decide_eq_true_eq, -decide_eq_false_iff_not, hw1, hw2, g1, g2, g4, g5, hs2, ht2, hs3, ht3, hne]
 repeat' first | ((refine Chk.keys ?_); simp only [go_sem, List.map_cons, List.map_nil, List.flatMap_cons, List.flatMap_nil, List.flatMap_append, List.append_nil, List.nil_append, List.cons_append]; decide +kernel) | apply And.intro | refine hk _ ?_ | intro hg | omega | exact True.intro
 all_goals clear hk k
 refine rgK ?_
 intro k hk; simp -dsimp [go_sem, -decide_eq_true_eq, -decide_eq_false_iff_not, hw1, hw2, g1, g2, g4, g5, hs2, ht2, hs3, ht3, hne]
 repeat' first | apply And.intro | refine hk _ ?_ | intro hg | omega | exact True.intro
 all_goals clear hk k
 show ∃ _, _
 have hww := wrapi hlt (by omega)
 refine ⟨i + 1, by omega, by omega, Less.of rfl (by simp [go_sem, hww]) (by simp only [g3]; simp [go_sem, g3])⟩)
 ·intro hc; try simp at hc
  all_goals (
 refine AW.exit ?_
 refine And.intro (.inl rfl) ?_
 obtain rfl : i = n := (by first | omega | (simp at hc; omega))
 subst hx0
 have hMl : M.length = L.length := by rw [hM, hL]; simp; omega
 rw [swR_end P X Y Z Q hz, ← hM]
 simp [go_sem, Try.results88, hMl])
end Go.AM
namespace Go.AM
theorem ord_take {l : List VF} (h : Ord VF.src l) {n : Nat} {z : VF} (hz : l[n]? = some z) : ∀ y ∈ l.take (n + 1), y.src ≤ z.src := by
 have e : l.take (n + 1) = l.take n ++ [z] := by rw [List.take_add_one, hz]; rfl
 have h2 : Ord VF.src (l.take n ++ [z]) := by
  rw [← e]; exact h.sublist (List.take_sublist _ _)
 rw [e]; exact ord_last h2
theorem ord_drop {l : List VF} (h : Ord VF.src l) {n : Nat} {z : VF} (hz : l[n]? = some z) : ∀ y ∈ l.drop n, z.src ≤ y.src := by
 obtain ⟨h1, e1⟩ := List.getElem?_eq_some_iff.1 hz
 have e : l.drop n = z :: l.drop (n + 1) := by rw [List.drop_eq_getElem_cons h1, e1]
 have h2 : Ord VF.src (z :: l.drop (n + 1)) := by rw [← e]; exact h.sublist (List.drop_sublist _ _)
 rw [e]
 intro y hy
 rcases List.mem_cons.1 hy with rfl | hy
 ·exact Int.le_refl _
 ·exact (List.pairwise_cons.1 h2).1 y hy
theorem at_two {P A B Q : List VF} {n : Nat} {z : VF} (h : B[n]? = some z) {s : Nat} (hs : s = P.length + A.length + n) : (P ++ A ++ B ++ Q)[s]? = some z := by
 have := at_lt h
 rw [List.append_assoc (P ++ A), List.getElem?_append_right (by simp; omega), List.getElem?_append_left (by simp; omega), ← h]
 congr 1; simp; omega
theorem at_one {P A B Q : List VF} {n : Nat} {z : VF} (h : A[n]? = some z) {s : Nat} (hs : s = P.length + n) : (P ++ A ++ B ++ Q)[s]? = some z := by
 have := at_lt h
 rw [List.append_assoc, List.append_assoc P, List.getElem?_append_right (by omega), List.getElem?_append_left (by omega), ← h]
 congr 1; omega
def mvR (P B Q : List VF) (x : VF) (n : Nat) : List VF := P ++ B.take n ++ x :: (B.drop n ++ Q)
theorem mv_len (P B Q : List VF) (x : VF) (n : Nat) : (mvR P B Q x n).length = P.length + B.length + 1 + Q.length := by
 unfold mvR; simp; omega
theorem mv_step {P B Q : List VF} {x y : VF} {n : Nat} (hy : B[n]? = some y) {s t : Nat} (hs : s = P.length + n) (ht : t = s + 1) :
  (mvR P B Q x n)[s]? = some x ∧ (mvR P B Q x n)[t]? = some y ∧ ((mvR P B Q x n).set s y).set t x = mvR P B Q x (n + 1) := by
 obtain ⟨h1, e1⟩ := List.getElem?_eq_some_iff.1 hy
 have e : mvR P B Q x n = (P ++ B.take n) ++ x :: y :: (B.drop (n + 1) ++ Q) := by unfold mvR; rw [List.drop_eq_getElem_cons h1, e1]; simp
 have e2 : mvR P B Q x (n + 1) = (P ++ B.take n) ++ y :: x :: (B.drop (n + 1) ++ Q) := by
  unfold mvR
  have : B.take (n + 1) = B.take n ++ [y] := by rw [List.take_add_one, hy]; rfl
  rw [this]; simp
 obtain ⟨g1, g2, _, g4⟩ := adj_step e (s := s) (t := t) (by rw [List.length_append, List.length_take]; omega) (by rw [List.length_append, List.length_take]; omega)
 exact ⟨g1, g2, by rw [g4, e2]⟩
theorem mv_back {P B Q : List VF} {x y : VF} {n : Nat} (hy : B[n]? = some y) {s t : Nat} (hs : s = P.length + n) (ht : t = s + 1) :
  (mvR P B Q x (n + 1))[s]? = some y ∧ (mvR P B Q x (n + 1))[t]? = some x ∧ ((mvR P B Q x (n + 1)).set t y).set s x = mvR P B Q x n := by
 obtain ⟨h1, e1⟩ := List.getElem?_eq_some_iff.1 hy
 have e : mvR P B Q x n = (P ++ B.take n) ++ x :: y :: (B.drop (n + 1) ++ Q) := by unfold mvR; rw [List.drop_eq_getElem_cons h1, e1]; simp
 have e2 : mvR P B Q x (n + 1) = (P ++ B.take n) ++ y :: x :: (B.drop (n + 1) ++ Q) := by
  unfold mvR
  have : B.take (n + 1) = B.take n ++ [y] := by rw [List.take_add_one, hy]; rfl
  rw [this]; simp
 obtain ⟨g1, g2, g3, _⟩ := adj_step e2 (s := s) (t := t) (by rw [List.length_append, List.length_take]; omega) (by rw [List.length_append, List.length_take]; omega)
 exact ⟨g1, g2, by rw [g3, e]⟩
theorem mv_srt {P B Q : List VF} {x : VF} {n : Nat} (hB : Ord VF.src B) (h1 : ∀ y ∈ B.take n, y.src < x.src) (h2 : ∀ y ∈ B.drop n, x.src ≤ y.src) : mvR P B Q x n = P ++ srt VF.src ([x] ++ B) ++ Q := by
 have := srt_head (key := VF.src) (B1 := B.take n) (B2 := B.drop n) (x := x) (by rw [List.take_append_drop]; exact hB) h1 h2
 rw [List.take_append_drop] at this
 rw [this]; unfold mvR; simp
theorem mv_srt2 {P A Q : List VF} {y : VF} {n : Nat} (hA : Ord VF.src A) (h1 : ∀ x ∈ A.take n, x.src ≤ y.src) (h2 : ∀ x ∈ A.drop n, y.src < x.src) : mvR P A Q y n = P ++ srt VF.src (A ++ [y]) ++ Q := by
 have := srt_tail (key := VF.src) (A1 := A.take n) (A2 := A.drop n) (y := y) (by rw [List.take_append_drop]; exact hA) h1 h2
 rw [List.take_append_drop] at this
 rw [this]; unfold mvR; simp
theorem sym_end {A B : List VF} (hA : Ord VF.src A) (hB : Ord VF.src B) {s h : Nat} (h1 : s ≤ A.length) (h2 : s ≤ h) (h3 : h - s ≤ B.length)
  (c1 : s = 0 ∨ h - s = B.length ∨ ∃ u v, A[s - 1]? = some u ∧ B[h - s]? = some v ∧ u.src ≤ v.src)
  (c2 : s = A.length ∨ s = h ∨ ∃ u v, A[s]? = some u ∧ B[h - 1 - s]? = some v ∧ v.src < u.src) :
  ∃ A1 A2 B1 B2, A = A1 ++ A2 ∧ B = B1 ++ B2 ∧ A1.length = s ∧ B1.length = h - s ∧ (∀ x ∈ A1, ∀ y ∈ B2, x.src ≤ y.src) ∧ (∀ x ∈ A2, ∀ y ∈ B1, y.src < x.src) := by
 refine ⟨A.take s, A.drop s, B.take (h - s), B.drop (h - s), (List.take_append_drop _ _).symm, (List.take_append_drop _ _).symm, by simp; omega, by simp; omega, ?_, ?_⟩
 ·intro x hx y hy
  rcases c1 with c | c | ⟨u, v, hu, hv, huv⟩
  ·subst c; simp at hx
  ·rw [List.drop_of_length_le (by omega)] at hy; cases hy
  ·have hs0 : 0 < s := by
    rcases Nat.eq_zero_or_pos s with e | e
    ·subst e; simp at hx
    ·exact e
   have g1 := ord_take hA hu x (by rw [Nat.sub_add_cancel hs0]; exact hx)
   have g2 := ord_drop hB hv y hy
   omega
 ·intro x hx y hy
  rcases c2 with c | c | ⟨u, v, hu, hv, huv⟩
  ·rw [List.drop_of_length_le (by omega)] at hx; cases hx
  ·subst c; simp at hy
  ·have hs0 : 0 < h - s := by
    rcases Nat.eq_zero_or_pos (h - s) with e | e
    ·rw [e] at hy; simp at hy
    ·exact e
   have e2 : h - 1 - s + 1 = h - s := by rw [Nat.sub_right_comm, Nat.sub_add_cancel hs0]
   have g1 := ord_take hB hv y (by rw [e2]; exact hy)
   have g2 := ord_drop hA hu x hx
   omega
def leQ (A B : List VF) (i j : Nat) : Prop := ∃ u v, A[i]? = some u ∧ B[j]? = some v ∧ u.src ≤ v.src
def ltQ (A B : List VF) (i j : Nat) : Prop := ∃ u v, A[i]? = some u ∧ B[j]? = some v ∧ v.src < u.src
theorem leQ_mk {A B : List VF} {i j i' j' : Nat} {u v : VF} (h1 : A[i]? = some u) (h2 : B[j]? = some v) (h3 : u.src ≤ v.src) (e1 : i' = i) (e2 : j' = j) : leQ A B i' j' := ⟨u, v, by rw [e1]; exact h1, by rw [e2]; exact h2, h3⟩
theorem ltQ_mk {A B : List VF} {i j : Nat} {u v : VF} (h1 : A[i]? = some u) (h2 : B[j]? = some v) (h3 : v.src < u.src) : ltQ A B i j := ⟨u, v, h1, h2, h3⟩
theorem sym_end2 {A B : List VF} (hA : Ord VF.src A) (hB : Ord VF.src B) {a d st lo0 hi0 n2 m b : Nat} (h0 : a ≤ st) (h1 : st ≤ m) (h2 : st ≤ d) (h3 : n2 ≤ st + b) (hm : m = a + A.length) (hb : b = m + B.length) (hn : n2 = d + m)
  (k6 : lo0 = a ∨ lo0 + b = n2) (k7 : hi0 = m ∨ hi0 = d) (q4 : st = lo0 ∨ leQ A B (st - a - 1) (d - st)) (q5 : st = hi0 ∨ ltQ A B (st - a) (d - 1 - st)) :
  ∃ A1 A2 B1 B2, A = A1 ++ A2 ∧ B = B1 ++ B2 ∧ A1.length = st - a ∧ B1.length = d - st ∧ (∀ x ∈ A1, ∀ y ∈ B2, x.src ≤ y.src) ∧ (∀ x ∈ A2, ∀ y ∈ B1, y.src < x.src) := by
 have e1 : d - a - (st - a) = d - st := by omega
 have e2 : d - a - 1 - (st - a) = d - 1 - st := by omega
 have h := sym_end hA hB (s := st - a) (h := d - a) (by omega) (by omega) (by omega) (by
  rcases q4 with q | q
  ·rcases k6 with e | e
   ·exact Or.inl (by omega)
   ·exact Or.inr (Or.inl (by omega))
  ·exact Or.inr (Or.inr (by rw [e1]; exact q))) (by
  rcases q5 with q | q
  ·rcases k7 with e | e
   ·exact Or.inl (by omega)
   ·exact Or.inr (Or.inl (by omega))
  ·exact Or.inr (Or.inr (by rw [e2]; exact q)))
 rw [e1] at h
 exact h
theorem sym_c1 {L D P Q A1 A2 B1 B2 : List VF} {s1 m en : Nat} (hL : L = P ++ (A1 ++ A2) ++ (B1 ++ B2) ++ Q) (hD : D = P ++ A1 ++ B1 ++ (A2 ++ B2 ++ Q)) (h1 : A2.length = m - s1) (h2 : B1.length = en - m) :
  (s1 < m ∧ m < en ∧ A2 ≠ [] ∧ B1 ≠ [] ∧ True) ∨ (¬ s1 < m ∧ True ∧ True ∧ True ∧ L.map VF.row = D.map VF.row) ∨ (s1 < m ∧ ¬ m < en ∧ True ∧ True ∧ L.map VF.row = D.map VF.row) := by
 by_cases h8 : s1 < m
 ·by_cases h7 : m < en
  ·exact Or.inl ⟨h8, h7, List.ne_nil_of_length_pos (by omega), List.ne_nil_of_length_pos (by omega), True.intro⟩
  ·refine Or.inr (Or.inr ⟨h8, h7, True.intro, True.intro, ?_⟩)
   obtain rfl := List.eq_nil_of_length_eq_zero (show B1.length = 0 by omega)
   rw [hL, hD]; simp
 ·refine Or.inr (Or.inl ⟨h8, True.intro, True.intro, True.intro, ?_⟩)
  obtain rfl := List.eq_nil_of_length_eq_zero (show A2.length = 0 by omega)
  rw [hL, hD]; simp
theorem sym_c2 {D E P R A1 B1 : List VF} {a s1 d : Nat} (hD : D = P ++ A1 ++ B1 ++ R) (hE : E = P ++ srt VF.src (A1 ++ B1) ++ R) (oA : Ord VF.src A1) (oB : Ord VF.src B1) (h1 : A1.length = s1 - a) (h2 : B1.length = d - s1) :
  (a < s1 ∧ s1 < d ∧ A1 ≠ [] ∧ B1 ≠ [] ∧ True) ∨ (¬ a < s1 ∧ True ∧ True ∧ True ∧ D.map VF.row = E.map VF.row) ∨ (a < s1 ∧ ¬ s1 < d ∧ True ∧ True ∧ D.map VF.row = E.map VF.row) := by
 by_cases h8 : a < s1
 ·by_cases h7 : s1 < d
  ·exact Or.inl ⟨h8, h7, List.ne_nil_of_length_pos (by omega), List.ne_nil_of_length_pos (by omega), True.intro⟩
  ·refine Or.inr (Or.inr ⟨h8, h7, True.intro, True.intro, ?_⟩)
   obtain rfl := List.eq_nil_of_length_eq_zero (show B1.length = 0 by omega)
   rw [hD, hE, List.append_nil, List.append_nil, srt_self oA]
 ·refine Or.inr (Or.inl ⟨h8, True.intro, True.intro, True.intro, ?_⟩)
  obtain rfl := List.eq_nil_of_length_eq_zero (show A1.length = 0 by omega)
  rw [hD, hE, List.nil_append, List.append_nil, srt_self oB]
end Go.AM
namespace Go.AM
open Go.Proofs
set_option maxHeartbeats 4000000 in
theorem dc_symMerge_a (L M P A B Q : List VF) (a m b : Nat) (hL : L = P ++ A ++ B ++ Q) (hM : M = P ++ srt VF.src (A ++ B) ++ Q) (hA : Ord VF.src A) (hB : Ord VF.src B) (hA0 : A ≠ []) (hB0 : B ≠ []) (ha : a = P.length) (hm : m = a + A.length) (hb : b = m + B.length) (hn : L.length ≤ 1048576) (hAx : A.length = 1) : DC Try.prog 69 [.osl 3 (L.map VF.row), .int .i64 (a : Nat), .int .i64 (m : Nat), .int .i64 (b : Nat), .fn 34 []] (.tup []) [(0, .osl 3 (M.map VF.row))] := by
 have hA1 := List.length_pos_iff.2 hA0
 have hB1 := List.length_pos_iff.2 hB0
 have hll : L.length = P.length + A.length + B.length + Q.length := by rw [hL]; simp; omega
 have hMl : M.length = L.length := by rw [hM, hL]; simp [srt_len]; omega
 have hwA : IntKind.wrap .i64 ((m : Int) - (a : Int)) = ((A.length : Nat) : Int) := by rw [wrap64 (by omega) (by omega)]; omega
 have hwB : IntKind.wrap .i64 ((b : Int) - (m : Int)) = ((B.length : Nat) : Int) := by rw [wrap64 (by omega) (by omega)]; omega
 obtain ⟨x, rfl⟩ : ∃ x, A = [x] := List.length_eq_one_iff.1 hAx
 refine DC.intro tiOk Try.func69 rfl rfl rfl rfl rfl rfl rfl (by simp [noW, noWo]) [] ?_
 refine AW.seq ?_
 refine rg [0,1,2,3,4,28] ?_
 intro k hk; simp -dsimp [go_sem, -decide_eq_true_eq, -decide_eq_false_iff_not, hwA, hAx]
 repeat' first | apply And.intro | refine hk _ ?_ | intro hg | omega | exact True.intro
 all_goals clear hk k
 refine AW.cond rfl ?_ ?_
 ·intro hc; try simp at hc
  all_goals try (exfalso; omega; done)
  all_goals (
 refine rgA [0,1,3,4,10] ?_
 refine rgA [0,1,4,10,11] ?_
 refine AW.seq ?_
 refine AW.block ?_
 refine AW.loopI (fun q : Nat × Nat => ⟨220, [(0, .sl 1900 3 0 L.length), (1, .int .i64 (a : Nat)), (4, .fn 34 []), (10, .int .i64 (q.1 : Nat)), (11, .int .i64 (q.2 : Nat))], [(1900, some ⟨3, L.map VF.row⟩)]⟩) (fun q => m ≤ q.1 ∧ q.1 ≤ q.2 ∧ q.2 ≤ b ∧ (∀ y ∈ B.take (q.1 - m), y.src < x.src) ∧ (∀ y ∈ B.drop (q.2 - m), x.src ≤ y.src)) (fun q => q.2 - q.1) ((m, b)) (⟨Nat.le_refl _, by simp only; omega, Nat.le_refl _, by simp, by simp only; rw [List.drop_of_length_le (by omega)]; simp⟩) (Less.of rfl (by simp [go_sem]) (by simp [go_sem])) ?_
 rintro ⟨lo, hi⟩ ⟨q1, q2, q3, q4, q5⟩
 simp only at q1 q2 q3 q4 q5
 refine AW.seq ?_
 refine rgA [0,1,4,10,11,33] ?_
 refine AW.cond rfl ?_ ?_
 ·intro hc; try simp at hc
  all_goals try (exfalso; omega; done)
  all_goals (
 have hlt : lo < hi := by first | assumption | omega
 obtain ⟨c, hc⟩ : ∃ c : Nat, c = (lo + hi) / 2 := ⟨_, rfl⟩
 have hw1 : IntKind.wrap .i64 ((lo : Int) + (hi : Int)) = (lo : Int) + (hi : Int) := wrap64 (by omega) (by omega)
 have hw2 : IntKind.wrap .u64 ((lo : Int) + (hi : Int)) = (lo : Int) + (hi : Int) := by simp [IntKind.wrap, IntKind.bits, IntKind.signed]; omega
 have hfd : ((lo : Int) + (hi : Int)).fdiv 2 = ((c : Nat) : Int) := by rw [Int.fdiv_eq_ediv_of_nonneg _ (by omega)]; omega
 have hw3 : IntKind.wrap .i64 ((c : Nat) : Int) = ((c : Nat) : Int) := wrap64 (by omega) (by omega)
 obtain ⟨z, hz⟩ := at_some (l := B) (i := c - m) (by omega)
 have g1 : L[c]? = some z := by rw [hL]; exact at_two hz (by simp; simp at hm; omega)
 have g2 : L[a]? = some x := by rw [hL]; exact at_one (n := 0) rfl (by omega)
 have g3 := gel g1
 have g4 := gel g2
 have g5 := at_lt g1
 have g6 := at_lt g2
 have g7 := True.intro
 have g8 := True.intro
 obtain ⟨c1, hc1⟩ : ∃ c1 : Nat, c1 = c + 1 := ⟨_, rfl⟩
 have hw4 : IntKind.wrap .i64 ((c : Int) + 1) = ((c1 : Nat) : Int) := by rw [wrap64 (by omega) (by omega)]; omega
 refine AW.skipN (fun _ h => h) ?_
 refine AW.block ?_
 refine rg [0,1,4,10,11,12] ?_
 intro k hk; simp -dsimp (maxSteps := 2000000) [go_sem, -decide_eq_true_eq, -decide_eq_false_iff_not, hw1, hw2, hfd, hw3]
 repeat' first | apply And.intro | refine hk _ ?_ | intro hg | omega | exact True.intro
 all_goals clear hk k
 refine rg [0,1,4,10,11,12,50] ?_
 intro k hk; simp -dsimp (maxSteps := 2000000) [go_sem, -decide_eq_true_eq, -decide_eq_false_iff_not, g1, g2, g3, g4, g5, g6, g7, g8, cmpI_neg]
 repeat' first | ((refine Chk.keys ?_); simp only [go_sem, List.map_cons, List.map_nil, List.flatMap_cons, List.flatMap_nil, List.flatMap_append, List.append_nil, List.nil_append, List.cons_append]; decide +kernel) | apply And.intro | refine hk _ ?_ | intro hg | (refine CallK.intro (dc_impl_graphOf_1 z x) ?_; simp -dsimp (maxSteps := 2000000) [go_sem, -decide_eq_true_eq, -decide_eq_false_iff_not, g1, g2, g3, g4, g5, g6, g7, g8, cmpI_neg]) | omega | exact True.intro
 all_goals clear hk k
 refine AW.cond rfl ?_ ?_
 ·intro hc; try simp at hc
  all_goals try (exfalso; omega; done)
  all_goals (
 refine rgK ?_
 intro k hk; simp -dsimp [go_sem, -decide_eq_true_eq, -decide_eq_false_iff_not, hw4]
 repeat' first | apply And.intro | refine hk _ ?_ | intro hg | omega | exact True.intro
 all_goals clear hk k
 show ∃ _, _
 first | (have hzx : z.src < x.src := (by first | assumption | (simp at hc; omega)); refine ⟨(c1, hi), ⟨by simp only; omega, by simp only; omega, q3, ?_, q5⟩, by simp only; omega, Less.of rfl (by simp [go_sem]) (by simp [go_sem])⟩; intro y hy; have h8 := ord_take hB hz y (by rw [show c - m + 1 = c1 - m from by omega]; exact hy); omega) | (have hzx : x.src ≤ z.src := (by first | assumption | omega | (simp at hc; omega)); refine ⟨(lo, c), ⟨q1, by simp only; omega, by simp only; omega, q4, ?_⟩, by simp only; omega, Less.of rfl (by simp [go_sem]) (by simp [go_sem])⟩; intro y hy; have h8 := ord_drop hB hz y hy; omega))
 ·intro hc; try simp at hc
  all_goals try (exfalso; omega; done)
  all_goals (
 refine rgKA ?_
 show ∃ _, _
 first | (have hzx : z.src < x.src := (by first | assumption | (simp at hc; omega)); refine ⟨(c1, hi), ⟨by simp only; omega, by simp only; omega, q3, ?_, q5⟩, by simp only; omega, Less.of rfl (by simp [go_sem]) (by simp [go_sem])⟩; intro y hy; have h8 := ord_take hB hz y (by rw [show c - m + 1 = c1 - m from by omega]; exact hy); omega) | (have hzx : x.src ≤ z.src := (by first | assumption | omega | (simp at hc; omega)); refine ⟨(lo, c), ⟨q1, by simp only; omega, by simp only; omega, q4, ?_⟩, by simp only; omega, Less.of rfl (by simp [go_sem]) (by simp [go_sem])⟩; intro y hy; have h8 := ord_drop hB hz y hy; omega)))
 ·intro hc; try simp at hc
  all_goals try (exfalso; omega; done)
  all_goals (
 refine AW.exitN (fun _ h => h) ?_
 refine AW.seq ?_
 obtain rfl : lo = hi := (by omega)
 refine rgA [0,10,13] ?_
 refine AW.block ?_
 refine AW.loopI (fun q : Nat × Nat => ⟨220, [(0, .sl 1900 3 0 L.length), (10, .int .i64 (lo : Nat)), (13, .int .i64 (q.2 : Nat))], [(1900, some ⟨3, (mvR P B Q x q.1).map VF.row⟩)]⟩) (fun q => q.1 ≤ lo - m ∧ q.2 = a + q.1) (fun q => lo - m - q.1) ((0, a)) (⟨Nat.zero_le _, rfl⟩) (Less.of rfl (by simp [go_sem]) (by simp [go_sem, mvR, hL])) ?_
 rintro ⟨n, s⟩ ⟨hni, hs⟩
 simp only at hni hs
 obtain ⟨lo1, hlo1⟩ : ∃ lo1 : Nat, lo1 = lo - 1 := ⟨_, rfl⟩
 have hw5 : IntKind.wrap .i64 ((lo : Int) - 1) = ((lo1 : Nat) : Int) := by rw [wrap64 (by omega) (by omega)]; omega
 obtain ⟨t, ht⟩ : ∃ t : Nat, t = s + 1 := ⟨_, rfl⟩
 have hml := mv_len P B Q x n
 refine AW.seq ?_
 refine rg [0,10,13,58] ?_
 intro k hk; simp -dsimp [go_sem, -decide_eq_true_eq, -decide_eq_false_iff_not, hw5]
 repeat' first | apply And.intro | refine hk _ ?_ | intro hg | omega | exact True.intro
 all_goals clear hk k
 refine AW.cond rfl ?_ ?_
 ·intro hc; try simp at hc
  all_goals try (exfalso; omega; done)
  all_goals (
 have hlt : n < lo - m := by first | omega | (simp at hc; omega)
 obtain ⟨y, hy⟩ := at_some (l := B) (i := n) (by omega)
 obtain ⟨g1, g2, gs⟩ := mv_step (P := P) (Q := Q) (x := x) hy (s := s) (t := t) (by omega) ht
 have g3 := gel g1
 have g4 := gel g2
 have g5 := at_lt g1
 have g6 := at_lt g2
 have g7 : s < L.length := by simp at hll; omega
 have g8 : t < L.length := by simp at hll; omega
 have g9 : s ≠ t := by omega
 have hw6 : IntKind.wrap .i64 ((s : Int) + 1) = ((t : Nat) : Int) := by rw [wrap64 (by omega) (by omega)]; omega
 refine AW.skipN (fun _ h => h) ?_
 refine AW.seq ?_
 refine AW.block ?_
 refine rgN [0,10,13] (fun _ h => h) ?_
 intro k hk; simp -dsimp (maxSteps := 2000000) [go_sem, -decide_eq_true_eq, -decide_eq_false_iff_not, hw6, g1, g2, g3, g4, g5, g6, g7, g8, g9]
 repeat' first | ((refine Chk.keys ?_); simp only [go_sem, List.map_cons, List.map_nil, List.flatMap_cons, List.flatMap_nil, List.flatMap_append, List.append_nil, List.nil_append, List.cons_append]; decide +kernel) | apply And.intro | refine hk _ ?_ | intro hg | omega | exact True.intro
 all_goals clear hk k
 refine rgK ?_
 intro k hk; simp -dsimp [go_sem, -decide_eq_true_eq, -decide_eq_false_iff_not, hw6]
 repeat' first | apply And.intro | refine hk _ ?_ | intro hg | omega | exact True.intro
 all_goals clear hk k
 show ∃ _, _
 refine ⟨(n + 1, t), ⟨by simp only; omega, by simp only; omega⟩, by simp only; omega, Less.of rfl (by simp [go_sem]) (by simp only [sw_rows gs]; simp [go_sem, sw_rows gs])⟩)
 ·intro hc; try simp at hc
  all_goals try (exfalso; omega; done)
  all_goals (
 refine AW.exitN (fun _ h => h) ?_
 refine rt ?_
 obtain rfl : n = lo - m := by first | omega | (simp at hc; omega)
 rw [mv_srt hB q4 q5, ← hM]
 simp [go_sem, Try.results69, hMl])))
 ·intro hc; try simp at hc
  all_goals try (exfalso; omega; done)
  all_goals (
 refine AW.skipN (fun _ h => h) ?_
 refine AW.seq ?_
 skip)
end Go.AM
namespace Go.AM
open Go.Proofs
set_option maxHeartbeats 4000000 in
theorem dc_symMerge_b (L M P A B Q : List VF) (a m b : Nat) (hL : L = P ++ A ++ B ++ Q) (hM : M = P ++ srt VF.src (A ++ B) ++ Q) (hA : Ord VF.src A) (hB : Ord VF.src B) (hA0 : A ≠ []) (hB0 : B ≠ []) (ha : a = P.length) (hm : m = a + A.length) (hb : b = m + B.length) (hn : L.length ≤ 1048576) (hAx : A.length ≠ 1) (hBx : B.length = 1) : DC Try.prog 69 [.osl 3 (L.map VF.row), .int .i64 (a : Nat), .int .i64 (m : Nat), .int .i64 (b : Nat), .fn 34 []] (.tup []) [(0, .osl 3 (M.map VF.row))] := by
 have hA1 := List.length_pos_iff.2 hA0
 have hB1 := List.length_pos_iff.2 hB0
 have hll : L.length = P.length + A.length + B.length + Q.length := by rw [hL]; simp; omega
 have hMl : M.length = L.length := by rw [hM, hL]; simp [srt_len]; omega
 have hwA : IntKind.wrap .i64 ((m : Int) - (a : Int)) = ((A.length : Nat) : Int) := by rw [wrap64 (by omega) (by omega)]; omega
 have hwB : IntKind.wrap .i64 ((b : Int) - (m : Int)) = ((B.length : Nat) : Int) := by rw [wrap64 (by omega) (by omega)]; omega
 obtain ⟨y, rfl⟩ : ∃ y, B = [y] := List.length_eq_one_iff.1 hBx
 refine DC.intro tiOk Try.func69 rfl rfl rfl rfl rfl rfl rfl (by simp [noW, noWo]) [] ?_
 refine AW.seq ?_
 refine rg [0,1,2,3,4,28] ?_
 intro k hk; simp -dsimp [go_sem, -decide_eq_true_eq, -decide_eq_false_iff_not, hwA, hAx]
 repeat' first | apply And.intro | refine hk _ ?_ | intro hg | omega | exact True.intro
 all_goals clear hk k
 refine AW.cond rfl ?_ ?_
 ·intro hc; try simp at hc
  all_goals try (exfalso; omega; done)
  all_goals (
 skip)
 ·intro hc; try simp at hc
  all_goals try (exfalso; omega; done)
  all_goals (
 refine AW.skipN (fun _ h => h) ?_
 refine AW.seq ?_
 refine rg [0,1,2,3,4,80] ?_
 intro k hk; simp -dsimp [go_sem, -decide_eq_true_eq, -decide_eq_false_iff_not, hwB]
 repeat' first | apply And.intro | refine hk _ ?_ | intro hg | omega | exact True.intro
 all_goals clear hk k
 refine AW.cond rfl ?_ ?_
 ·intro hc; try simp at hc
  all_goals try (exfalso; omega; done)
  all_goals (
 refine rgA [0,2,4,14] ?_
 refine rgA [0,2,4,14,15] ?_
 refine AW.seq ?_
 refine AW.block ?_
 refine AW.loopI (fun q : Nat × Nat => ⟨220, [(0, .sl 1900 3 0 L.length), (2, .int .i64 (m : Nat)), (4, .fn 34 []), (14, .int .i64 (q.1 : Nat)), (15, .int .i64 (q.2 : Nat))], [(1900, some ⟨3, L.map VF.row⟩)]⟩) (fun q => a ≤ q.1 ∧ q.1 ≤ q.2 ∧ q.2 ≤ m ∧ (∀ z ∈ A.take (q.1 - a), z.src ≤ y.src) ∧ (∀ z ∈ A.drop (q.2 - a), y.src < z.src)) (fun q => q.2 - q.1) ((a, m)) (⟨Nat.le_refl _, by simp only; omega, Nat.le_refl _, by simp, by simp only; rw [List.drop_of_length_le (by omega)]; simp⟩) (Less.of rfl (by simp [go_sem]) (by simp [go_sem])) ?_
 rintro ⟨lo, hi⟩ ⟨q1, q2, q3, q4, q5⟩
 simp only at q1 q2 q3 q4 q5
 refine AW.seq ?_
 refine rgA [0,2,4,14,15,85] ?_
 refine AW.cond rfl ?_ ?_
 ·intro hc; try simp at hc
  all_goals try (exfalso; omega; done)
  all_goals (
 have hlt : lo < hi := by first | assumption | omega
 obtain ⟨c, hc⟩ : ∃ c : Nat, c = (lo + hi) / 2 := ⟨_, rfl⟩
 have hw1 : IntKind.wrap .i64 ((lo : Int) + (hi : Int)) = (lo : Int) + (hi : Int) := wrap64 (by omega) (by omega)
 have hw2 : IntKind.wrap .u64 ((lo : Int) + (hi : Int)) = (lo : Int) + (hi : Int) := by simp [IntKind.wrap, IntKind.bits, IntKind.signed]; omega
 have hfd : ((lo : Int) + (hi : Int)).fdiv 2 = ((c : Nat) : Int) := by rw [Int.fdiv_eq_ediv_of_nonneg _ (by omega)]; omega
 have hw3 : IntKind.wrap .i64 ((c : Nat) : Int) = ((c : Nat) : Int) := wrap64 (by omega) (by omega)
 obtain ⟨z, hz⟩ := at_some (l := A) (i := c - a) (by omega)
 have g1 : L[m]? = some y := by rw [hL]; exact at_two (n := 0) rfl (by omega)
 have g2 : L[c]? = some z := by rw [hL]; exact at_one hz (by omega)
 have g3 := gel g1
 have g4 := gel g2
 have g5 := at_lt g1
 have g6 := at_lt g2
 obtain ⟨c1, hc1⟩ : ∃ c1 : Nat, c1 = c + 1 := ⟨_, rfl⟩
 have hw4 : IntKind.wrap .i64 ((c : Int) + 1) = ((c1 : Nat) : Int) := by rw [wrap64 (by omega) (by omega)]; omega
 refine AW.skipN (fun _ h => h) ?_
 refine AW.block ?_
 refine rg [0,2,4,14,15,16] ?_
 intro k hk; simp -dsimp (maxSteps := 2000000) [go_sem, -decide_eq_true_eq, -decide_eq_false_iff_not, hw1, hw2, hfd, hw3]
 repeat' first | apply And.intro | refine hk _ ?_ | intro hg | omega | exact True.intro
 all_goals clear hk k
 refine rg [0,2,4,14,15,16,103] ?_
 intro k hk; simp -dsimp (maxSteps := 2000000) [go_sem, -decide_eq_true_eq, -decide_eq_false_iff_not, g1, g2, g3, g4, g5, g6, cmpI_neg]
 repeat' first | ((refine Chk.keys ?_); simp only [go_sem, List.map_cons, List.map_nil, List.flatMap_cons, List.flatMap_nil, List.flatMap_append, List.append_nil, List.nil_append, List.cons_append]; decide +kernel) | apply And.intro | refine hk _ ?_ | intro hg | (refine CallK.intro (dc_impl_graphOf_1 y z) ?_; simp -dsimp (maxSteps := 2000000) [go_sem, -decide_eq_true_eq, -decide_eq_false_iff_not, g1, g2, g3, g4, g5, g6, cmpI_neg]) | omega | exact True.intro
 all_goals clear hk k
 refine AW.cond rfl ?_ ?_
 ·intro hc; try simp at hc
  all_goals try (exfalso; omega; done)
  all_goals (
 refine rgK ?_
 intro k hk; simp -dsimp [go_sem, -decide_eq_true_eq, -decide_eq_false_iff_not, hw4]
 repeat' first | apply And.intro | refine hk _ ?_ | intro hg | omega | exact True.intro
 all_goals clear hk k
 show ∃ _, _
 first | (have hzx : z.src ≤ y.src := (by first | assumption | omega | (simp at hc; omega)); refine ⟨(c1, hi), ⟨by simp only; omega, by simp only; omega, q3, ?_, q5⟩, by simp only; omega, Less.of rfl (by simp [go_sem]) (by simp [go_sem])⟩; intro u hu; have h8 := ord_take hA hz u (by rw [show c - a + 1 = c1 - a from by omega]; exact hu); omega) | (have hzx : y.src < z.src := (by first | assumption | omega | (simp at hc; omega)); refine ⟨(lo, c), ⟨q1, by simp only; omega, by simp only; omega, q4, ?_⟩, by simp only; omega, Less.of rfl (by simp [go_sem]) (by simp [go_sem])⟩; intro u hu; have h8 := ord_drop hA hz u hu; omega))
 ·intro hc; try simp at hc
  all_goals try (exfalso; omega; done)
  all_goals (
 refine rgKA ?_
 show ∃ _, _
 first | (have hzx : z.src ≤ y.src := (by first | assumption | omega | (simp at hc; omega)); refine ⟨(c1, hi), ⟨by simp only; omega, by simp only; omega, q3, ?_, q5⟩, by simp only; omega, Less.of rfl (by simp [go_sem]) (by simp [go_sem])⟩; intro u hu; have h8 := ord_take hA hz u (by rw [show c - a + 1 = c1 - a from by omega]; exact hu); omega) | (have hzx : y.src < z.src := (by first | assumption | omega | (simp at hc; omega)); refine ⟨(lo, c), ⟨q1, by simp only; omega, by simp only; omega, q4, ?_⟩, by simp only; omega, Less.of rfl (by simp [go_sem]) (by simp [go_sem])⟩; intro u hu; have h8 := ord_drop hA hz u hu; omega)))
 ·intro hc; try simp at hc
  all_goals try (exfalso; omega; done)
  all_goals (
 refine AW.exitN (fun _ h => h) ?_
 refine AW.seq ?_
 obtain rfl : lo = hi := (by omega)
 refine rgA [0,14,17] ?_
 refine AW.block ?_
 refine AW.loopI (fun q : Nat × Nat => ⟨220, [(0, .sl 1900 3 0 L.length), (14, .int .i64 (lo : Nat)), (17, .int .i64 (q.2 : Nat))], [(1900, some ⟨3, (mvR P A Q y q.1).map VF.row⟩)]⟩) (fun q => lo - a ≤ q.1 ∧ q.1 ≤ A.length ∧ q.2 = a + q.1) (fun q => q.1) ((A.length, m)) (⟨by simp only; omega, Nat.le_refl _, hm⟩) (Less.of rfl (by simp [go_sem]) (by simp [go_sem, mvR, hL])) ?_
 rintro ⟨n, t⟩ ⟨hni, hnA, ht⟩
 simp only at hni hnA ht
 have hml := mv_len P A Q y n
 refine AW.seq ?_
 refine rgA [0,14,17,110] ?_
 refine AW.cond rfl ?_ ?_
 ·intro hc; try simp at hc
  all_goals try (exfalso; omega; done)
  all_goals (
 have hlt : lo - a < n := by first | omega | (simp at hc; omega)
 obtain ⟨n1, rfl⟩ : ∃ n1, n = n1 + 1 := ⟨n - 1, by omega⟩
 obtain ⟨z, hz⟩ := at_some (l := A) (i := n1) (by omega)
 obtain ⟨s, hs⟩ : ∃ s : Nat, s = a + n1 := ⟨_, rfl⟩
 obtain ⟨g1, g2, gs⟩ := mv_back (P := P) (Q := Q) (x := y) hz (s := s) (t := t) (by omega) (by omega)
 have g3 := gel g1
 have g4 := gel g2
 have g5 := at_lt g1
 have g6 := at_lt g2
 have g7 : s < L.length := by simp at hll; omega
 have g8 : t < L.length := by simp at hll; omega
 have g9 : t ≠ s := by omega
 have hw6 : IntKind.wrap .i64 ((t : Int) - 1) = ((s : Nat) : Int) := by rw [wrap64 (by omega) (by omega)]; omega
 refine AW.skipN (fun _ h => h) ?_
 refine AW.seq ?_
 refine AW.block ?_
 refine rgN [0,14,17] (fun _ h => h) ?_
 intro k hk; simp -dsimp (maxSteps := 2000000) [go_sem, -decide_eq_true_eq, -decide_eq_false_iff_not, hw6, g1, g2, g3, g4, g5, g6, g7, g8, g9]
 repeat' first | ((refine Chk.keys ?_); simp only [go_sem, List.map_cons, List.map_nil, List.flatMap_cons, List.flatMap_nil, List.flatMap_append, List.append_nil, List.nil_append, List.cons_append]; decide +kernel) | apply And.intro | refine hk _ ?_ | intro hg | omega | exact True.intro
 all_goals clear hk k
 refine rgK ?_
 intro k hk; simp -dsimp [go_sem, -decide_eq_true_eq, -decide_eq_false_iff_not, hw6]
 repeat' first | apply And.intro | refine hk _ ?_ | intro hg | omega | exact True.intro
 all_goals clear hk k
 show ∃ _, _
 refine ⟨(n1, s), ⟨by simp only; omega, by simp only; omega, by simp only; omega⟩, by simp only; omega, Less.of rfl (by simp [go_sem]) (by simp only [sw_rows gs]; simp [go_sem, sw_rows gs])⟩)
 ·intro hc; try simp at hc
  all_goals try (exfalso; omega; done)
  all_goals (
 refine AW.exitN (fun _ h => h) ?_
 refine rt ?_
 obtain rfl : n = lo - a := by first | omega | (simp at hc; omega)
 rw [mv_srt2 hA q4 q5, ← hM]
 simp [go_sem, Try.results69, hMl])))
 ·intro hc; try simp at hc
  all_goals try (exfalso; omega; done)
  all_goals (
 refine AW.skipN (fun _ h => h) ?_
 skip))
end Go.AM
namespace Go.AM
open Go.Proofs
theorem dc_rotate (L M P X Y Q : List VF) (a m b : Nat) (hL : L = P ++ X ++ Y ++ Q) (hM : M = P ++ Y ++ X ++ Q) (hX : X ≠ []) (hY : Y ≠ []) (ha : a = P.length) (hm : m = a + X.length) (hb : b = m + Y.length) (hn : L.length ≤ 1048576) : DC Try.prog 84 [.osl 3 (L.map VF.row), .int .i64 (a : Nat), .int .i64 (m : Nat), .int .i64 (b : Nat), .fn 34 []] (.tup []) [(0, .osl 3 (M.map VF.row))] := by
 have hll : L.length = P.length + X.length + Y.length + Q.length := by rw [hL]; simp; omega
 have hMl : M.length = L.length := by rw [hM, hL]; simp; omega
 have hw0 : IntKind.wrap .i64 ((m : Int) - (a : Int)) = ((X.length : Nat) : Int) := by rw [wrap64 (by omega) (by omega)]; omega
 have hw00 : IntKind.wrap .i64 ((b : Int) - (m : Int)) = ((Y.length : Nat) : Int) := by rw [wrap64 (by omega) (by omega)]; omega
 refine DC.intro tiOk Try.func84 rfl rfl rfl rfl rfl rfl rfl (by simp [noW, noWo]) [] ?_
 refine rg [0,2,3,4,10] ?_
 intro k hk; simp -dsimp [go_sem, -decide_eq_true_eq, -decide_eq_false_iff_not, hw0]
 repeat' first | apply And.intro | refine hk _ ?_ | intro hg | omega | exact True.intro
 all_goals clear hk k
 refine rg [0,2,4,10,11] ?_
 intro k hk; simp -dsimp [go_sem, -decide_eq_true_eq, -decide_eq_false_iff_not, hw00]
 repeat' first | apply And.intro | refine hk _ ?_ | intro hg | omega | exact True.intro
 all_goals clear hk k
 refine AW.seq ?_
 refine AW.block ?_
 refine AW.loopI (fun q : List VF × List VF × List VF × List VF × List VF => ⟨58, [(0, .sl 1900 3 0 L.length), (2, .int .i64 (m : Nat)), (4, .fn 34 []), (10, .int .i64 (q.2.2.1.length : Nat)), (11, .int .i64 (q.2.2.2.1.length : Nat))], [(1900, some ⟨3, q.1.map VF.row⟩)]⟩) (fun q => q.1 = q.2.1 ++ q.2.2.1 ++ q.2.2.2.1 ++ q.2.2.2.2 ∧ M = q.2.1 ++ q.2.2.2.1 ++ q.2.2.1 ++ q.2.2.2.2 ∧ q.2.2.1 ≠ [] ∧ q.2.2.2.1 ≠ [] ∧ m = q.2.1.length + q.2.2.1.length) (fun q => q.2.2.1.length + q.2.2.2.1.length) ((L, P, X, Y, Q)) (⟨hL, hM, hX, hY, by simp only; omega⟩) (Less.of rfl (by simp [go_sem]) (by simp [go_sem])) ?_
 rintro ⟨C, P1, X1, Y1, Q1⟩ ⟨hC, hM1, hX1, hY1, hm1⟩
 simp only at hC hM1 hX1 hY1 hm1
 have hX2 := List.length_pos_iff.2 hX1
 have hY2 := List.length_pos_iff.2 hY1
 have hCl : C.length = L.length := by rw [← hMl, hM1, hC]; simp; omega
 have hC2 : C.length = P1.length + X1.length + Y1.length + Q1.length := by rw [hC]; simp; omega
 obtain ⟨s, hs⟩ : ∃ s : Nat, s = P1.length := ⟨_, rfl⟩
 have hw1 : IntKind.wrap .i64 ((m : Int) - (X1.length : Int)) = ((s : Nat) : Int) := by rw [wrap64 (by omega) (by omega)]; omega
 refine AW.seq ?_
 refine rgA [0,2,4,10,11,20] ?_
 refine AW.cond rfl ?_ ?_
 ·intro hc; try simp at hc
  all_goals (
 refine AW.skipN (fun _ h => h) ?_
 refine AW.block ?_
 refine rgA [0,2,4,10,11,23] ?_
 refine AW.cond rfl ?_ ?_
 ·intro hc; try simp at hc
  all_goals (
 obtain ⟨X2, X3, hX3, hx1, hx2⟩ : ∃ X2 X3, X1 = X2 ++ X3 ∧ X2.length = Y1.length ∧ X3.length = X1.length - Y1.length := ⟨X1.take Y1.length, X1.drop Y1.length, (List.take_append_drop _ _).symm, by simp; omega, by simp⟩
 obtain ⟨D, hD⟩ : ∃ D, D = P1 ++ Y1 ++ X3 ++ X2 ++ Q1 := ⟨_, rfl⟩
 have hcall := dc_swapRange C D P1 X2 X3 Y1 Q1 s m Y1.length (by rw [hC, hX3]; simp) hD (by omega) hs (by omega) (by omega) (by omega)
 have hDl : D.length = L.length := by rw [hD, ← hCl, hC2]; simp; omega
 obtain ⟨P2, X4, Y4, Q2, n1, n2, n3, n4, n5, n6, n7, n8⟩ : ∃ P2 X4 Y4 Q2 : List VF, D = P2 ++ X4 ++ Y4 ++ Q2 ∧ M = P2 ++ Y4 ++ X4 ++ Q2 ∧ X4 ≠ [] ∧ Y4 ≠ [] ∧ m = P2.length + X4.length ∧ X4.length + Y4.length < X1.length + Y1.length ∧ X4.length = X1.length - Y1.length ∧ Y4.length = Y1.length := ⟨P1 ++ Y1, X3, X2, Q1, hD, by rw [hM1, hX3]; simp, List.ne_nil_of_length_pos (by omega), List.ne_nil_of_length_pos (by omega), by rw [List.length_append]; omega, by omega, by omega, by omega⟩
 have hw2 : IntKind.wrap .i64 ((X1.length : Int) - (Y1.length : Int)) = ((X4.length : Nat) : Int) := by rw [wrap64 (by omega) (by omega)]; omega
 have hw4 := hw2
 refine AW.reg tiOk (fun _ => [0]) [0,2,4,10,11] ?_
 intro k hk; simp -dsimp (maxSteps := 2000000) [go_sem, -decide_eq_true_eq, -decide_eq_false_iff_not, hw1]
 repeat' first | apply And.intro | refine hk _ ?_ | intro hg | (refine CallK.intro (hcall) ?_; simp -dsimp (maxSteps := 2000000) [go_sem, -decide_eq_true_eq, -decide_eq_false_iff_not, hw1]) | omega | exact True.intro
 all_goals clear hk k
 refine rgK ?_
 intro k hk; simp -dsimp [go_sem, -decide_eq_true_eq, -decide_eq_false_iff_not, hw2]
 repeat' first | apply And.intro | refine hk _ ?_ | intro hg | omega | exact True.intro
 all_goals clear hk k
 show ∃ _, _
 exact ⟨(D, P2, X4, Y4, Q2), ⟨n1, n2, n3, n4, n5⟩, n6, Less.of rfl (by simp [go_sem, hw2, hw4, n7, n8, hDl]) (by simp [go_sem])⟩)
 ·intro hc; try simp at hc
  all_goals (
 obtain ⟨Y2, Y3, hY3, hy1, hy2⟩ : ∃ Y2 Y3, Y1 = Y2 ++ Y3 ∧ Y3.length = X1.length ∧ Y2.length = Y1.length - X1.length := ⟨Y1.take (Y1.length - X1.length), Y1.drop (Y1.length - X1.length), (List.take_append_drop _ _).symm, by simp; omega, by simp⟩
 obtain ⟨D, hD⟩ : ∃ D, D = P1 ++ Y3 ++ Y2 ++ X1 ++ Q1 := ⟨_, rfl⟩
 obtain ⟨u, hu⟩ : ∃ u : Nat, u = m + Y1.length := ⟨_, rfl⟩
 obtain ⟨t, ht⟩ : ∃ t : Nat, t = P1.length + X1.length + Y2.length := ⟨_, rfl⟩
 have hcall := dc_swapRange C D P1 X1 Y2 Y3 Q1 s t X1.length (by rw [hC, hY3]; simp) hD (by omega) hs ht rfl (by omega)
 have hDl : D.length = L.length := by rw [hD, ← hCl, hC2]; simp; omega
 have hw2 : IntKind.wrap .i64 ((m : Int) + (Y1.length : Int)) = ((u : Nat) : Int) := by rw [wrap64 (by omega) (by omega)]; omega
 have hw3 : IntKind.wrap .i64 ((u : Int) - (X1.length : Int)) = ((t : Nat) : Int) := by rw [wrap64 (by omega) (by omega)]; omega
 obtain ⟨P2, X4, Y4, Q2, n1, n2, n3, n4, n5, n6, n7, n8⟩ : ∃ P2 X4 Y4 Q2 : List VF, D = P2 ++ X4 ++ Y4 ++ Q2 ∧ M = P2 ++ Y4 ++ X4 ++ Q2 ∧ X4 ≠ [] ∧ Y4 ≠ [] ∧ m = P2.length + X4.length ∧ X4.length + Y4.length < X1.length + Y1.length ∧ X4.length = X1.length ∧ Y4.length = Y1.length - X1.length := ⟨P1, Y3, Y2, X1 ++ Q1, by rw [hD]; simp, by rw [hM1, hY3]; simp, List.ne_nil_of_length_pos (by omega), List.ne_nil_of_length_pos (by omega), by omega, by omega, by omega, by omega⟩
 have hw4 : IntKind.wrap .i64 ((Y1.length : Int) - (X1.length : Int)) = ((Y4.length : Nat) : Int) := by rw [wrap64 (by omega) (by omega)]; omega
 refine AW.reg tiOk (fun _ => [0]) [0,2,4,10,11] ?_
 intro k hk; simp -dsimp (maxSteps := 2000000) [go_sem, -decide_eq_true_eq, -decide_eq_false_iff_not, hw1, hw2, hw3]
 repeat' first | apply And.intro | refine hk _ ?_ | intro hg | (refine CallK.intro (hcall) ?_; simp -dsimp (maxSteps := 2000000) [go_sem, -decide_eq_true_eq, -decide_eq_false_iff_not, hw1, hw2, hw3]) | omega | exact True.intro
 all_goals clear hk k
 refine rgK ?_
 intro k hk; simp -dsimp [go_sem, -decide_eq_true_eq, -decide_eq_false_iff_not, hw4]
 repeat' first | apply And.intro | refine hk _ ?_ | intro hg | omega | exact True.intro
 all_goals clear hk k
 show ∃ _, _
 exact ⟨(D, P2, X4, Y4, Q2), ⟨n1, n2, n3, n4, n5⟩, n6, Less.of rfl (by simp [go_sem, hw2, hw4, n7, n8, hDl]) (by simp [go_sem])⟩))
 ·intro hc; try simp at hc
  all_goals (
 refine AW.exitN (fun _ h => h) ?_
 have hcall := dc_swapRange C M P1 X1 [] Y1 Q1 s m X1.length (by rw [hC]; simp) (by rw [hM1]; simp) (by omega) hs (by simp; omega) rfl (by omega)
 refine rgE (fun _ => [0]) ?_
 intro k hk; simp -dsimp (maxSteps := 2000000) [go_sem, -decide_eq_true_eq, -decide_eq_false_iff_not, hw1]
 repeat' first | apply And.intro | refine hk _ ?_ | intro hg | (refine CallK.intro (hcall) ?_; simp -dsimp (maxSteps := 2000000) [go_sem, -decide_eq_true_eq, -decide_eq_false_iff_not, hw1]) | omega | exact True.intro
 all_goals clear hk k
 refine ⟨.intro, And.intro (.inl rfl) ?_⟩
 simp [go_sem, Try.results84, hMl])
end Go.AM
namespace Go.AM
open Go.Proofs
set_option maxHeartbeats 8000000 in
theorem dc_symMerge_c (L M P A B Q : List VF) (a m b : Nat) (hL : L = P ++ A ++ B ++ Q) (hM : M = P ++ srt VF.src (A ++ B) ++ Q) (hA : Ord VF.src A) (hB : Ord VF.src B) (hA0 : A ≠ []) (hB0 : B ≠ []) (ha : a = P.length) (hm : m = a + A.length) (hb : b = m + B.length) (hn : L.length ≤ 1048576) (f : Nat) (hS : ∀ (L M P A B Q : List VF) (a m b : Nat), L = P ++ A ++ B ++ Q → M = P ++ srt VF.src (A ++ B) ++ Q → Ord VF.src A → Ord VF.src B → A ≠ [] → B ≠ [] → a = P.length → m = a + A.length → b = m + B.length → L.length ≤ 1048576 → A.length + B.length ≤ f → DC Try.prog 69 [.osl 3 (L.map VF.row), .int .i64 (a : Nat), .int .i64 (m : Nat), .int .i64 (b : Nat), .fn 34 []] (.tup []) [(0, .osl 3 (M.map VF.row))]) (hAx : A.length ≠ 1) (hBx : B.length ≠ 1) (hf : A.length + B.length ≤ f + 1) (hmd : (a + b) / 2 < m) : DC Try.prog 69 [.osl 3 (L.map VF.row), .int .i64 (a : Nat), .int .i64 (m : Nat), .int .i64 (b : Nat), .fn 34 []] (.tup []) [(0, .osl 3 (M.map VF.row))] := by
 have hA1 := List.length_pos_iff.2 hA0
 have hB1 := List.length_pos_iff.2 hB0
 have hll : L.length = P.length + A.length + B.length + Q.length := by rw [hL]; simp; omega
 have hMl : M.length = L.length := by rw [hM, hL]; simp [srt_len]; omega
 have hwA : IntKind.wrap .i64 ((m : Int) - (a : Int)) = ((A.length : Nat) : Int) := by rw [wrap64 (by omega) (by omega)]; omega
 have hwB : IntKind.wrap .i64 ((b : Int) - (m : Int)) = ((B.length : Nat) : Int) := by rw [wrap64 (by omega) (by omega)]; omega
 obtain ⟨d, hd⟩ : ∃ d : Nat, d = (a + b) / 2 := ⟨_, rfl⟩
 have hw1 : IntKind.wrap .i64 ((a : Int) + (b : Int)) = (a : Int) + (b : Int) := wrap64 (by omega) (by omega)
 have hw2 : IntKind.wrap .u64 ((a : Int) + (b : Int)) = (a : Int) + (b : Int) := by simp [IntKind.wrap, IntKind.bits, IntKind.signed]; omega
 have hfd : ((a : Int) + (b : Int)).fdiv 2 = ((d : Nat) : Int) := by rw [Int.fdiv_eq_ediv_of_nonneg _ (by omega)]; omega
 have hw3 : IntKind.wrap .i64 ((d : Nat) : Int) = ((d : Nat) : Int) := wrap64 (by omega) (by omega)
 obtain ⟨n2, hn2⟩ : ∃ n2 : Nat, n2 = d + m := ⟨_, rfl⟩
 have hw4 : IntKind.wrap .i64 ((d : Int) + (m : Int)) = ((n2 : Nat) : Int) := by rw [wrap64 (by omega) (by omega)]; omega
 obtain ⟨p, hp⟩ : ∃ p : Nat, p = n2 - 1 := ⟨_, rfl⟩
 have hw5 : IntKind.wrap .i64 ((n2 : Int) - 1) = ((p : Nat) : Int) := by rw [wrap64 (by omega) (by omega)]; omega
 have hdab : a < d ∧ d < b := by omega
 obtain ⟨lo0, hi0, e20, e21, k1, k2, k3, k4, k5, k6, k7⟩ : ∃ lo0 hi0 : Nat, n2 - b = lo0 ∧ d = hi0 ∧ a ≤ lo0 ∧ lo0 ≤ hi0 ∧ hi0 ≤ m ∧ hi0 ≤ d ∧ n2 ≤ lo0 + b ∧ (lo0 = a ∨ lo0 + b = n2) ∧ (hi0 = m ∨ hi0 = d) := ⟨n2 - b, d, rfl, rfl, by omega, by omega, by omega, by omega, by omega, by omega, by omega⟩
 have hw6 : IntKind.wrap .i64 ((n2 : Int) - (b : Int)) = ((lo0 : Nat) : Int) := by rw [wrap64 (by omega) (by omega)]; omega
 have hmd2 : d < m := by omega
 refine DC.intro tiOk Try.func69 rfl rfl rfl rfl rfl rfl rfl (by simp [noW, noWo]) [] ?_
 refine AW.seq ?_
 refine rg [0,1,2,3,4,28] ?_
 intro k hk; simp -dsimp [go_sem, -decide_eq_true_eq, -decide_eq_false_iff_not, hwA, hAx]
 repeat' first | apply And.intro | refine hk _ ?_ | intro hg | omega | exact True.intro
 all_goals clear hk k
 refine AW.cond rfl ?_ ?_
 ·intro hc; try simp at hc
  all_goals try (exfalso; first | omega | contradiction; done)
  all_goals (
 skip)
 ·intro hc; try simp at hc
  all_goals try (exfalso; first | omega | contradiction; done)
  all_goals (
 refine AW.skipN (fun _ h => h) ?_
 refine AW.seq ?_
 refine rg [0,1,2,3,4,80] ?_
 intro k hk; simp -dsimp [go_sem, -decide_eq_true_eq, -decide_eq_false_iff_not, hwB, hBx]
 repeat' first | apply And.intro | refine hk _ ?_ | intro hg | omega | exact True.intro
 all_goals clear hk k
 refine AW.cond rfl ?_ ?_
 ·intro hc; try simp at hc
  all_goals try (exfalso; first | omega | contradiction; done)
  all_goals (
 skip)
 ·intro hc; try simp at hc
  all_goals try (exfalso; first | omega | contradiction; done)
  all_goals (
 refine AW.skipN (fun _ h => h) ?_
 refine rg [0,1,2,3,4,18] ?_
 intro k hk; simp -dsimp (maxSteps := 2000000) [go_sem, -decide_eq_true_eq, -decide_eq_false_iff_not, hw1, hw2, hfd, hw3]
 repeat' first | apply And.intro | refine hk _ ?_ | intro hg | omega | exact True.intro
 all_goals clear hk k
 refine rg [0,1,2,3,4,18,19] ?_
 intro k hk; simp -dsimp [go_sem, -decide_eq_true_eq, -decide_eq_false_iff_not, hw4]
 repeat' first | apply And.intro | refine hk _ ?_ | intro hg | omega | exact True.intro
 all_goals clear hk k
 refine rgA [0,1,2,3,4,18,19] ?_
 refine AW.seq ?_
 refine rg [0,1,2,3,4,18,19,140] ?_
 intro k hk; simp -dsimp [go_sem, -decide_eq_true_eq, -decide_eq_false_iff_not, hmd2]
 repeat' first | apply And.intro | refine hk _ ?_ | intro hg | omega | exact True.intro
 all_goals clear hk k
 refine AW.cond rfl ?_ ?_
 ·intro hc; try simp at hc
  all_goals try (exfalso; first | omega | contradiction; done)
  all_goals (
 refine rg [0,1,2,3,4,18,19,20] ?_
 intro k hk; simp -dsimp [go_sem, -decide_eq_true_eq, -decide_eq_false_iff_not, hw6]
 repeat' first | apply And.intro | refine hk _ ?_ | intro hg | omega | exact True.intro
 all_goals clear hk k
 refine rgNA [0,1,2,3,4,18,19,20,21] (fun _ h => h) ?_
 refine rg [0,1,2,3,4,18,19,20,21,22] ?_
 intro k hk; simp -dsimp [go_sem, -decide_eq_true_eq, -decide_eq_false_iff_not, hw5]
 repeat' first | apply And.intro | refine hk _ ?_ | intro hg | omega | exact True.intro
 all_goals clear hk k
 refine AW.seq ?_
 refine AW.block ?_
 refine AW.loopI (fun q : Nat × Nat => ⟨220, [(0, .sl 1900 3 0 L.length), (1, .int .i64 (a : Nat)), (2, .int .i64 (m : Nat)), (3, .int .i64 (b : Nat)), (4, .fn 34 []), (18, .int .i64 (d : Nat)), (19, .int .i64 (n2 : Nat)), (20, .int .i64 (q.1 : Nat)), (21, .int .i64 (q.2 : Nat)), (22, .int .i64 (p : Nat))], [(1900, some ⟨3, L.map VF.row⟩)]⟩) (fun q => lo0 ≤ q.1 ∧ q.1 ≤ q.2 ∧ q.2 ≤ hi0 ∧ (q.1 = lo0 ∨ leQ A B (q.1 - a - 1) (d - q.1)) ∧ (q.2 = hi0 ∨ ltQ A B (q.2 - a) (d - 1 - q.2))) (fun q => q.2 - q.1) ((lo0, hi0)) (⟨Nat.le_refl _, by simp only; omega, Nat.le_refl _, Or.inl rfl, Or.inl rfl⟩) (Less.of rfl (by simp [go_sem, e20, e21]) (by simp [go_sem])) ?_
 rintro ⟨st, r⟩ ⟨q1, q2, q3, q4, q5⟩
 simp only at q1 q2 q3 q4 q5
 refine AW.seq ?_
 refine rgA [0,1,2,3,4,18,19,20,21,22,151] ?_
 refine AW.cond rfl ?_ ?_
 ·intro hc; try simp at hc
  all_goals try (exfalso; first | omega | contradiction; done)
  all_goals (
 have hlt : st < r := by first | assumption | omega
 obtain ⟨c, hc⟩ : ∃ c : Nat, c = (st + r) / 2 := ⟨_, rfl⟩
 have hv1 : IntKind.wrap .i64 ((st : Int) + (r : Int)) = (st : Int) + (r : Int) := wrap64 (by omega) (by omega)
 have hv2 : IntKind.wrap .u64 ((st : Int) + (r : Int)) = (st : Int) + (r : Int) := by simp [IntKind.wrap, IntKind.bits, IntKind.signed]; omega
 have hfv : ((st : Int) + (r : Int)).fdiv 2 = ((c : Nat) : Int) := by rw [Int.fdiv_eq_ediv_of_nonneg _ (by omega)]; omega
 have hv3 : IntKind.wrap .i64 ((c : Nat) : Int) = ((c : Nat) : Int) := wrap64 (by omega) (by omega)
 obtain ⟨u, hu⟩ := at_some (l := A) (i := c - a) (by omega)
 obtain ⟨v, hv⟩ := at_some (l := B) (i := d - 1 - c) (by omega)
 obtain ⟨w, hw⟩ : ∃ w : Nat, w = p - c := ⟨_, rfl⟩
 have hv4 : IntKind.wrap .i64 ((p : Int) - (c : Int)) = ((w : Nat) : Int) := by rw [wrap64 (by omega) (by omega)]; omega
 have g1 : L[w]? = some v := by rw [hL]; exact at_two hv (by omega)
 have g2 : L[c]? = some u := by rw [hL]; exact at_one hu (by omega)
 have g3 := gel g1
 have g4 := gel g2
 have g5 := at_lt g1
 have g6 := at_lt g2
 obtain ⟨c1, hc1⟩ : ∃ c1 : Nat, c1 = c + 1 := ⟨_, rfl⟩
 have hv5 : IntKind.wrap .i64 ((c : Int) + 1) = ((c1 : Nat) : Int) := by rw [wrap64 (by omega) (by omega)]; omega
 refine AW.skipN (fun _ h => h) ?_
 refine AW.block ?_
 refine rg [0,1,2,3,4,18,19,20,21,22,23] ?_
 intro k hk; simp -dsimp (maxSteps := 2000000) [go_sem, -decide_eq_true_eq, -decide_eq_false_iff_not, hv1, hv2, hfv, hv3]
 repeat' first | apply And.intro | refine hk _ ?_ | intro hg | omega | exact True.intro
 all_goals clear hk k
 refine rg [0,1,2,3,4,18,19,20,21,22,23,171] ?_
 intro k hk; simp -dsimp (maxSteps := 2000000) [go_sem, -decide_eq_true_eq, -decide_eq_false_iff_not, hv4, g1, g2, g3, g4, g5, g6, cmpI_neg]
 repeat' first | ((refine Chk.keys ?_); simp only [go_sem, List.map_cons, List.map_nil, List.flatMap_cons, List.flatMap_nil, List.flatMap_append, List.append_nil, List.nil_append, List.cons_append]; decide +kernel) | apply And.intro | refine hk _ ?_ | intro hg | (refine CallK.intro (dc_impl_graphOf_1 v u) ?_; simp -dsimp (maxSteps := 2000000) [go_sem, -decide_eq_true_eq, -decide_eq_false_iff_not, hv4, g1, g2, g3, g4, g5, g6, cmpI_neg]) | omega | exact True.intro
 all_goals clear hk k
 refine AW.cond rfl ?_ ?_
 ·intro hc; try simp at hc
  all_goals try (exfalso; first | omega | contradiction; done)
  all_goals (
 refine rgK ?_
 intro k hk; simp -dsimp [go_sem, -decide_eq_true_eq, -decide_eq_false_iff_not, hv5]
 repeat' first | apply And.intro | refine hk _ ?_ | intro hg | omega | exact True.intro
 all_goals clear hk k
 show ∃ _, _
 first | (have hzx : u.src ≤ v.src := (by first | assumption | omega | (simp at hc; omega)); refine ⟨(c1, r), ⟨by simp only; omega, by simp only; omega, q3, Or.inr (leQ_mk hu hv hzx (by simp only; omega) (by simp only; omega)), q5⟩, by simp only; omega, Less.of rfl (by simp [go_sem]) (by simp [go_sem])⟩) | (have hzx : v.src < u.src := (by first | assumption | omega | (simp at hc; omega)); refine ⟨(st, c), ⟨q1, by simp only; omega, by simp only; omega, q4, Or.inr (ltQ_mk hu hv hzx)⟩, by simp only; omega, Less.of rfl (by simp [go_sem]) (by simp [go_sem])⟩))
 ·intro hc; try simp at hc
  all_goals try (exfalso; first | omega | contradiction; done)
  all_goals (
 refine rgKA ?_
 show ∃ _, _
 first | (have hzx : u.src ≤ v.src := (by first | assumption | omega | (simp at hc; omega)); refine ⟨(c1, r), ⟨by simp only; omega, by simp only; omega, q3, Or.inr (leQ_mk hu hv hzx (by simp only; omega) (by simp only; omega)), q5⟩, by simp only; omega, Less.of rfl (by simp [go_sem]) (by simp [go_sem])⟩) | (have hzx : v.src < u.src := (by first | assumption | omega | (simp at hc; omega)); refine ⟨(st, c), ⟨q1, by simp only; omega, by simp only; omega, q4, Or.inr (ltQ_mk hu hv hzx)⟩, by simp only; omega, Less.of rfl (by simp [go_sem]) (by simp [go_sem])⟩)))
 ·intro hc; try simp at hc
  all_goals try (exfalso; first | omega | contradiction; done)
  all_goals (
 refine AW.exitN (fun _ h => h) ?_
 obtain rfl : st = r := (by omega)
 obtain ⟨en, hen⟩ : ∃ en : Nat, en = n2 - st := ⟨_, rfl⟩
 have hw7 : IntKind.wrap .i64 ((n2 : Int) - (st : Int)) = ((en : Nat) : Int) := by rw [wrap64 (by omega) (by omega)]; omega
 obtain ⟨A1, A2, B1, B2, hAA, hBB, l1, l2, o1, o2⟩ := sym_end2 hA hB (a := a) (d := d) (st := st) (m := m) (b := b) (by omega) (by omega) (by omega) (by omega) hm hb hn2 k6 k7 q4 q5
 have hq : a ≤ st ∧ st ≤ m ∧ st ≤ d ∧ n2 ≤ st + b := by omega
 clear q1 q2 q3 q4 q5 k1 k2 k3 k4 k5 k6 k7 hw1 hw2 hw3 hfd e20 e21 hwA hwB hmd2
 have lA : A.length = A1.length + A2.length := by rw [hAA, List.length_append]
 have lB : B.length = B1.length + B2.length := by rw [hBB, List.length_append]
 have oA := hA
 have oB := hB
 rw [hAA] at oA
 rw [hBB] at oB
 have oA1 := (ord_app.1 oA).1
 have oA2 := (ord_app.1 oA).2.1
 have oB1 := (ord_app.1 oB).1
 have oB2 := (ord_app.1 oB).2.1
 have hsrt := srt_half oA oB o1 o2
 obtain ⟨D, hD⟩ : ∃ D, D = P ++ A1 ++ B1 ++ (A2 ++ B2 ++ Q) := ⟨_, rfl⟩
 obtain ⟨E, hE⟩ : ∃ E, E = P ++ srt VF.src (A1 ++ B1) ++ (A2 ++ B2 ++ Q) := ⟨_, rfl⟩
 have hDl : D.length = L.length := by rw [hD, hll]; simp; omega
 have hEl : E.length = L.length := by rw [hE, hll]; simp [srt_len]; omega
 have hc1 := sym_c1 (L := L) (D := D) (P := P) (Q := Q) (A1 := A1) (A2 := A2) (B1 := B1) (B2 := B2) (s1 := st) (m := m) (en := en) (by rw [hL, hAA, hBB]) hD (by omega) (by omega)
 have hc2 := sym_c2 (D := D) (E := E) (P := P) (R := A2 ++ B2 ++ Q) (A1 := A1) (B1 := B1) (a := a) (s1 := st) (d := d) hD hE oA1 oB1 (by omega) (by omega)
 have hc3 := sym_c2 (D := E) (E := M) (P := P ++ srt VF.src (A1 ++ B1)) (R := Q) (A1 := A2) (B1 := B2) (a := d) (s1 := en) (d := b) (by rw [hE]; simp) (by rw [hM, hAA, hBB, hsrt]; simp) oA2 oB2 (by omega) (by omega)
 refine rg [0,1,2,3,4,18,20,24] ?_
 intro k hk; simp -dsimp [go_sem, -decide_eq_true_eq, -decide_eq_false_iff_not, hw7]
 repeat' first | apply And.intro | refine hk _ ?_ | intro hg | omega | exact True.intro
 all_goals clear hk k
 refine AW.seq ?_
 rcases hc1 with ⟨j1, j2, x1, x2, x3⟩ | ⟨j1, j2, x1, x2, x3⟩ | ⟨j1, j2, x1, x2, x3⟩
 all_goals (
 refine rg [0,1,2,3,4,18,20,24,185] ?_
 intro k hk; simp -dsimp (maxSteps := 2000000) [go_sem, -decide_eq_true_eq, -decide_eq_false_iff_not, j1, j2]
 repeat' first | apply And.intro | refine hk _ ?_ | (intro hg; try simp only [decide_eq_true_eq, decide_eq_false_iff_not] at hg) | omega | exact True.intro
 all_goals clear hk k
 all_goals (
 refine AW.cond rfl ?_ ?_
 ·intro hc; try simp at hc
  all_goals try (exfalso; first | omega | contradiction; done)
  all_goals (
 refine AW.regN tiOk (fun _ => [0]) [0,1,3,4,18,20,24] (fun _ h => h) ?_
 intro k hk; simp -dsimp (maxSteps := 2000000) [go_sem, -decide_eq_true_eq, -decide_eq_false_iff_not, hDl, hEl, hMl]
 repeat' first | apply And.intro | refine hk _ ?_ | intro hg | (refine CallK.intro ((dc_rotate L D (P ++ A1) A2 B1 (B2 ++ Q) st m en (by rw [hL, hAA, hBB]; simp) (by rw [hD]; simp) x1 x2 (by rw [List.length_append]; omega) (by omega) (by omega) hn)) ?_; simp -dsimp (maxSteps := 2000000) [go_sem, -decide_eq_true_eq, -decide_eq_false_iff_not, hDl, hEl, hMl]) | omega | exact True.intro
 all_goals clear hk k
 refine AW.seq ?_
 rcases hc2 with ⟨j3, j4, y1, y2, y3⟩ | ⟨j3, j4, y1, y2, y3⟩ | ⟨j3, j4, y1, y2, y3⟩
 all_goals (
 try rw [x3]
 refine rg [0,1,3,4,18,20,24,199] ?_
 intro k hk; simp -dsimp (maxSteps := 2000000) [go_sem, -decide_eq_true_eq, -decide_eq_false_iff_not, j3, j4]
 repeat' first | apply And.intro | refine hk _ ?_ | (intro hg; try simp only [decide_eq_true_eq, decide_eq_false_iff_not] at hg) | omega | exact True.intro
 all_goals clear hk k
 all_goals (
 refine AW.cond rfl ?_ ?_
 ·intro hc; try simp at hc
  all_goals try (exfalso; first | omega | contradiction; done)
  all_goals (
 refine AW.regN tiOk (fun _ => [0]) [0,3,4,18,24] (fun _ h => h) ?_
 intro k hk; simp -dsimp (maxSteps := 2000000) [go_sem, -decide_eq_true_eq, -decide_eq_false_iff_not, hDl, hEl, hMl]
 repeat' first | apply And.intro | refine hk _ ?_ | intro hg | (refine CallK.intro ((hS D E P A1 B1 (A2 ++ B2 ++ Q) a st d hD hE oA1 oB1 y1 y2 ha (by omega) (by omega) (by omega) (by omega))) ?_; simp -dsimp (maxSteps := 2000000) [go_sem, -decide_eq_true_eq, -decide_eq_false_iff_not, hDl, hEl, hMl]) | omega | exact True.intro
 all_goals clear hk k
 rcases hc3 with ⟨j5, j6, z1, z2, z3⟩ | ⟨j5, j6, z1, z2, z3⟩ | ⟨j5, j6, z1, z2, z3⟩
 all_goals (
 try rw [y3]
 refine rg [0,3,4,18,24,213] ?_
 intro k hk; simp -dsimp (maxSteps := 2000000) [go_sem, -decide_eq_true_eq, -decide_eq_false_iff_not, j5, j6]
 repeat' first | apply And.intro | refine hk _ ?_ | (intro hg; try simp only [decide_eq_true_eq, decide_eq_false_iff_not] at hg) | omega | exact True.intro
 all_goals clear hk k
 all_goals (
 refine AW.cond rfl ?_ ?_
 ·intro hc; try simp at hc
  all_goals try (exfalso; first | omega | contradiction; done)
  all_goals (
 refine rgE (fun _ => [0]) ?_
 intro k hk; simp -dsimp (maxSteps := 2000000) [go_sem, -decide_eq_true_eq, -decide_eq_false_iff_not, hDl, hEl, hMl]
 repeat' first | apply And.intro | refine hk _ ?_ | intro hg | (refine CallK.intro ((hS E M (P ++ srt VF.src (A1 ++ B1)) A2 B2 Q d en b (by rw [hE]; simp) (by rw [hM, hAA, hBB, hsrt]; simp) oA2 oB2 z1 z2 (by rw [List.length_append, srt_len, List.length_append]; omega) (by omega) (by omega) (by omega) (by omega))) ?_; simp -dsimp (maxSteps := 2000000) [go_sem, -decide_eq_true_eq, -decide_eq_false_iff_not, hDl, hEl, hMl]) | omega | exact True.intro
 all_goals clear hk k
 refine ⟨.intro, And.intro (.inl rfl) ?_⟩
 try rw [z3]
 simp [go_sem, Try.results69, hMl])
 ·intro hc; try simp at hc
  all_goals try (exfalso; first | omega | contradiction; done)
  all_goals (
 refine AW.skip ?_
 refine And.intro (.inl rfl) ?_
 try rw [z3]
 simp [go_sem, Try.results69, hMl]))))
 ·intro hc; try simp at hc
  all_goals try (exfalso; first | omega | contradiction; done)
  all_goals (
 refine AW.skipN (fun _ h => h) ?_
 rcases hc3 with ⟨j5, j6, z1, z2, z3⟩ | ⟨j5, j6, z1, z2, z3⟩ | ⟨j5, j6, z1, z2, z3⟩
 all_goals (
 try rw [y3]
 refine rg [0,3,4,18,24,213] ?_
 intro k hk; simp -dsimp (maxSteps := 2000000) [go_sem, -decide_eq_true_eq, -decide_eq_false_iff_not, j5, j6]
 repeat' first | apply And.intro | refine hk _ ?_ | (intro hg; try simp only [decide_eq_true_eq, decide_eq_false_iff_not] at hg) | omega | exact True.intro
 all_goals clear hk k
 all_goals (
 refine AW.cond rfl ?_ ?_
 ·intro hc; try simp at hc
  all_goals try (exfalso; first | omega | contradiction; done)
  all_goals (
 refine rgE (fun _ => [0]) ?_
 intro k hk; simp -dsimp (maxSteps := 2000000) [go_sem, -decide_eq_true_eq, -decide_eq_false_iff_not, hDl, hEl, hMl]
 repeat' first | apply And.intro | refine hk _ ?_ | intro hg | (refine CallK.intro ((hS E M (P ++ srt VF.src (A1 ++ B1)) A2 B2 Q d en b (by rw [hE]; simp) (by rw [hM, hAA, hBB, hsrt]; simp) oA2 oB2 z1 z2 (by rw [List.length_append, srt_len, List.length_append]; omega) (by omega) (by omega) (by omega) (by omega))) ?_; simp -dsimp (maxSteps := 2000000) [go_sem, -decide_eq_true_eq, -decide_eq_false_iff_not, hDl, hEl, hMl]) | omega | exact True.intro
 all_goals clear hk k
 refine ⟨.intro, And.intro (.inl rfl) ?_⟩
 try rw [z3]
 simp [go_sem, Try.results69, hMl])
 ·intro hc; try simp at hc
  all_goals try (exfalso; first | omega | contradiction; done)
  all_goals (
 refine AW.skip ?_
 refine And.intro (.inl rfl) ?_
 try rw [z3]
 simp [go_sem, Try.results69, hMl])))))))
 ·intro hc; try simp at hc
  all_goals try (exfalso; first | omega | contradiction; done)
  all_goals (
 refine AW.skipN (fun _ h => h) ?_
 refine AW.seq ?_
 rcases hc2 with ⟨j3, j4, y1, y2, y3⟩ | ⟨j3, j4, y1, y2, y3⟩ | ⟨j3, j4, y1, y2, y3⟩
 all_goals (
 try rw [x3]
 refine rg [0,1,3,4,18,20,24,199] ?_
 intro k hk; simp -dsimp (maxSteps := 2000000) [go_sem, -decide_eq_true_eq, -decide_eq_false_iff_not, j3, j4]
 repeat' first | apply And.intro | refine hk _ ?_ | (intro hg; try simp only [decide_eq_true_eq, decide_eq_false_iff_not] at hg) | omega | exact True.intro
 all_goals clear hk k
 all_goals (
 refine AW.cond rfl ?_ ?_
 ·intro hc; try simp at hc
  all_goals try (exfalso; first | omega | contradiction; done)
  all_goals (
 refine AW.regN tiOk (fun _ => [0]) [0,3,4,18,24] (fun _ h => h) ?_
 intro k hk; simp -dsimp (maxSteps := 2000000) [go_sem, -decide_eq_true_eq, -decide_eq_false_iff_not, hDl, hEl, hMl]
 repeat' first | apply And.intro | refine hk _ ?_ | intro hg | (refine CallK.intro ((hS D E P A1 B1 (A2 ++ B2 ++ Q) a st d hD hE oA1 oB1 y1 y2 ha (by omega) (by omega) (by omega) (by omega))) ?_; simp -dsimp (maxSteps := 2000000) [go_sem, -decide_eq_true_eq, -decide_eq_false_iff_not, hDl, hEl, hMl]) | omega | exact True.intro
 all_goals clear hk k
 rcases hc3 with ⟨j5, j6, z1, z2, z3⟩ | ⟨j5, j6, z1, z2, z3⟩ | ⟨j5, j6, z1, z2, z3⟩
 all_goals (
 try rw [y3]
 refine rg [0,3,4,18,24,213] ?_
 intro k hk; simp -dsimp (maxSteps := 2000000) [go_sem, -decide_eq_true_eq, -decide_eq_false_iff_not, j5, j6]
 repeat' first | apply And.intro | refine hk _ ?_ | (intro hg; try simp only [decide_eq_true_eq, decide_eq_false_iff_not] at hg) | omega | exact True.intro
 all_goals clear hk k
 all_goals (
 refine AW.cond rfl ?_ ?_
 ·intro hc; try simp at hc
  all_goals try (exfalso; first | omega | contradiction; done)
  all_goals (
 refine rgE (fun _ => [0]) ?_
 intro k hk; simp -dsimp (maxSteps := 2000000) [go_sem, -decide_eq_true_eq, -decide_eq_false_iff_not, hDl, hEl, hMl]
 repeat' first | apply And.intro | refine hk _ ?_ | intro hg | (refine CallK.intro ((hS E M (P ++ srt VF.src (A1 ++ B1)) A2 B2 Q d en b (by rw [hE]; simp) (by rw [hM, hAA, hBB, hsrt]; simp) oA2 oB2 z1 z2 (by rw [List.length_append, srt_len, List.length_append]; omega) (by omega) (by omega) (by omega) (by omega))) ?_; simp -dsimp (maxSteps := 2000000) [go_sem, -decide_eq_true_eq, -decide_eq_false_iff_not, hDl, hEl, hMl]) | omega | exact True.intro
 all_goals clear hk k
 refine ⟨.intro, And.intro (.inl rfl) ?_⟩
 try rw [z3]
 simp [go_sem, Try.results69, hMl])
 ·intro hc; try simp at hc
  all_goals try (exfalso; first | omega | contradiction; done)
  all_goals (
 refine AW.skip ?_
 refine And.intro (.inl rfl) ?_
 try rw [z3]
 simp [go_sem, Try.results69, hMl]))))
 ·intro hc; try simp at hc
  all_goals try (exfalso; first | omega | contradiction; done)
  all_goals (
 refine AW.skipN (fun _ h => h) ?_
 rcases hc3 with ⟨j5, j6, z1, z2, z3⟩ | ⟨j5, j6, z1, z2, z3⟩ | ⟨j5, j6, z1, z2, z3⟩
 all_goals (
 try rw [y3]
 refine rg [0,3,4,18,24,213] ?_
 intro k hk; simp -dsimp (maxSteps := 2000000) [go_sem, -decide_eq_true_eq, -decide_eq_false_iff_not, j5, j6]
 repeat' first | apply And.intro | refine hk _ ?_ | (intro hg; try simp only [decide_eq_true_eq, decide_eq_false_iff_not] at hg) | omega | exact True.intro
 all_goals clear hk k
 all_goals (
 refine AW.cond rfl ?_ ?_
 ·intro hc; try simp at hc
  all_goals try (exfalso; first | omega | contradiction; done)
  all_goals (
 refine rgE (fun _ => [0]) ?_
 intro k hk; simp -dsimp (maxSteps := 2000000) [go_sem, -decide_eq_true_eq, -decide_eq_false_iff_not, hDl, hEl, hMl]
 repeat' first | apply And.intro | refine hk _ ?_ | intro hg | (refine CallK.intro ((hS E M (P ++ srt VF.src (A1 ++ B1)) A2 B2 Q d en b (by rw [hE]; simp) (by rw [hM, hAA, hBB, hsrt]; simp) oA2 oB2 z1 z2 (by rw [List.length_append, srt_len, List.length_append]; omega) (by omega) (by omega) (by omega) (by omega))) ?_; simp -dsimp (maxSteps := 2000000) [go_sem, -decide_eq_true_eq, -decide_eq_false_iff_not, hDl, hEl, hMl]) | omega | exact True.intro
 all_goals clear hk k
 refine ⟨.intro, And.intro (.inl rfl) ?_⟩
 try rw [z3]
 simp [go_sem, Try.results69, hMl])
 ·intro hc; try simp at hc
  all_goals try (exfalso; first | omega | contradiction; done)
  all_goals (
 refine AW.skip ?_
 refine And.intro (.inl rfl) ?_
 try rw [z3]
 simp [go_sem, Try.results69, hMl])))))))))))
 ·intro hc; try simp at hc
  all_goals try (exfalso; first | omega | contradiction; done)
  all_goals (
 skip)))
end Go.AM
