/- Joined texts: Sg Sh Sc Psq Si Sj Bg G3 F1 F2 F5 F7 G4 G5. -/
import Derived.Test.YtijoeghjkklaaaaB1
import Derived.Test.YtijoeghjkklaaaaB2
import Derived.Test.YtijoeghjkklaaaaB3
import Derived.Test.YtijoeghjkklaaaaB4
import Derived.Test.YtijoeghjkklaaaaB5
import Derived.Test.YtijoeghjkklaaaaB6
import Derived.Test.YtijoeghjkklaaaaB7
import Derived.Test.YtijoeghjkklaaaaB8
import Derived.Test.YtijoeghjkklaaaaB9
set_option linter.unusedVariables false
set_option linter.unusedSimpArgs false
set_option maxHeartbeats 600000
set_option maxRecDepth 100000
namespace Go.AM
open Go.Proofs
set_option maxHeartbeats 8000000 in
theorem dc_symMerge_d (L M P A B Q : List VF) (a m b : Nat) (hL : L = P ++ A ++ B ++ Q) (hM : M = P ++ srt VF.src (A ++ B) ++ Q) (hA : Ord VF.src A) (hB : Ord VF.src B) (hA0 : A ≠ []) (hB0 : B ≠ []) (ha : a = P.length) (hm : m = a + A.length) (hb : b = m + B.length) (hn : L.length ≤ 1048576) (f : Nat) (hS : ∀ (L M P A B Q : List VF) (a m b : Nat), L = P ++ A ++ B ++ Q → M = P ++ srt VF.src (A ++ B) ++ Q → Ord VF.src A → Ord VF.src B → A ≠ [] → B ≠ [] → a = P.length → m = a + A.length → b = m + B.length → L.length ≤ 1048576 → A.length + B.length ≤ f → DC Try.prog 69 [.osl 3 (L.map VF.row), .int .i64 (a : Nat), .int .i64 (m : Nat), .int .i64 (b : Nat), .fn 34 []] (.tup []) [(0, .osl 3 (M.map VF.row))]) (hAx : A.length ≠ 1) (hBx : B.length ≠ 1) (hf : A.length + B.length ≤ f + 1) (hmd : m ≤ (a + b) / 2) : DC Try.prog 69 [.osl 3 (L.map VF.row), .int .i64 (a : Nat), .int .i64 (m : Nat), .int .i64 (b : Nat), .fn 34 []] (.tup []) [(0, .osl 3 (M.map VF.row))] := by
 have hA1 := List.length_pos_iff.2 hA0
 have hB1 := List.length_pos_iff.2 hB0
 have hll : L.length = P.length + A.length + B.length + Q.length := by rw [hL]; simp; omega
 have hMl : M.length = L.length := by rw [hM, hL]; simp [srt_len]; omega
 have hwA : IntKind.wrap .i64 ((m : Int) - (a : Int)) = ((A.length : Nat) : Int) := by rw [wrap64 (by omega) (by omega)]; omega
 have hwB : IntKind.wrap .i64 ((b : Int) - (m : Int)) = ((B.length : Nat) : Int) := by rw [wrap64 (by omega) (by omega)]; omega
 obtain ⟨d, hd⟩ : ∃ d : Nat, d = (a + b) / 2 := ⟨_, rfl⟩
 have hw1 : IntKind.wrap .i64 ((a : Int) + (b : Int)) = (a : Int) + (b : Int) := wrap64 (by omega) (by omega)
 have hw2 : IntKind.wrap .u64 ((a : Int) + (b : Int)) = (a : Int) + (b : Int) := by simp [IntKind.wrap, IntKind.bits, IntKind.signed]; omega
 have hfd : ((a : Int) + (b : Int)).fdiv 2 = ((d : Nat) : Int) := by rw [Int.fdiv_eq_ediv_of_nonneg _ (by omega)]; omega
 have hw3 : IntKind.wrap .i64 ((d : Nat) : Int) = ((d : Nat) : Int) := wrap64 (by omega) (by omega)
 obtain ⟨n2, hn2⟩ : ∃ n2 : Nat, n2 = d + m := ⟨_, rfl⟩
 have hw4 : IntKind.wrap .i64 ((d : Int) + (m : Int)) = ((n2 : Nat) : Int) := by rw [wrap64 (by omega) (by omega)]; omega
 obtain ⟨p, hp⟩ : ∃ p : Nat, p = n2 - 1 := ⟨_, rfl⟩
 have hw5 : IntKind.wrap .i64 ((n2 : Int) - 1) = ((p : Nat) : Int) := by rw [wrap64 (by omega) (by omega)]; omega
 have hdab : a < d ∧ d < b := by omega
 obtain ⟨lo0, hi0, e20, e21, k1, k2, k3, k4, k5, k6, k7⟩ : ∃ lo0 hi0 : Nat, a = lo0 ∧ m = hi0 ∧ a ≤ lo0 ∧ lo0 ≤ hi0 ∧ hi0 ≤ m ∧ hi0 ≤ d ∧ n2 ≤ lo0 + b ∧ (lo0 = a ∨ lo0 + b = n2) ∧ (hi0 = m ∨ hi0 = d) := ⟨a, m, rfl, rfl, by omega, by omega, by omega, by omega, by omega, by omega, by omega⟩
 have hw6 := True.intro
 have hmd2 : ¬ d < m := by omega
 refine DC.intro tiOk Try.func69 rfl rfl rfl rfl rfl rfl rfl (by simp [noW, noWo]) [] ?_
 refine AW.seq ?_
 refine rg [0,1,2,3,4,28] ?_
 intro k hk; simp -dsimp [go_sem, -decide_eq_true_eq, -decide_eq_false_iff_not, hwA, hAx]
 repeat' first | apply And.intro | refine hk _ ?_ | intro hg | omega | exact True.intro
 all_goals clear hk k
 refine AW.cond rfl ?_ ?_
 ·intro hc; try simp at hc
  all_goals try (exfalso; first | omega | contradiction; done)
  all_goals (
 skip)
 ·intro hc; try simp at hc
  all_goals try (exfalso; first | omega | contradiction; done)
  all_goals (
 refine AW.skipN (fun _ h => h) ?_
 refine AW.seq ?_
 refine rg [0,1,2,3,4,80] ?_
 intro k hk; simp -dsimp [go_sem, -decide_eq_true_eq, -decide_eq_false_iff_not, hwB, hBx]
 repeat' first | apply And.intro | refine hk _ ?_ | intro hg | omega | exact True.intro
 all_goals clear hk k
 refine AW.cond rfl ?_ ?_
 ·intro hc; try simp at hc
  all_goals try (exfalso; first | omega | contradiction; done)
  all_goals (
 skip)
 ·intro hc; try simp at hc
  all_goals try (exfalso; first | omega | contradiction; done)
  all_goals (
 refine AW.skipN (fun _ h => h) ?_
 refine rg [0,1,2,3,4,18] ?_
 intro k hk; simp -dsimp (maxSteps := 2000000) [go_sem, -decide_eq_true_eq, -decide_eq_false_iff_not, hw1, hw2, hfd, hw3]
 repeat' first | apply And.intro | refine hk _ ?_ | intro hg | omega | exact True.intro
 all_goals clear hk k
 refine rg [0,1,2,3,4,18,19] ?_
 intro k hk; simp -dsimp [go_sem, -decide_eq_true_eq, -decide_eq_false_iff_not, hw4]
 repeat' first | apply And.intro | refine hk _ ?_ | intro hg | omega | exact True.intro
 all_goals clear hk k
 refine rgA [0,1,2,3,4,18,19] ?_
 refine AW.seq ?_
 refine rg [0,1,2,3,4,18,19,140] ?_
 intro k hk; simp -dsimp [go_sem, -decide_eq_true_eq, -decide_eq_false_iff_not, hmd2]
 repeat' first | apply And.intro | refine hk _ ?_ | intro hg | omega | exact True.intro
 all_goals clear hk k
 refine AW.cond rfl ?_ ?_
 ·intro hc; try simp at hc
  all_goals try (exfalso; first | omega | contradiction; done)
  all_goals (
 skip)
 ·intro hc; try simp at hc
  all_goals try (exfalso; first | omega | contradiction; done)
  all_goals (
 refine rgA [0,1,2,3,4,18,19,20] ?_
 refine rgNA [0,1,2,3,4,18,19,20,21] (fun _ h => h) ?_
 refine rg [0,1,2,3,4,18,19,20,21,22] ?_
 intro k hk; simp -dsimp [go_sem, -decide_eq_true_eq, -decide_eq_false_iff_not, hw5]
 repeat' first | apply And.intro | refine hk _ ?_ | intro hg | omega | exact True.intro
 all_goals clear hk k
 refine AW.seq ?_
 refine AW.block ?_
 refine AW.loopI (fun q : Nat × Nat => ⟨220, [(0, .sl 1900 3 0 L.length), (1, .int .i64 (a : Nat)), (2, .int .i64 (m : Nat)), (3, .int .i64 (b : Nat)), (4, .fn 34 []), (18, .int .i64 (d : Nat)), (19, .int .i64 (n2 : Nat)), (20, .int .i64 (q.1 : Nat)), (21, .int .i64 (q.2 : Nat)), (22, .int .i64 (p : Nat))], [(1900, some ⟨3, L.map VF.row⟩)]⟩) (fun q => lo0 ≤ q.1 ∧ q.1 ≤ q.2 ∧ q.2 ≤ hi0 ∧ (q.1 = lo0 ∨ leQ A B (q.1 - a - 1) (d - q.1)) ∧ (q.2 = hi0 ∨ ltQ A B (q.2 - a) (d - 1 - q.2))) (fun q => q.2 - q.1) ((lo0, hi0)) (⟨Nat.le_refl _, by simp only; omega, Nat.le_refl _, Or.inl rfl, Or.inl rfl⟩) (Less.of rfl (by simp [go_sem, e20, e21]) (by simp [go_sem])) ?_
 rintro ⟨st, r⟩ ⟨q1, q2, q3, q4, q5⟩
 simp only at q1 q2 q3 q4 q5
 refine AW.seq ?_
 refine rgA [0,1,2,3,4,18,19,20,21,22,151] ?_
 refine AW.cond rfl ?_ ?_
 ·intro hc; try simp at hc
  all_goals try (exfalso; first | omega | contradiction; done)
  all_goals (
 have hlt : st < r := by first | assumption | omega
 obtain ⟨c, hc⟩ : ∃ c : Nat, c = (st + r) / 2 := ⟨_, rfl⟩
 have hv1 : IntKind.wrap .i64 ((st : Int) + (r : Int)) = (st : Int) + (r : Int) := wrap64 (by omega) (by omega)
 have hv2 : IntKind.wrap .u64 ((st : Int) + (r : Int)) = (st : Int) + (r : Int) := by simp [IntKind.wrap, IntKind.bits, IntKind.signed]; omega
 have hfv : ((st : Int) + (r : Int)).fdiv 2 = ((c : Nat) : Int) := by rw [Int.fdiv_eq_ediv_of_nonneg _ (by omega)]; omega
 have hv3 : IntKind.wrap .i64 ((c : Nat) : Int) = ((c : Nat) : Int) := wrap64 (by omega) (by omega)
 obtain ⟨u, hu⟩ := at_some (l := A) (i := c - a) (by omega)
 obtain ⟨v, hv⟩ := at_some (l := B) (i := d - 1 - c) (by omega)
 obtain ⟨w, hw⟩ : ∃ w : Nat, w = p - c := ⟨_, rfl⟩
 have hv4 : IntKind.wrap .i64 ((p : Int) - (c : Int)) = ((w : Nat) : Int) := by rw [wrap64 (by omega) (by omega)]; omega
 have g1 : L[w]? = some v := by rw [hL]; exact at_two hv (by omega)
 have g2 : L[c]? = some u := by rw [hL]; exact at_one hu (by omega)
 have g3 := gel g1
 have g4 := gel g2
 have g5 := at_lt g1
 have g6 := at_lt g2
 obtain ⟨c1, hc1⟩ : ∃ c1 : Nat, c1 = c + 1 := ⟨_, rfl⟩
 have hv5 : IntKind.wrap .i64 ((c : Int) + 1) = ((c1 : Nat) : Int) := by rw [wrap64 (by omega) (by omega)]; omega
 refine AW.skipN (fun _ h => h) ?_
 refine AW.block ?_
 refine rg [0,1,2,3,4,18,19,20,21,22,23] ?_
 intro k hk; simp -dsimp (maxSteps := 2000000) [go_sem, -decide_eq_true_eq, -decide_eq_false_iff_not, hv1, hv2, hfv, hv3]
 repeat' first | apply And.intro | refine hk _ ?_ | intro hg | omega | exact True.intro
 all_goals clear hk k
 refine rg [0,1,2,3,4,18,19,20,21,22,23,171] ?_
 intro k hk; simp -dsimp (maxSteps := 2000000) [go_sem, -decide_eq_true_eq, -decide_eq_false_iff_not, hv4, g1, g2, g3, g4, g5, g6, cmpI_neg]
 repeat' first | ((refine Chk.keys ?_); simp only [go_sem, List.map_cons, List.map_nil, List.flatMap_cons, List.flatMap_nil, List.flatMap_append, List.append_nil, List.nil_append, List.cons_append]; decide +kernel) | apply And.intro | refine hk _ ?_ | intro hg | (refine CallK.intro (dc_impl_graphOf_1 v u) ?_; simp -dsimp (maxSteps := 2000000) [go_sem, -decide_eq_true_eq, -decide_eq_false_iff_not, hv4, g1, g2, g3, g4, g5, g6, cmpI_neg]) | omega | exact True.intro
 all_goals clear hk k
 refine AW.cond rfl ?_ ?_
 ·intro hc; try simp at hc
  all_goals try (exfalso; first | omega | contradiction; done)
  all_goals (
 refine rgK ?_
 intro k hk; simp -dsimp [go_sem, -decide_eq_true_eq, -decide_eq_false_iff_not, hv5]
 repeat' first | apply And.intro | refine hk _ ?_ | intro hg | omega | exact True.intro
 all_goals clear hk k
 show ∃ _, _
 first | (have hzx : u.src ≤ v.src := (by first | assumption | omega | (simp at hc; omega)); refine ⟨(c1, r), ⟨by simp only; omega, by simp only; omega, q3, Or.inr (leQ_mk hu hv hzx (by simp only; omega) (by simp only; omega)), q5⟩, by simp only; omega, Less.of rfl (by simp [go_sem]) (by simp [go_sem])⟩) | (have hzx : v.src < u.src := (by first | assumption | omega | (simp at hc; omega)); refine ⟨(st, c), ⟨q1, by simp only; omega, by simp only; omega, q4, Or.inr (ltQ_mk hu hv hzx)⟩, by simp only; omega, Less.of rfl (by simp [go_sem]) (by simp [go_sem])⟩))
 ·intro hc; try simp at hc
  all_goals try (exfalso; first | omega | contradiction; done)
  all_goals (
 refine rgKA ?_
 show ∃ _, _
 first | (have hzx : u.src ≤ v.src := (by first | assumption | omega | (simp at hc; omega)); refine ⟨(c1, r), ⟨by simp only; omega, by simp only; omega, q3, Or.inr (leQ_mk hu hv hzx (by simp only; omega) (by simp only; omega)), q5⟩, by simp only; omega, Less.of rfl (by simp [go_sem]) (by simp [go_sem])⟩) | (have hzx : v.src < u.src := (by first | assumption | omega | (simp at hc; omega)); refine ⟨(st, c), ⟨q1, by simp only; omega, by simp only; omega, q4, Or.inr (ltQ_mk hu hv hzx)⟩, by simp only; omega, Less.of rfl (by simp [go_sem]) (by simp [go_sem])⟩)))
 ·intro hc; try simp at hc
  all_goals try (exfalso; first | omega | contradiction; done)
  all_goals (
 refine AW.exitN (fun _ h => h) ?_
 obtain rfl : st = r := (by omega)
 obtain ⟨en, hen⟩ : ∃ en : Nat, en = n2 - st := ⟨_, rfl⟩
 have hw7 : IntKind.wrap .i64 ((n2 : Int) - (st : Int)) = ((en : Nat) : Int) := by rw [wrap64 (by omega) (by omega)]; omega
 obtain ⟨A1, A2, B1, B2, hAA, hBB, l1, l2, o1, o2⟩ := sym_end2 hA hB (a := a) (d := d) (st := st) (m := m) (b := b) (by omega) (by omega) (by omega) (by omega) hm hb hn2 k6 k7 q4 q5
 have hq : a ≤ st ∧ st ≤ m ∧ st ≤ d ∧ n2 ≤ st + b := by omega
 clear q1 q2 q3 q4 q5 k1 k2 k3 k4 k5 k6 k7 hw1 hw2 hw3 hfd e20 e21 hwA hwB hmd2
 have lA : A.length = A1.length + A2.length := by rw [hAA, List.length_append]
 have lB : B.length = B1.length + B2.length := by rw [hBB, List.length_append]
 have oA := hA
 have oB := hB
 rw [hAA] at oA
 rw [hBB] at oB
 have oA1 := (ord_app.1 oA).1
 have oA2 := (ord_app.1 oA).2.1
 have oB1 := (ord_app.1 oB).1
 have oB2 := (ord_app.1 oB).2.1
 have hsrt := srt_half oA oB o1 o2
 obtain ⟨D, hD⟩ : ∃ D, D = P ++ A1 ++ B1 ++ (A2 ++ B2 ++ Q) := ⟨_, rfl⟩
 obtain ⟨E, hE⟩ : ∃ E, E = P ++ srt VF.src (A1 ++ B1) ++ (A2 ++ B2 ++ Q) := ⟨_, rfl⟩
 have hDl : D.length = L.length := by rw [hD, hll]; simp; omega
 have hEl : E.length = L.length := by rw [hE, hll]; simp [srt_len]; omega
 have hc1 := sym_c1 (L := L) (D := D) (P := P) (Q := Q) (A1 := A1) (A2 := A2) (B1 := B1) (B2 := B2) (s1 := st) (m := m) (en := en) (by rw [hL, hAA, hBB]) hD (by omega) (by omega)
 have hc2 := sym_c2 (D := D) (E := E) (P := P) (R := A2 ++ B2 ++ Q) (A1 := A1) (B1 := B1) (a := a) (s1 := st) (d := d) hD hE oA1 oB1 (by omega) (by omega)
 have hc3 := sym_c2 (D := E) (E := M) (P := P ++ srt VF.src (A1 ++ B1)) (R := Q) (A1 := A2) (B1 := B2) (a := d) (s1 := en) (d := b) (by rw [hE]; simp) (by rw [hM, hAA, hBB, hsrt]; simp) oA2 oB2 (by omega) (by omega)
 refine rg [0,1,2,3,4,18,20,24] ?_
 intro k hk; simp -dsimp [go_sem, -decide_eq_true_eq, -decide_eq_false_iff_not, hw7]
 repeat' first | apply And.intro | refine hk _ ?_ | intro hg | omega | exact True.intro
 all_goals clear hk k
 refine AW.seq ?_
 rcases hc1 with ⟨j1, j2, x1, x2, x3⟩ | ⟨j1, j2, x1, x2, x3⟩ | ⟨j1, j2, x1, x2, x3⟩
 all_goals (
 refine rg [0,1,2,3,4,18,20,24,185] ?_
 intro k hk; simp -dsimp (maxSteps := 2000000) [go_sem, -decide_eq_true_eq, -decide_eq_false_iff_not, j1, j2]
 repeat' first | apply And.intro | refine hk _ ?_ | (intro hg; try simp only [decide_eq_true_eq, decide_eq_false_iff_not] at hg) | omega | exact True.intro
 all_goals clear hk k
 all_goals (
 refine AW.cond rfl ?_ ?_
 ·intro hc; try simp at hc
  all_goals try (exfalso; first | omega | contradiction; done)
  all_goals (
 refine AW.regN tiOk (fun _ => [0]) [0,1,3,4,18,20,24] (fun _ h => h) ?_
 intro k hk; simp -dsimp (maxSteps := 2000000) [go_sem, -decide_eq_true_eq, -decide_eq_false_iff_not, hDl, hEl, hMl]
 repeat' first | apply And.intro | refine hk _ ?_ | intro hg | (refine CallK.intro ((dc_rotate L D (P ++ A1) A2 B1 (B2 ++ Q) st m en (by rw [hL, hAA, hBB]; simp) (by rw [hD]; simp) x1 x2 (by rw [List.length_append]; omega) (by omega) (by omega) hn)) ?_; simp -dsimp (maxSteps := 2000000) [go_sem, -decide_eq_true_eq, -decide_eq_false_iff_not, hDl, hEl, hMl]) | omega | exact True.intro
 all_goals clear hk k
 refine AW.seq ?_
 rcases hc2 with ⟨j3, j4, y1, y2, y3⟩ | ⟨j3, j4, y1, y2, y3⟩ | ⟨j3, j4, y1, y2, y3⟩
 all_goals (
 try rw [x3]
 refine rg [0,1,3,4,18,20,24,199] ?_
 intro k hk; simp -dsimp (maxSteps := 2000000) [go_sem, -decide_eq_true_eq, -decide_eq_false_iff_not, j3, j4]
 repeat' first | apply And.intro | refine hk _ ?_ | (intro hg; try simp only [decide_eq_true_eq, decide_eq_false_iff_not] at hg) | omega | exact True.intro
 all_goals clear hk k
 all_goals (
 refine AW.cond rfl ?_ ?_
 ·intro hc; try simp at hc
  all_goals try (exfalso; first | omega | contradiction; done)
  all_goals (
 refine AW.regN tiOk (fun _ => [0]) [0,3,4,18,24] (fun _ h => h) ?_
 intro k hk; simp -dsimp (maxSteps := 2000000) [go_sem, -decide_eq_true_eq, -decide_eq_false_iff_not, hDl, hEl, hMl]
 repeat' first | apply And.intro | refine hk _ ?_ | intro hg | (refine CallK.intro ((hS D E P A1 B1 (A2 ++ B2 ++ Q) a st d hD hE oA1 oB1 y1 y2 ha (by omega) (by omega) (by omega) (by omega))) ?_; simp -dsimp (maxSteps := 2000000) [go_sem, -decide_eq_true_eq, -decide_eq_false_iff_not, hDl, hEl, hMl]) | omega | exact True.intro
 all_goals clear hk k
 rcases hc3 with ⟨j5, j6, z1, z2, z3⟩ | ⟨j5, j6, z1, z2, z3⟩ | ⟨j5, j6, z1, z2, z3⟩
 all_goals (
 try rw [y3]
 refine rg [0,3,4,18,24,213] ?_
 intro k hk; simp -dsimp (maxSteps := 2000000) [go_sem, -decide_eq_true_eq, -decide_eq_false_iff_not, j5, j6]
 repeat' first | apply And.intro | refine hk _ ?_ | (intro hg; try simp only [decide_eq_true_eq, decide_eq_false_iff_not] at hg) | omega | exact True.intro
 all_goals clear hk k
 all_goals (
 refine AW.cond rfl ?_ ?_
 ·intro hc; try simp at hc
  all_goals try (exfalso; first | omega | contradiction; done)
  all_goals (
 refine rgE (fun _ => [0]) ?_
 intro k hk; simp -dsimp (maxSteps := 2000000) [go_sem, -decide_eq_true_eq, -decide_eq_false_iff_not, hDl, hEl, hMl]
 repeat' first | apply And.intro | refine hk _ ?_ | intro hg | (refine CallK.intro ((hS E M (P ++ srt VF.src (A1 ++ B1)) A2 B2 Q d en b (by rw [hE]; simp) (by rw [hM, hAA, hBB, hsrt]; simp) oA2 oB2 z1 z2 (by rw [List.length_append, srt_len, List.length_append]; omega) (by omega) (by omega) (by omega) (by omega))) ?_; simp -dsimp (maxSteps := 2000000) [go_sem, -decide_eq_true_eq, -decide_eq_false_iff_not, hDl, hEl, hMl]) | omega | exact True.intro
 all_goals clear hk k
 refine ⟨.intro, And.intro (.inl rfl) ?_⟩
 try rw [z3]
 simp [go_sem, Try.results69, hMl])
 ·intro hc; try simp at hc
  all_goals try (exfalso; first | omega | contradiction; done)
  all_goals (
 refine AW.skip ?_
 refine And.intro (.inl rfl) ?_
 try rw [z3]
 simp [go_sem, Try.results69, hMl]))))
 ·intro hc; try simp at hc
  all_goals try (exfalso; first | omega | contradiction; done)
  all_goals (
 refine AW.skipN (fun _ h => h) ?_
 rcases hc3 with ⟨j5, j6, z1, z2, z3⟩ | ⟨j5, j6, z1, z2, z3⟩ | ⟨j5, j6, z1, z2, z3⟩
 all_goals (
 try rw [y3]
 refine rg [0,3,4,18,24,213] ?_
 intro k hk; simp -dsimp (maxSteps := 2000000) [go_sem, -decide_eq_true_eq, -decide_eq_false_iff_not, j5, j6]
 repeat' first | apply And.intro | refine hk _ ?_ | (intro hg; try simp only [decide_eq_true_eq, decide_eq_false_iff_not] at hg) | omega | exact True.intro
 all_goals clear hk k
 all_goals (
 refine AW.cond rfl ?_ ?_
 ·intro hc; try simp at hc
  all_goals try (exfalso; first | omega | contradiction; done)
  all_goals (
 refine rgE (fun _ => [0]) ?_
 intro k hk; simp -dsimp (maxSteps := 2000000) [go_sem, -decide_eq_true_eq, -decide_eq_false_iff_not, hDl, hEl, hMl]
 repeat' first | apply And.intro | refine hk _ ?_ | intro hg | (refine CallK.intro ((hS E M (P ++ srt VF.src (A1 ++ B1)) A2 B2 Q d en b (by rw [hE]; simp) (by rw [hM, hAA, hBB, hsrt]; simp) oA2 oB2 z1 z2 (by rw [List.length_append, srt_len, List.length_append]; omega) (by omega) (by omega) (by omega) (by omega))) ?_; simp -dsimp (maxSteps := 2000000) [go_sem, -decide_eq_true_eq, -decide_eq_false_iff_not, hDl, hEl, hMl]) | omega | exact True.intro
 all_goals clear hk k
 refine ⟨.intro, And.intro (.inl rfl) ?_⟩
 try rw [z3]
 simp [go_sem, Try.results69, hMl])
 ·intro hc; try simp at hc
  all_goals try (exfalso; first | omega | contradiction; done)
  all_goals (
 refine AW.skip ?_
 refine And.intro (.inl rfl) ?_
 try rw [z3]
 simp [go_sem, Try.results69, hMl])))))))
 ·intro hc; try simp at hc
  all_goals try (exfalso; first | omega | contradiction; done)
  all_goals (
 refine AW.skipN (fun _ h => h) ?_
 refine AW.seq ?_
 rcases hc2 with ⟨j3, j4, y1, y2, y3⟩ | ⟨j3, j4, y1, y2, y3⟩ | ⟨j3, j4, y1, y2, y3⟩
 all_goals (
 try rw [x3]
 refine rg [0,1,3,4,18,20,24,199] ?_
 intro k hk; simp -dsimp (maxSteps := 2000000) [go_sem, -decide_eq_true_eq, -decide_eq_false_iff_not, j3, j4]
 repeat' first | apply And.intro | refine hk _ ?_ | (intro hg; try simp only [decide_eq_true_eq, decide_eq_false_iff_not] at hg) | omega | exact True.intro
 all_goals clear hk k
 all_goals (
 refine AW.cond rfl ?_ ?_
 ·intro hc; try simp at hc
  all_goals try (exfalso; first | omega | contradiction; done)
  all_goals (
 refine AW.regN tiOk (fun _ => [0]) [0,3,4,18,24] (fun _ h => h) ?_
 intro k hk; simp -dsimp (maxSteps := 2000000) [go_sem, -decide_eq_true_eq, -decide_eq_false_iff_not, hDl, hEl, hMl]
 repeat' first | apply And.intro | refine hk _ ?_ | intro hg | (refine CallK.intro ((hS D E P A1 B1 (A2 ++ B2 ++ Q) a st d hD hE oA1 oB1 y1 y2 ha (by omega) (by omega) (by omega) (by omega))) ?_; simp -dsimp (maxSteps := 2000000) [go_sem, -decide_eq_true_eq, -decide_eq_false_iff_not, hDl, hEl, hMl]) | omega | exact True.intro
 all_goals clear hk k
 rcases hc3 with ⟨j5, j6, z1, z2, z3⟩ | ⟨j5, j6, z1, z2, z3⟩ | ⟨j5, j6, z1, z2, z3⟩
 all_goals (
 try rw [y3]
 refine rg [0,3,4,18,24,213] ?_
 intro k hk; simp -dsimp (maxSteps := 2000000) [go_sem, -decide_eq_true_eq, -decide_eq_false_iff_not, j5, j6]
 repeat' first | apply And.intro | refine hk _ ?_ | (intro hg; try simp only [decide_eq_true_eq, decide_eq_false_iff_not] at hg) | omega | exact True.intro
 all_goals clear hk k
 all_goals (
 refine AW.cond rfl ?_ ?_
 ·intro hc; try simp at hc
  all_goals try (exfalso; first | omega | contradiction; done)
  all_goals (
 refine rgE (fun _ => [0]) ?_
 intro k hk; simp -dsimp (maxSteps := 2000000) [go_sem, -decide_eq_true_eq, -decide_eq_false_iff_not, hDl, hEl, hMl]
 repeat' first | apply And.intro | refine hk _ ?_ | intro hg | (refine CallK.intro ((hS E M (P ++ srt VF.src (A1 ++ B1)) A2 B2 Q d en b (by rw [hE]; simp) (by rw [hM, hAA, hBB, hsrt]; simp) oA2 oB2 z1 z2 (by rw [List.length_append, srt_len, List.length_append]; omega) (by omega) (by omega) (by omega) (by omega))) ?_; simp -dsimp (maxSteps := 2000000) [go_sem, -decide_eq_true_eq, -decide_eq_false_iff_not, hDl, hEl, hMl]) | omega | exact True.intro
 all_goals clear hk k
 refine ⟨.intro, And.intro (.inl rfl) ?_⟩
 try rw [z3]
 simp [go_sem, Try.results69, hMl])
 ·intro hc; try simp at hc
  all_goals try (exfalso; first | omega | contradiction; done)
  all_goals (
 refine AW.skip ?_
 refine And.intro (.inl rfl) ?_
 try rw [z3]
 simp [go_sem, Try.results69, hMl]))))
 ·intro hc; try simp at hc
  all_goals try (exfalso; first | omega | contradiction; done)
  all_goals (
 refine AW.skipN (fun _ h => h) ?_
 rcases hc3 with ⟨j5, j6, z1, z2, z3⟩ | ⟨j5, j6, z1, z2, z3⟩ | ⟨j5, j6, z1, z2, z3⟩
 all_goals (
 try rw [y3]
 refine rg [0,3,4,18,24,213] ?_
 intro k hk; simp -dsimp (maxSteps := 2000000) [go_sem, -decide_eq_true_eq, -decide_eq_false_iff_not, j5, j6]
 repeat' first | apply And.intro | refine hk _ ?_ | (intro hg; try simp only [decide_eq_true_eq, decide_eq_false_iff_not] at hg) | omega | exact True.intro
 all_goals clear hk k
 all_goals (
 refine AW.cond rfl ?_ ?_
 ·intro hc; try simp at hc
  all_goals try (exfalso; first | omega | contradiction; done)
  all_goals (
 refine rgE (fun _ => [0]) ?_
 intro k hk; simp -dsimp (maxSteps := 2000000) [go_sem, -decide_eq_true_eq, -decide_eq_false_iff_not, hDl, hEl, hMl]
 repeat' first | apply And.intro | refine hk _ ?_ | intro hg | (refine CallK.intro ((hS E M (P ++ srt VF.src (A1 ++ B1)) A2 B2 Q d en b (by rw [hE]; simp) (by rw [hM, hAA, hBB, hsrt]; simp) oA2 oB2 z1 z2 (by rw [List.length_append, srt_len, List.length_append]; omega) (by omega) (by omega) (by omega) (by omega))) ?_; simp -dsimp (maxSteps := 2000000) [go_sem, -decide_eq_true_eq, -decide_eq_false_iff_not, hDl, hEl, hMl]) | omega | exact True.intro
 all_goals clear hk k
 refine ⟨.intro, And.intro (.inl rfl) ?_⟩
 try rw [z3]
 simp [go_sem, Try.results69, hMl])
 ·intro hc; try simp at hc
  all_goals try (exfalso; first | omega | contradiction; done)
  all_goals (
 refine AW.skip ?_
 refine And.intro (.inl rfl) ?_
 try rw [z3]
 simp [go_sem, Try.results69, hMl])))))))))))))
end Go.AM
namespace Go.AM
open Go.Proofs
theorem dc_symMerge : ∀ (f : Nat) (L M P A B Q : List VF) (a m b : Nat), L = P ++ A ++ B ++ Q → M = P ++ srt VF.src (A ++ B) ++ Q → Ord VF.src A → Ord VF.src B → A ≠ [] → B ≠ [] → a = P.length → m = a + A.length → b = m + B.length → L.length ≤ 1048576 → A.length + B.length ≤ f → DC Try.prog 69 [.osl 3 (L.map VF.row), .int .i64 (a : Nat), .int .i64 (m : Nat), .int .i64 (b : Nat), .fn 34 []] (.tup []) [(0, .osl 3 (M.map VF.row))] := by
 intro f
 induction f with
 | zero =>
  intro L M P A B Q a m b hL hM hA hB hA0 hB0 ha hm hb hn hf
  exact absurd (List.eq_nil_of_length_eq_zero (show A.length = 0 by omega)) hA0
 | succ f ih =>
  intro L M P A B Q a m b hL hM hA hB hA0 hB0 ha hm hb hn hf
  by_cases h1 : A.length = 1
  · exact dc_symMerge_a L M P A B Q a m b hL hM hA hB hA0 hB0 ha hm hb hn h1
  by_cases h2 : B.length = 1
  · exact dc_symMerge_b L M P A B Q a m b hL hM hA hB hA0 hB0 ha hm hb hn h1 h2
  by_cases h3 : (a + b) / 2 < m
  · exact dc_symMerge_c L M P A B Q a m b hL hM hA hB hA0 hB0 ha hm hb hn f ih h1 h2 hf h3
  · exact dc_symMerge_d L M P A B Q a m b hL hM hA hB hA0 hB0 ha hm hb hn f ih h1 h2 hf (by omega)
end Go.AM
namespace Go.AM
open Go.Proofs
theorem dc_insertion (L M P A Q : List VF) (a b : Nat) (hL : L = P ++ A ++ Q) (hM : M = P ++ srt VF.src A ++ Q) (ha : a = P.length) (hb : b = a + A.length) (hn : L.length ≤ 1048576) : DC Try.prog 68 [.osl 3 (L.map VF.row), .int .i64 (a : Nat), .int .i64 (b : Nat), .fn 34 []] (.tup []) [(0, .osl 3 (M.map VF.row))] := by
 have hll : L.length = P.length + A.length + Q.length := by rw [hL]; simp; omega
 have hMl : M.length = L.length := by rw [hM, hL]; simp [srt_len]
 obtain ⟨e0, he0⟩ : ∃ e0 : Nat, e0 = a + 1 := ⟨_, rfl⟩
 have hw0 : IntKind.wrap .i64 ((a : Int) + 1) = ((e0 : Nat) : Int) := by rw [wrap64 (by omega) (by omega)]; omega
 refine DC.intro tiOk Try.func68 rfl rfl rfl rfl rfl rfl rfl (by simp [noW, noWo]) [] ?_
 refine rg [0,1,2,3,8] ?_
 intro k hk; simp -dsimp [go_sem, -decide_eq_true_eq, -decide_eq_false_iff_not, hw0]
 repeat' first | apply And.intro | refine hk _ ?_ | intro hg | omega | exact True.intro
 all_goals clear hk k
 refine AW.block ?_
 refine AW.loopI (fun q : List VF × Nat => ⟨53, [(0, .sl 1900 3 0 L.length), (1, .int .i64 (a : Nat)), (2, .int .i64 (b : Nat)), (3, .fn 34 []), (8, .int .i64 (q.2 : Nat))], [(1900, some ⟨3, q.1.map VF.row⟩)]⟩) (fun q => q.1 = P ++ (srt VF.src (A.take (q.2 - a)) ++ A.drop (q.2 - a)) ++ Q ∧ a + 1 ≤ q.2 ∧ q.1.length = L.length) (fun q => b - q.2) ((L, e0)) (⟨by simp only; rw [hL, he0, Nat.add_sub_cancel_left, ins_zero], by simp only; omega, rfl⟩) (Less.of rfl (by simp [go_sem, hw0]) (by simp [go_sem])) ?_
 rintro ⟨C, e⟩ ⟨hC, hae, hCl⟩
 simp only at hC hae hCl
 refine AW.seq ?_
 refine rgA [0,1,2,3,8,14] ?_
 refine AW.cond rfl ?_ ?_
 ·intro hc; try simp at hc
  all_goals try (exfalso; omega; done)
  all_goals (
 have hlt : e < b := by first | assumption | omega
 obtain ⟨x, hx⟩ := at_some (l := A) (i := e - a) (by omega)
 obtain ⟨R, hR⟩ : ∃ R, R = A.drop (e - a + 1) ++ Q := ⟨_, rfl⟩
 obtain ⟨S0, hS0⟩ : ∃ S0, S0 = srt VF.src (A.take (e - a)) := ⟨_, rfl⟩
 have hS1 : S0.length = e - a := by rw [hS0, srt_len, List.length_take]; omega
 rw [ins_form hx, ← hR, ← hS0] at hC
 obtain ⟨e1, he1⟩ : ∃ e1 : Nat, e1 = e + 1 := ⟨_, rfl⟩
 have hw9 : IntKind.wrap .i64 ((e : Int) + 1) = ((e1 : Nat) : Int) := by rw [wrap64 (by omega) (by omega)]; omega
 refine AW.skipN (fun _ h => h) ?_
 refine AW.seq ?_
 refine AW.block ?_
 refine rgA [0,1,2,3,8,9] ?_
 refine AW.block ?_
 refine AW.loopI (fun q : List VF × List VF × List VF × Nat => ⟨53, [(0, .sl 1900 3 0 L.length), (1, .int .i64 (a : Nat)), (2, .int .i64 (b : Nat)), (3, .fn 34 []), (8, .int .i64 (e : Nat)), (9, .int .i64 (q.2.2.2 : Nat))], [(1900, some ⟨3, q.1.map VF.row⟩)]⟩) (fun q => q.1 = P ++ q.2.1 ++ x :: (q.2.2.1 ++ R) ∧ S0 = q.2.1 ++ q.2.2.1 ∧ (∀ y ∈ q.2.2.1, x.src < y.src) ∧ q.2.2.2 = P.length + q.2.1.length ∧ q.1.length = L.length) (fun q => q.2.1.length) ((C, S0, [], e)) (⟨hC, by simp, by simp, by simp only; omega, hCl⟩) (Less.of rfl (by simp [go_sem]) (by simp [go_sem])) ?_
 rintro ⟨C2, U, W, j⟩ ⟨hC2, hUW, hW, hj, hC2l⟩
 simp only at hC2 hUW hW hj hC2l
 have hcs := ins_look (a := a) hC2 ha hj (by omega)
 have hSU : S0.length = U.length + W.length := by rw [hUW, List.length_append]
 have hlj : j < L.length := by omega
 refine AW.seq ?_
 rcases hcs with ⟨U', y, i1, hU, h1, h2, g1, g2, g3, hw, g4, g5, g6, g7, g8⟩ | ⟨hU, h1, U', y, i1, h2, g1, g2, g3, hw, g4, g5, g6, g7, g8⟩
 all_goals (
 have hli : i1 < L.length ∨ True := Or.inr True.intro
 refine rg [0,1,2,3,8,9,34] ?_
 intro k hk; simp -dsimp (maxSteps := 2000000) [go_sem, -decide_eq_true_eq, -decide_eq_false_iff_not, h1, hw, g1, g2, g4, g5, g6, g7, g8, cmpI_neg, hlj, hli]
 repeat' first | ((refine Chk.keys ?_); simp only [go_sem, List.map_cons, List.map_nil, List.flatMap_cons, List.flatMap_nil, List.flatMap_append, List.append_nil, List.nil_append, List.cons_append]; decide +kernel) | apply And.intro | refine hk _ ?_ | (intro hg; try simp only [decide_eq_true_eq, decide_eq_false_iff_not] at hg) | (refine CallK.intro (dc_impl_graphOf_1 x y) ?_; simp -dsimp (maxSteps := 2000000) [go_sem, -decide_eq_true_eq, -decide_eq_false_iff_not, h1, hw, g1, g2, g4, g5, g6, g7, g8, cmpI_neg, hlj, hli]) | omega | exact True.intro
 all_goals clear hk k
 all_goals (
 refine AW.cond rfl ?_ ?_
 ·intro hc; try simp at hc
  all_goals try (exfalso; omega; done)
  all_goals (
 refine AW.skipN (fun _ h => h) ?_
 refine AW.seq ?_
 refine AW.block ?_
 refine rgN [0,1,2,3,8,9] (fun _ h => h) ?_
 intro k hk; simp -dsimp (maxSteps := 2000000) [go_sem, -decide_eq_true_eq, -decide_eq_false_iff_not, hw, g1, g2, g4, g5, g6, g7, g8, hlj, hli]
 repeat' first | ((refine Chk.keys ?_); simp only [go_sem, List.map_cons, List.map_nil, List.flatMap_cons, List.flatMap_nil, List.flatMap_append, List.append_nil, List.nil_append, List.cons_append]; decide +kernel) | apply And.intro | refine hk _ ?_ | intro hg | omega | exact True.intro
 all_goals clear hk k
 refine rgK ?_
 intro k hk; simp -dsimp [go_sem, -decide_eq_true_eq, -decide_eq_false_iff_not, hw]
 repeat' first | apply And.intro | refine hk _ ?_ | intro hg | omega | exact True.intro
 all_goals clear hk k
 show ∃ _, _
 refine ⟨(P ++ U' ++ x :: (y :: W ++ R), U', y :: W, i1), ⟨rfl, by simp only; rw [hUW, hU]; simp, ?_, ?_, ?_⟩, ?_, Less.of rfl (by simp [go_sem]) (by simp only [sw_rows g3]; simp [go_sem, sw_rows g3])⟩
 ·intro z hz; rcases List.mem_cons.1 hz with rfl | hz <;> first | assumption | exact hW z hz | (simp at hc; omega)
 ·simp only; rw [hU, List.length_append, List.length_singleton] at hj; omega
 ·simp only; rw [← g3]; simp; omega
 ·simp only; rw [hU, List.length_append, List.length_singleton]; omega)
 ·intro hc; try simp at hc
  all_goals try (exfalso; omega; done)
  all_goals (
 refine AW.exitN (fun _ h => h) ?_
 have hord : Ord VF.src S0 := by rw [hS0]; exact srt_ord _
 have hle : ∀ z ∈ U, z.src ≤ x.src := ins_le (by rw [hUW] at hord; exact (ord_app.1 hord).1) (by intro U2 y2 h9; rw [hU] at h9; first | (have h8 := List.append_inj' h9 rfl; have h7 := List.singleton_inj.1 h8.2; rw [← h7]; first | omega | (simp at hc; omega)) | (simp at h9))
 have hout := ins_out (P := P) (Q := Q) hx (by rw [← hS0]; exact hUW) hle hW
 rw [← hR, ← hC2] at hout
 have h9 : e1 - a = e - a + 1 := by omega
 rw [← h9] at hout
 refine rgK ?_
 intro k hk; simp -dsimp [go_sem, -decide_eq_true_eq, -decide_eq_false_iff_not, hw9]
 repeat' first | apply And.intro | refine hk _ ?_ | intro hg | omega | exact True.intro
 all_goals clear hk k
 show ∃ _, _
 refine ⟨(C2, e1), ⟨hout, by simp only; omega, hC2l⟩, by simp only; omega, Less.of rfl (by simp [go_sem]) (by simp [go_sem])⟩))))
 ·intro hc; try simp at hc
  all_goals try (exfalso; omega; done)
  all_goals (
 refine AW.exit ?_
 refine And.intro (.inl rfl) ?_
 have hfi : C = M := by rw [hC, hM, List.take_of_length_le (by omega), List.drop_of_length_le (by omega)]; simp
 rw [hfi]
 simp [go_sem, Try.results68, hMl])
end Go.AM
namespace Go.AM
def blk (C : List VF) (i n : Nat) : List VF := (C.drop i).take n
theorem blk_left {P A X Q : List VF} {i n : Nat} (h : i + n ≤ P.length) : blk (P ++ X ++ Q) i n = blk (P ++ A ++ Q) i n := by
 have key : ∀ R : List VF, blk (P ++ R) i n = (P.drop i).take n := by
  intro R
  unfold blk
  rw [List.drop_append_of_le_length (by omega), List.take_append_of_le_length (by rw [List.length_drop]; omega)]
 rw [List.append_assoc, List.append_assoc, key, key]
theorem blk_right {P A X Q : List VF} {i n : Nat} (hl : X.length = A.length) (h : P.length + A.length ≤ i) : blk (P ++ X ++ Q) i n = blk (P ++ A ++ Q) i n := by
 have key : ∀ R : List VF, R.length = A.length → blk (P ++ R ++ Q) i n = (Q.drop (i - (P.length + A.length))).take n := by
  intro R hR
  unfold blk
  rw [List.drop_append, List.drop_of_length_le (by rw [List.length_append]; omega), List.nil_append, List.length_append, hR]
 rw [key X hl, key A rfl]
theorem blk_mid {P X Q : List VF} {i n : Nat} (hi : i = P.length) (hn : n = X.length) : blk (P ++ X ++ Q) i n = X := by
 subst hi hn; unfold blk; rw [List.append_assoc, List.drop_left]; simp
theorem blk_end {P X : List VF} {i n : Nat} (hi : i = P.length) (hn : X.length ≤ n) : blk (P ++ X ++ []) i n = X := by
 subst hi; unfold blk; rw [List.append_nil, List.drop_left, List.take_of_length_le hn]
theorem blk_none {C : List VF} {i n : Nat} (h : C.length ≤ i) : blk C i n = [] := by unfold blk; rw [List.drop_of_length_le h]; simp
theorem blk_cut (C : List VF) (a n : Nat) : C = C.take a ++ blk C a n ++ C.drop (a + n) := by
 have h1 := List.take_append_drop a C
 have h2 := List.take_append_drop n (C.drop a)
 rw [List.drop_drop] at h2
 unfold blk
 rw [List.append_assoc, h2, h1]
theorem blk_cut2 (C : List VF) (a n m : Nat) : C = C.take a ++ blk C a n ++ blk C (a + n) m ++ C.drop (a + n + m) := by
 have h1 := blk_cut C a n
 have h2 := List.take_append_drop m (C.drop (a + n))
 rw [List.drop_drop] at h2
 have h3 : C.drop (a + n) = blk C (a + n) m ++ C.drop (a + n + m) := h2.symm
 rw [List.append_assoc _ (blk C (a + n) m), ← h3]; exact h1
theorem blk_len {C : List VF} {i n : Nat} (h : i + n ≤ C.length) : (blk C i n).length = n := by unfold blk; rw [List.length_take, List.length_drop]; omega
theorem blk_len2 {C : List VF} {i n : Nat} (h : C.length ≤ i + n) : (blk C i n).length = C.length - i := by unfold blk; rw [List.length_take, List.length_drop]; omega
theorem same_srt {P A Q : List VF} (k : Int) : ofK VF.src k (P ++ srt VF.src A ++ Q) = ofK VF.src k (P ++ A ++ Q) := by rw [ofK_append, ofK_append, srt_of, ofK_append (l := P ++ A), ofK_append]
theorem ord_blk_nil {C : List VF} {i n : Nat} (h : C.length ≤ i) : Ord VF.src (blk C i n) := by rw [blk_none h]; exact ord_nil
structure SoA (C L : List VF) : Prop where
 len : C.length = L.length
 same : ∀ k, ofK VF.src k C = ofK VF.src k L
theorem SoA.step {P A Q L : List VF} (h : SoA (P ++ A ++ Q) L) : SoA (P ++ srt VF.src A ++ Q) L := ⟨by rw [← h.len]; simp [srt_len], fun k => by rw [same_srt]; exact h.same k⟩
def SoB (C L : List VF) (bs t : Nat) : Prop := SoA C L ∧ ∀ u < t, Ord VF.src (blk C (u * bs) bs)
def SoC (C L : List VF) (bs : Nat) : Prop := SoA C L ∧ ∀ u, Ord VF.src (blk C (u * bs) bs)
def SoD (C L : List VF) (bs t : Nat) : Prop := SoA C L ∧ (∀ u < t, Ord VF.src (blk C (u * (2 * bs)) (2 * bs))) ∧ ∀ i, 2 * t ≤ i → Ord VF.src (blk C (i * bs) bs)
theorem st1 {C L : List VF} {t a b : Nat} (h : SoB C L 20 t) (ha : a = t * 20) (hb : b = a + 20) (hn : b ≤ C.length) :
  ∃ D P A Q, C = P ++ A ++ Q ∧ D = P ++ srt VF.src A ++ Q ∧ a = P.length ∧ b = a + A.length ∧ SoB D L 20 (t + 1) := by
 have hl := blk_len (C := C) (i := a) (n := 20) (by omega)
 have hp : (C.take a).length = a := by rw [List.length_take]; omega
 refine ⟨_, C.take a, blk C a 20, C.drop (a + 20), blk_cut C a 20, rfl, hp.symm, by omega, SoA.step (by rw [← blk_cut]; exact h.1), ?_⟩
 intro u hu
 rcases Nat.lt_or_ge u t with h1 | h1
 ·have h2 := h.2 u h1
  rw [blk_cut C a 20] at h2
  rw [blk_left (A := blk C a 20) (by omega)]; exact h2
 ·have : u = t := by omega
  subst this
  rw [blk_mid (by omega) (by rw [srt_len]; omega)]; exact srt_ord _
theorem st1_end {C L : List VF} {t a : Nat} (h : SoB C L 20 t) (ha : a = t * 20) (hn : a ≤ C.length) (hn2 : C.length < a + 20) :
  ∃ D P A, C = P ++ A ++ [] ∧ D = P ++ srt VF.src A ++ [] ∧ a = P.length ∧ C.length = a + A.length ∧ SoC D L 20 := by
 have hp : (C.take a).length = a := by rw [List.length_take]; omega
 have e : C = C.take a ++ C.drop a ++ [] := by simp
 have hl : (C.drop a).length = C.length - a := List.length_drop
 refine ⟨_, C.take a, C.drop a, e, rfl, hp.symm, by omega, SoA.step (by rw [← e]; exact h.1), ?_⟩
 intro u
 rcases Nat.lt_or_ge u t with h1 | h1
 ·have h2 := h.2 u h1
  rw [e] at h2
  rw [blk_left (A := C.drop a) (by omega)]; exact h2
 ·rcases Nat.lt_or_ge t u with h3 | h3
  ·exact ord_blk_nil (by simp [srt_len]; omega)
  ·have : u = t := by omega
   subst this
   rw [blk_end (by omega) (by rw [srt_len]; omega)]; exact srt_ord _
theorem st3 {C L : List VF} {bs t a m b : Nat} (h : SoD C L bs t) (ha : a = t * (2 * bs)) (hm : m = a + bs) (hb : b = a + 2 * bs) (hn : b ≤ C.length) :
  ∃ D P A B Q, C = P ++ A ++ B ++ Q ∧ D = P ++ srt VF.src (A ++ B) ++ Q ∧ a = P.length ∧ m = a + A.length ∧ b = m + B.length ∧ Ord VF.src A ∧ Ord VF.src B ∧ SoD D L bs (t + 1) := by
 have hl1 := blk_len (C := C) (i := a) (n := bs) (by omega)
 have hl2 := blk_len (C := C) (i := a + bs) (n := bs) (by omega)
 have hp : (C.take a).length = a := by rw [List.length_take]; omega
 have e := blk_cut2 C a bs bs
 have e2 : C = C.take a ++ (blk C a bs ++ blk C (a + bs) bs) ++ C.drop (a + bs + bs) := by rw [← List.append_assoc]; exact e
 have e1 : a = 2 * t * bs := by rw [ha]; rw [Nat.mul_comm 2 t, Nat.mul_assoc]
 have o1 : Ord VF.src (blk C a bs) := by rw [e1]; exact h.2.2 (2 * t) (Nat.le_refl _)
 have o2 : Ord VF.src (blk C (a + bs) bs) := by
  have h9 := h.2.2 (2 * t + 1) (by omega)
  rw [Nat.add_mul, Nat.one_mul, ← e1] at h9; exact h9
 refine ⟨_, C.take a, blk C a bs, blk C (a + bs) bs, C.drop (a + bs + bs), e, rfl, hp.symm, by omega, by omega, o1, o2, SoA.step (by rw [← e2]; exact h.1), ?_, ?_⟩
 ·intro u hu
  rcases Nat.lt_or_ge u t with h1 | h1
  ·have h2 := h.2.1 u h1
   have h3 : u * (2 * bs) + 2 * bs ≤ a := by
    have := Nat.mul_le_mul_right (2 * bs) (show u + 1 ≤ t by omega)
    rw [Nat.add_mul, Nat.one_mul] at this; omega
   rw [e2] at h2
   rw [blk_left (A := blk C a bs ++ blk C (a + bs) bs) (by omega)]; exact h2
  ·have : u = t := by omega
   subst this
   rw [blk_mid (by omega) (by rw [srt_len, List.length_append]; omega)]; exact srt_ord _
 ·intro i hi
  have h2 := h.2.2 i (by omega)
  have h3 : a + 2 * bs ≤ i * bs := by
   have := Nat.mul_le_mul_right bs hi
   rw [Nat.mul_add, Nat.add_mul, ← e1] at this; omega
  rw [e2] at h2
  rw [blk_right (A := blk C a bs ++ blk C (a + bs) bs) (srt_len _) (by rw [List.length_append]; omega)]; exact h2
theorem st3_end1 {C L : List VF} {bs t a m : Nat} (h : SoD C L bs t) (ha : a = t * (2 * bs)) (hm : m = a + bs) (hn : m < C.length) (hn2 : C.length < a + 2 * bs) :
  ∃ D P A B, C = P ++ A ++ B ++ [] ∧ D = P ++ srt VF.src (A ++ B) ++ [] ∧ a = P.length ∧ m = a + A.length ∧ C.length = m + B.length ∧ Ord VF.src A ∧ Ord VF.src B ∧ SoC D L (2 * bs) := by
 have hl1 := blk_len (C := C) (i := a) (n := bs) (by omega)
 have hl2 := blk_len2 (C := C) (i := a + bs) (n := bs) (by omega)
 have hp : (C.take a).length = a := by rw [List.length_take]; omega
 have hd : C.drop (a + bs + bs) = [] := List.drop_of_length_le (by omega)
 have e := blk_cut2 C a bs bs
 rw [hd] at e
 have e2 : C = C.take a ++ (blk C a bs ++ blk C (a + bs) bs) ++ [] := by rw [← List.append_assoc]; exact e
 have e1 : a = 2 * t * bs := by rw [ha]; rw [Nat.mul_comm 2 t, Nat.mul_assoc]
 have o1 : Ord VF.src (blk C a bs) := by rw [e1]; exact h.2.2 (2 * t) (Nat.le_refl _)
 have o2 : Ord VF.src (blk C (a + bs) bs) := by
  have h9 := h.2.2 (2 * t + 1) (by omega)
  rw [Nat.add_mul, Nat.one_mul, ← e1] at h9; exact h9
 refine ⟨_, C.take a, blk C a bs, blk C (a + bs) bs, e, rfl, hp.symm, by omega, by omega, o1, o2, SoA.step (by rw [← e2]; exact h.1), ?_⟩
 intro u
 rcases Nat.lt_or_ge u t with h1 | h1
 ·have h2 := h.2.1 u h1
  have h3 : u * (2 * bs) + 2 * bs ≤ a := by
   have := Nat.mul_le_mul_right (2 * bs) (show u + 1 ≤ t by omega)
   rw [Nat.add_mul, Nat.one_mul] at this; omega
  rw [e2] at h2
  rw [blk_left (A := blk C a bs ++ blk C (a + bs) bs) (by omega)]; exact h2
 ·rcases Nat.lt_or_ge t u with h3 | h3
  ·have h4 : a + 2 * bs ≤ u * (2 * bs) := by
    have := Nat.mul_le_mul_right (2 * bs) (show t + 1 ≤ u by omega)
    rw [Nat.add_mul, Nat.one_mul] at this; omega
   refine ord_blk_nil ?_
   simp [srt_len]; omega
  ·have : u = t := by omega
   subst this
   rw [blk_end (by omega) (by rw [srt_len, List.length_append]; omega)]; exact srt_ord _
theorem st3_end2 {C L : List VF} {bs t a : Nat} (h : SoD C L bs t) (ha : a = t * (2 * bs)) (hn : C.length ≤ a + bs) : SoC C L (2 * bs) := by
 refine ⟨h.1, fun u => ?_⟩
 rcases Nat.lt_or_ge u t with h1 | h1
 ·exact h.2.1 u h1
 ·rcases Nat.lt_or_ge t u with h3 | h3
  ·have h4 : a + 2 * bs ≤ u * (2 * bs) := by
    have := Nat.mul_le_mul_right (2 * bs) (show t + 1 ≤ u by omega)
    rw [Nat.add_mul, Nat.one_mul] at this; omega
   exact ord_blk_nil (by omega)
  ·have : u = t := by omega
   subst this
   have e1 : u * (2 * bs) = 2 * u * bs := by rw [Nat.mul_comm 2 u, Nat.mul_assoc]
   have h5 := h.2.2 (2 * u) (Nat.le_refl _)
   rw [← e1] at h5
   have : blk C (u * (2 * bs)) (2 * bs) = blk C (u * (2 * bs)) bs := by
    unfold blk
    rw [List.take_of_length_le (by rw [List.length_drop]; omega), List.take_of_length_le (by rw [List.length_drop]; omega)]
   rw [this]; exact h5
theorem SoC.s3 {C L : List VF} {bs : Nat} (h : SoC C L bs) : SoD C L bs 0 := ⟨h.1, fun u hu => absurd hu (Nat.not_lt_zero _), fun i _ => h.2 i⟩
theorem SoC.fin {C L : List VF} {bs : Nat} (h : SoC C L bs) (hn : C.length ≤ bs) : C = srt VF.src L := by
 have h1 := h.2 0
 have e : blk C (0 * bs) bs = C := by unfold blk; rw [Nat.zero_mul, List.drop_zero, List.take_of_length_le hn]
 rw [e] at h1
 exact srt_one h1 h.1.same
theorem SoB.zero (L : List VF) (bs : Nat) : SoB L L bs 0 := ⟨⟨rfl, fun _ => rfl⟩, fun u hu => absurd hu (Nat.not_lt_zero _)⟩
end Go.AM
namespace Go.AM
open Go.Proofs
set_option maxHeartbeats 8000000 in
theorem dc_stable (L : List VF) (hn : L.length ≤ 100000) : DC Try.prog 53 [.osl 3 (L.map VF.row), .int .i64 (L.length : Nat), .fn 34 []] (.tup []) [(0, .osl 3 ((srt VF.src L).map VF.row))] := by
 have hMl : (srt VF.src L).length = L.length := srt_len L
 refine DC.intro tiOk Try.func53 rfl rfl rfl rfl rfl rfl rfl (by simp [noW, noWo]) [] ?_
 refine rgA [0,1,2,6] ?_
 refine rgA [0,1,2,6,7,8] ?_
 refine AW.seq ?_
 refine AW.block ?_
 refine AW.loopI (fun q : List VF × Nat × Nat × Nat => ⟨63, [(0, .sl 1900 3 0 L.length), (1, .int .i64 (L.length : Nat)), (2, .fn 34 []), (6, .int .i64 20), (7, .int .i64 (q.2.2.1 : Nat)), (8, .int .i64 (q.2.2.2 : Nat))], [(1900, some ⟨3, q.1.map VF.row⟩)]⟩) (fun q => SoB q.1 L 20 q.2.1 ∧ q.2.2.1 = q.2.1 * 20 ∧ q.2.2.2 = q.2.2.1 + 20 ∧ q.2.2.1 ≤ L.length) (fun q => L.length - q.2.2.1) ((L, 0, 0, 20)) (⟨SoB.zero L 20, by simp, by simp, by simp⟩) (Less.of rfl (by simp [go_sem]) (by simp [go_sem])) ?_
 rintro ⟨C, t, a, b⟩ ⟨hSB, hat, hb, han⟩
 simp only at hSB hat hb han
 have hCl := hSB.1.len
 refine AW.seq ?_
 refine rgA [0,1,2,6,7,8,13] ?_
 refine AW.cond rfl ?_ ?_
 ·intro hc; try simp at hc
  all_goals try (exfalso; omega; done)
  all_goals (
 have hlt : b ≤ L.length := by first | assumption | omega
 obtain ⟨D, P, A, Q, e1, e2, e3, e4, hD⟩ := st1 hSB hat hb (by omega)
 have hDl := hD.1.len
 obtain ⟨b3, hb3⟩ : ∃ b3 : Nat, b3 = b + 20 := ⟨_, rfl⟩
 have hw : IntKind.wrap .i64 ((b : Int) + 20) = ((b3 : Nat) : Int) := by rw [wrap64 (by omega) (by omega)]; omega
 refine AW.skipN (fun _ h => h) ?_
 refine AW.block ?_
 refine AW.reg tiOk (fun _ => [0]) [0,1,2,6,8] ?_
 intro k hk; simp -dsimp (maxSteps := 2000000) [go_sem, -decide_eq_true_eq, -decide_eq_false_iff_not, hDl, hCl]
 repeat' first | apply And.intro | refine hk _ ?_ | intro hg | (refine CallK.intro ((dc_insertion C D P A Q a b e1 e2 e3 e4 (by omega))) ?_; simp -dsimp (maxSteps := 2000000) [go_sem, -decide_eq_true_eq, -decide_eq_false_iff_not, hDl, hCl]) | omega | exact True.intro
 all_goals clear hk k
 refine rgA [0,1,2,6,7,8] ?_
 refine rgK ?_
 intro k hk; simp -dsimp [go_sem, -decide_eq_true_eq, -decide_eq_false_iff_not, hw]
 repeat' first | apply And.intro | refine hk _ ?_ | intro hg | omega | exact True.intro
 all_goals clear hk k
 show ∃ _, _
 refine ⟨(D, t + 1, b, b3), ⟨hD, by simp only; omega, by simp only; omega, by simp only; omega⟩, by simp only; omega, Less.of rfl (by simp [go_sem]) (by simp [go_sem])⟩)
 ·intro hc; try simp at hc
  all_goals try (exfalso; omega; done)
  all_goals (
 refine AW.exitN (fun _ h => h) ?_
 obtain ⟨D, P, A, e1, e2, e3, e4, hD⟩ := st1_end hSB hat (by omega) (by omega)
 have hDl := hD.1.len
 refine AW.reg tiOk (fun _ => [0]) [0,1,2,6] ?_
 intro k hk; simp -dsimp (maxSteps := 2000000) [go_sem, -decide_eq_true_eq, -decide_eq_false_iff_not, hDl, hCl]
 repeat' first | apply And.intro | refine hk _ ?_ | intro hg | (refine CallK.intro ((dc_insertion C D P A [] a L.length e1 e2 e3 (by omega) (by omega))) ?_; simp -dsimp (maxSteps := 2000000) [go_sem, -decide_eq_true_eq, -decide_eq_false_iff_not, hDl, hCl]) | omega | exact True.intro
 all_goals clear hk k
 refine AW.block ?_
 refine AW.loopI (fun q : List VF × Nat => ⟨63, [(0, .sl 1900 3 0 L.length), (1, .int .i64 (L.length : Nat)), (2, .fn 34 []), (6, .int .i64 (q.2 : Nat))], [(1900, some ⟨3, q.1.map VF.row⟩)]⟩) (fun q => SoC q.1 L q.2 ∧ 1 ≤ q.2 ∧ q.2 ≤ 2 * L.length + 20) (fun q => L.length - q.2) ((D, 20)) (⟨hD, by simp, by simp only; omega⟩) (Less.of rfl (by simp [go_sem]) (by simp [go_sem])) ?_
 rintro ⟨C1, bs⟩ ⟨hSC, hbs, hbn⟩
 simp only at hSC hbs hbn
 have hCl1 := hSC.1.len
 refine AW.seq ?_
 refine rgA [0,1,2,6,30] ?_
 refine AW.cond rfl ?_ ?_
 ·intro hc; try simp at hc
  all_goals try (exfalso; omega; done)
  all_goals (
 have hlt1 : bs < L.length := by first | assumption | omega
 obtain ⟨b0, hb0⟩ : ∃ b0 : Nat, b0 = 2 * bs := ⟨_, rfl⟩
 have hw1 : IntKind.wrap .i64 (2 * (bs : Int)) = ((b0 : Nat) : Int) := by rw [wrap64 (by omega) (by omega)]; omega
 have hw5 : IntKind.wrap .i64 ((bs : Int) * 2) = ((b0 : Nat) : Int) := by rw [wrap64 (by omega) (by omega)]; omega
 refine AW.skipN (fun _ h => h) ?_
 refine AW.block ?_
 refine rg [0,1,2,6,7,8] ?_
 intro k hk; simp -dsimp [go_sem, -decide_eq_true_eq, -decide_eq_false_iff_not, hw1]
 repeat' first | apply And.intro | refine hk _ ?_ | intro hg | omega | exact True.intro
 all_goals clear hk k
 refine AW.seq ?_
 refine AW.block ?_
 refine AW.loopI (fun q : List VF × Nat × Nat × Nat => ⟨63, [(0, .sl 1900 3 0 L.length), (1, .int .i64 (L.length : Nat)), (2, .fn 34 []), (6, .int .i64 (bs : Nat)), (7, .int .i64 (q.2.2.1 : Nat)), (8, .int .i64 (q.2.2.2 : Nat))], [(1900, some ⟨3, q.1.map VF.row⟩)]⟩) (fun q => SoD q.1 L bs q.2.1 ∧ q.2.2.1 = q.2.1 * (2 * bs) ∧ q.2.2.2 = q.2.2.1 + 2 * bs ∧ q.2.2.1 ≤ L.length) (fun q => L.length - q.2.2.1) ((C1, 0, 0, b0)) (⟨hSC.s3, by simp, by simp only; omega, by simp⟩) (Less.of rfl (by simp [go_sem]) (by simp [go_sem])) ?_
 rintro ⟨C2, t2, a2, b2⟩ ⟨hSD, hat2, hb2, han2⟩
 simp only at hSD hat2 hb2 han2
 have hCl2 := hSD.1.len
 obtain ⟨m2, hm2⟩ : ∃ m2 : Nat, m2 = a2 + bs := ⟨_, rfl⟩
 have hw2 : IntKind.wrap .i64 ((a2 : Int) + (bs : Int)) = ((m2 : Nat) : Int) := by rw [wrap64 (by omega) (by omega)]; omega
 refine AW.seq ?_
 refine rgA [0,1,2,6,7,8,35] ?_
 refine AW.cond rfl ?_ ?_
 ·intro hc; try simp at hc
  all_goals try (exfalso; omega; done)
  all_goals (
 have hlt2 : b2 ≤ L.length := by first | assumption | omega
 obtain ⟨D2, P2, A2, B2, Q2, f1, f2, f3, f4, f5, f6, f7, hD2⟩ := st3 hSD hat2 hm2 hb2 (by omega)
 have hDl2 := hD2.1.len
 obtain ⟨b4, hb4⟩ : ∃ b4 : Nat, b4 = b2 + b0 := ⟨_, rfl⟩
 have hw3 : IntKind.wrap .i64 (2 * (bs : Int)) = ((b0 : Nat) : Int) := hw1
 have hw4 : IntKind.wrap .i64 ((b2 : Int) + (b0 : Int)) = ((b4 : Nat) : Int) := by rw [wrap64 (by omega) (by omega)]; omega
 have hta : b2 = (t2 + 1) * (2 * bs) := by rw [Nat.add_mul, Nat.one_mul, ← hat2]; exact hb2
 refine AW.skipN (fun _ h => h) ?_
 refine AW.block ?_
 refine AW.reg tiOk (fun _ => [0]) [0,1,2,6,8] ?_
 intro k hk; simp -dsimp (maxSteps := 2000000) [go_sem, -decide_eq_true_eq, -decide_eq_false_iff_not, hw2, hDl2, hCl2]
 repeat' first | apply And.intro | refine hk _ ?_ | intro hg | (refine CallK.intro ((dc_symMerge (bs + bs) C2 D2 P2 A2 B2 Q2 a2 m2 b2 f1 f2 f6 f7 (List.ne_nil_of_length_pos (by omega)) (List.ne_nil_of_length_pos (by omega)) f3 f4 f5 (by omega) (by omega))) ?_; simp -dsimp (maxSteps := 2000000) [go_sem, -decide_eq_true_eq, -decide_eq_false_iff_not, hw2, hDl2, hCl2]) | omega | exact True.intro
 all_goals clear hk k
 refine rgA [0,1,2,6,7,8] ?_
 refine rgK ?_
 intro k hk; simp -dsimp [go_sem, -decide_eq_true_eq, -decide_eq_false_iff_not, hw3, hw4]
 repeat' first | apply And.intro | refine hk _ ?_ | intro hg | omega | exact True.intro
 all_goals clear hk k
 show ∃ _, _
 refine ⟨(D2, t2 + 1, b2, b4), ⟨hD2, hta, by simp only; omega, by simp only; omega⟩, by simp only; omega, Less.of rfl (by simp [go_sem]) (by simp [go_sem])⟩)
 ·intro hc; try simp at hc
  all_goals try (exfalso; omega; done)
  all_goals (
 refine AW.exitN (fun _ h => h) ?_
 refine AW.seq ?_
 refine rg [0,1,2,6,7,9] ?_
 intro k hk; simp -dsimp [go_sem, -decide_eq_true_eq, -decide_eq_false_iff_not, hw2]
 repeat' first | apply And.intro | refine hk _ ?_ | intro hg | omega | exact True.intro
 all_goals clear hk k
 refine rgA [0,1,2,6,7,9,54] ?_
 refine AW.cond rfl ?_ ?_
 ·intro hc; try simp at hc
  all_goals try (exfalso; omega; done)
  all_goals (
 obtain ⟨D2, P2, A2, B2, f1, f2, f3, f4, f5, f6, f7, hD2⟩ := st3_end1 hSD hat2 hm2 (by omega) (by omega)
 have hDl2 := hD2.1.len
 refine AW.regN tiOk (fun _ => [0]) [0,1,2,6] (fun _ h => h) ?_
 intro k hk; simp -dsimp (maxSteps := 2000000) [go_sem, -decide_eq_true_eq, -decide_eq_false_iff_not, hDl2, hCl2]
 repeat' first | apply And.intro | refine hk _ ?_ | intro hg | (refine CallK.intro ((dc_symMerge (bs + bs) C2 D2 P2 A2 B2 [] a2 m2 L.length f1 f2 f6 f7 (List.ne_nil_of_length_pos (by omega)) (List.ne_nil_of_length_pos (by omega)) f3 f4 (by omega) (by omega) (by omega))) ?_; simp -dsimp (maxSteps := 2000000) [go_sem, -decide_eq_true_eq, -decide_eq_false_iff_not, hDl2, hCl2]) | omega | exact True.intro
 all_goals clear hk k
 refine rgK ?_
 intro k hk; simp -dsimp [go_sem, -decide_eq_true_eq, -decide_eq_false_iff_not, hw5]
 repeat' first | apply And.intro | refine hk _ ?_ | intro hg | omega | exact True.intro
 all_goals clear hk k
 show ∃ _, _
 first | (refine ⟨(D2, b0), ⟨by simp only; rw [hb0]; exact hD2, by simp only; omega, by simp only; omega⟩, by simp only; omega, Less.of rfl (by simp [go_sem]) (by simp [go_sem])⟩) | (refine ⟨(C2, b0), ⟨by simp only; rw [hb0]; exact st3_end2 hSD hat2 (by omega), by simp only; omega, by simp only; omega⟩, by simp only; omega, Less.of rfl (by simp [go_sem]) (by simp [go_sem])⟩))
 ·intro hc; try simp at hc
  all_goals try (exfalso; omega; done)
  all_goals (
 refine AW.skipN (fun _ h => h) ?_
 refine rgK ?_
 intro k hk; simp -dsimp [go_sem, -decide_eq_true_eq, -decide_eq_false_iff_not, hw5]
 repeat' first | apply And.intro | refine hk _ ?_ | intro hg | omega | exact True.intro
 all_goals clear hk k
 show ∃ _, _
 first | (refine ⟨(D2, b0), ⟨by simp only; rw [hb0]; exact hD2, by simp only; omega, by simp only; omega⟩, by simp only; omega, Less.of rfl (by simp [go_sem]) (by simp [go_sem])⟩) | (refine ⟨(C2, b0), ⟨by simp only; rw [hb0]; exact st3_end2 hSD hat2 (by omega), by simp only; omega, by simp only; omega⟩, by simp only; omega, Less.of rfl (by simp [go_sem]) (by simp [go_sem])⟩))))
 ·intro hc; try simp at hc
  all_goals try (exfalso; omega; done)
  all_goals (
 refine AW.exit ?_
 refine And.intro (.inl rfl) ?_
 have hfi := hSC.fin (by omega)
 rw [hfi]
 simp [go_sem, Try.results53, hMl]))
theorem dc_sortStable (L : List VF) (hn : L.length ≤ 100000) : DC Try.prog 33 [.osl 3 (L.map VF.row), .fn 34 []] (.tup []) [(0, .osl 3 ((srt VF.src L).map VF.row))] := by
 have hMl : (srt VF.src L).length = L.length := srt_len L
 refine DC.intro tiOk Try.func33 rfl rfl rfl rfl rfl rfl rfl (by simp [noW, noWo]) [] ?_
 refine rgE (fun _ => [0]) ?_
 intro k hk; simp -dsimp (maxSteps := 2000000) [go_sem, -decide_eq_true_eq, -decide_eq_false_iff_not]
 repeat' first | apply And.intro | refine hk _ ?_ | intro hg | (refine CallK.intro (dc_stable L hn) ?_; simp -dsimp (maxSteps := 2000000) [go_sem, -decide_eq_true_eq, -decide_eq_false_iff_not]) | omega | exact True.intro
 all_goals clear hk k
 refine ⟨.intro, And.intro (.inl rfl) ?_⟩
 simp [go_sem, Try.results33, hMl]
end Go.AM
namespace Go.AM
open Go.Proofs
theorem owc_slice {w : World} {lab : Labs} {p : Lab} {es : Nat} {l : List (List AV)} {v : Value} (h : T w lab p (owc es l) v) : ∃ a n cap, v = .slice a n cap := by
 cases l with
 | nil =>
  cases h with
  | imm _ _ _ h => cases h with
    | nsl => exact ⟨_, _, _, rfl⟩
    | esl => exact ⟨_, _, _, rfl⟩
    | isl => exact ⟨_, _, _, rfl⟩
 | cons x r =>
  cases h with
  | imm _ _ _ h => cases h
  | osl => exact ⟨_, _, _, rfl⟩
def fl0 : TFlow := ⟨0, 0, []⟩
theorem dc_sortFlows (l : List TFlow) (hn : l.length ≤ 100000) : DC Try.prog 33 [.osl 3 (l.map TFlow.oc), .fn 34 []] (.tup []) [(0, .osl 3 ((srt TFlow.frm l).map TFlow.oc))] := by
 obtain ⟨σ, hσ⟩ : ∃ σ, σ = srt (fun i => (l.map TFlow.frm).getD i 0) (List.range l.length) := ⟨_, rfl⟩
 have hp : σ.Perm (List.range l.length) := by rw [hσ]; exact srt_perm _
 have hmem : ∀ i ∈ σ, i < l.length := fun i hi => List.mem_range.1 (hp.mem_iff.1 hi)
 have h := DC.unseen (P := Try.prog) (f := 33) (rest := [.fn 34 []]) TFlow.frm TFlow.to (fun x => owc 4 (x.cond.map TNode.ro)) (fun x => owc_tree 4 _) l σ (hp.nodup_iff.2 List.nodup_range) hmem (fun x w lab p v h => owc_slice h) (by
  intro vs _ _
  have h := dc_sortStable ((List.range l.length).map fun i => (⟨(l.map TFlow.frm).getD i 0, (l.map TFlow.to).getD i 0, vs.getD i default⟩ : VF)) (by simp; exact hn)
  rw [srt_map] at h
  simp only [List.map_map] at h
  rw [hσ]
  exact h)
 have e : (σ.map fun i => [AV.int .i64 ((l.map TFlow.frm).getD i 0), .int .i64 ((l.map TFlow.to).getD i 0), (l.map fun x => owc 4 (x.cond.map TNode.ro)).getD i .nils]) = (srt TFlow.frm l).map TFlow.oc := by
  have hl : l = (List.range l.length).map fun i => l.getD i fl0 := by
   apply List.ext_getElem?
   intro i
   rw [List.getElem?_map]
   rcases Nat.lt_or_ge i l.length with h | h
   · rw [List.getElem?_range h]; simp [List.getD_eq_getElem?_getD, List.getElem?_eq_getElem h]
   · rw [List.getElem?_eq_none h, List.getElem?_eq_none (by simpa using h)]; rfl
  have hs : srt TFlow.frm l = σ.map fun i => l.getD i fl0 := by
   conv => lhs; rw [hl]
   rw [srt_map, hσ]
   congr 1
   have hk : (fun b => TFlow.frm (l.getD b fl0)) = fun i => (l.map TFlow.frm).getD i 0 := by
    funext i
    rcases Nat.lt_or_ge i l.length with h | h
    · simp [List.getD_eq_getElem?_getD, List.getElem?_eq_getElem h]
    · simp [List.getD_eq_getElem?_getD, List.getElem?_eq_none h, fl0]
   rw [hk]
  rw [hs, List.map_map]
  apply List.map_congr_left
  intro i hi
  have h := hmem i hi
  simp [List.getD_eq_getElem?_getD, List.getElem?_eq_getElem h, TFlow.oc]
 rw [e] at h
 exact h
end Go.AM
namespace Go.AM
open Go.Proofs
set_option maxHeartbeats 8000000 in
theorem dc_impl_graphOf (p : List TStep) (hP : ProcOk p) : DC Try.prog 17 [.isl 6 (p.map TStep.ro)] (.agg [.osl 5 ((gNs p).map TGNode.oc), .osl 3 ((srt TFlow.frm (gFl p)).map TFlow.oc)]) [] := by
 have hp := hP.len
 have hfw := gTop_few hP
 have hcp := (grow_ok hP).1
 have hck : cK p p.length 0 ≤ 24 := hcp
 obtain ⟨R, hR⟩ : ∃ N, N = gTop p := ⟨_, rfl⟩
 rw [← hR] at hfw
 have hn0 := dc_impl_graphMaker_node_z p [] [] 1 0 0 0 0 [] (by simp)
 obtain ⟨N0, hN0⟩ : ∃ N, N = ([] : List TGNode) ++ [(⟨1, 0, [], 0, []⟩ : TGNode)] := ⟨_, rfl⟩
 rw [← hN0] at hn0
 have l0 : N0.length = 1 := by rw [hN0]; rfl
 have hs0 := dc_gstep_impl p hP p.length 0 N0 [] (by omega) (by simp; omega) (by simp) (by omega) (by simp; omega)
 rw [l0] at hs0
 have hRt : gstep p p.length (0 : Int).toNat 1 = R := by rw [hR]; rfl
 rw [hRt] at hs0
 obtain ⟨N1, hN1⟩ : ∃ N, N = N0 ++ R.ns := ⟨_, rfl⟩
 obtain ⟨F1, hF1⟩ : ∃ N, N = ([] : List TFlow) ++ R.fs := ⟨_, rfl⟩
 rw [← hN1, ← hF1] at hs0
 have l1 : N1.length = 1 + R.ns.length := by rw [hN1, List.length_append, l0]
 have m1 : F1.length = R.fs.length := by rw [hF1]; simp
 have hn1 := dc_impl_graphMaker_node_z p N1 F1 2 0 0 0 0 [] (by omega)
 obtain ⟨N2, hN2⟩ : ∃ N, N = N1 ++ [(⟨2, 0, [], 0, []⟩ : TGNode)] := ⟨_, rfl⟩
 rw [← hN2] at hn1
 have hq0 := dc_impl_graphMaker_flow_n p N2 F1 0 R.en (by omega)
 obtain ⟨F2, hF2⟩ : ∃ N, N = F1 ++ [(⟨0, R.en, []⟩ : TFlow)] := ⟨_, rfl⟩
 rw [← hF2] at hq0
 have m2 : F2.length = F1.length + 1 := by rw [hF2, List.length_append]; rfl
 have hq1 := dc_impl_graphMaker_flow_n p N2 F2 R.lv (N1.length : Nat) (by omega)
 obtain ⟨F3, hF3⟩ : ∃ N, N = F2 ++ [(⟨R.lv, (N1.length : Nat), []⟩ : TFlow)] := ⟨_, rfl⟩
 rw [← hF3] at hq1
 have m3 : F3.length = F2.length + 1 := by rw [hF3, List.length_append]; rfl
 have hso := dc_sortFlows F3 (by omega)
 have hgn : gNs p = N2 := by unfold gNs; rw [hN2, hN1, hN0, ← hR]; simp
 have hgf : gFl p = F3 := by unfold gFl; rw [hF3, hF2, hF1, l1, ← hR]; simp
 rw [hgn, hgf]
 obtain ⟨F4, hF4⟩ : ∃ F, F = srt TFlow.frm F3 := ⟨_, rfl⟩
 rw [← hF4] at hso ⊢
 have m4 : F4.length = F3.length := by rw [hF4, srt_len]
 have hne2 : nlc 5 (N2.map TGNode.oc) = .osl 5 (N2.map TGNode.oc) := nlc_map (by rw [hN2]; simp) 5
 have hne3 : nlc 3 (F3.map TFlow.oc) = .osl 3 (F3.map TFlow.oc) := nlc_map (by rw [hF3]; simp) 3
 refine DC.intro tiOk Try.func17 rfl rfl rfl rfl rfl rfl rfl rfl [1000] ?_
 refine rgA [0,2] ?_
 refine rgA [2,3] ?_
 refine AW.reg tiOk (fun _ => [0]) [2,3,4] ?_
 intro k hk; simp -dsimp (maxSteps := 2000000) [go_sem, -decide_eq_true_eq, -decide_eq_false_iff_not]
 repeat' first | apply And.intro | refine hk _ ?_ | intro hg | (refine CallK.intro (hn0) ?_; simp -dsimp (maxSteps := 2000000) [go_sem, -decide_eq_true_eq, -decide_eq_false_iff_not]) | omega | exact True.intro
 all_goals clear hk k
 refine AW.reg tiOk (fun _ => [0]) [2,3,4,5,6] ?_
 intro k hk; simp -dsimp (maxSteps := 2000000) [go_sem, -decide_eq_true_eq, -decide_eq_false_iff_not]
 repeat' first | apply And.intro | refine hk _ ?_ | intro hg | (refine CallK.intro (hs0) ?_; simp -dsimp (maxSteps := 2000000) [go_sem, -decide_eq_true_eq, -decide_eq_false_iff_not]) | omega | exact True.intro
 all_goals clear hk k
 refine AW.reg tiOk (fun _ => [0]) [2,3,4,5,6,7] ?_
 intro k hk; simp -dsimp (maxSteps := 2000000) [go_sem, -decide_eq_true_eq, -decide_eq_false_iff_not]
 repeat' first | apply And.intro | refine hk _ ?_ | intro hg | (refine CallK.intro (hn1) ?_; simp -dsimp (maxSteps := 2000000) [go_sem, -decide_eq_true_eq, -decide_eq_false_iff_not]) | omega | exact True.intro
 all_goals clear hk k
 refine AW.reg tiOk (fun _ => [0]) [2,3,6,7] ?_
 intro k hk; simp -dsimp (maxSteps := 2000000) [go_sem, -decide_eq_true_eq, -decide_eq_false_iff_not]
 repeat' first | apply And.intro | refine hk _ ?_ | intro hg | (refine CallK.intro (hq0) ?_; simp -dsimp (maxSteps := 2000000) [go_sem, -decide_eq_true_eq, -decide_eq_false_iff_not]) | omega | exact True.intro
 all_goals clear hk k
 refine AW.reg tiOk (fun _ => [0]) [2,3] ?_
 intro k hk; simp -dsimp (maxSteps := 2000000) [go_sem, -decide_eq_true_eq, -decide_eq_false_iff_not]
 repeat' first | apply And.intro | refine hk _ ?_ | intro hg | (refine CallK.intro (hq1) ?_; simp -dsimp (maxSteps := 2000000) [go_sem, -decide_eq_true_eq, -decide_eq_false_iff_not]) | omega | exact True.intro
 all_goals clear hk k
 rw [hne2, hne3]
 refine AW.thaw 10 0 1 7001 rfl rfl rfl (by simp [go_sem]) ?_
 refine AW.thaw 10 0 2 7002 rfl rfl rfl (by simp [go_sem]) ?_
 refine AW.reg tiOk (fun _ => [0]) [2,3] ?_
 intro k hk; simp -dsimp (maxSteps := 2000000) [go_sem, -decide_eq_true_eq, -decide_eq_false_iff_not, m4]
 repeat' first | apply And.intro | refine hk _ ?_ | intro hg | (refine CallK.intro (hso) ?_; simp -dsimp (maxSteps := 2000000) [go_sem, -decide_eq_true_eq, -decide_eq_false_iff_not, m4]) | omega | exact True.intro
 all_goals clear hk k
 refine rgA [2] ?_
 refine rt ?_
 simp [go_sem, Try.results17, m4]
end Go.AM
namespace Go.AM
open Go.Proofs
theorem dc_impl_wantsCond_z (p : List TStep) (ho : StepsOk p) : DC Try.prog 47 [.isl 6 (p.map TStep.ro), .int .i64 0] (.bool (wants p 0)) [] := by
 have hi : 0 < p.length := by have := ho.len; omega
 have hlen := ho.len
 obtain ⟨x, hx⟩ := at_some hi
 have hxS := nS_at hx
 have hx0 := ho.par0
 rw [hxS] at hx0
 refine DC.intro tiOk Try.func47 rfl rfl rfl rfl rfl rfl rfl rfl [] ?_
 refine rg [0,1] ?_
 intro k hk; simp -dsimp [go_sem, -decide_eq_true_eq, -decide_eq_false_iff_not, hx, hx0]
 repeat' first | apply And.intro | refine hk _ ?_ | intro hg | omega | exact True.intro
 all_goals clear hk k
 refine rg [0,1,5] ?_
 intro k hk; simp -dsimp [go_sem, -decide_eq_true_eq, -decide_eq_false_iff_not, hx, hx0]
 repeat' first | apply And.intro | refine hk _ ?_ | intro hg | omega | exact True.intro
 all_goals clear hk k
 refine AW.seq ?_
 refine rg [0,1,5,21] ?_
 intro k hk; simp +contextual -dsimp (maxSteps := 2000000) [go_sem, -decide_eq_true_eq, -decide_eq_false_iff_not, hx, hx0]
 repeat' first | apply And.intro | refine hk _ ?_ | (intro hg; try simp only [decide_eq_true_eq, decide_eq_false_iff_not] at hg) | omega | exact True.intro
 all_goals clear hk k
 all_goals (
 refine AW.cond rfl ?_ ?_
 ·intro hc; try simp at hc
  all_goals try (exfalso; first | omega | (simp at hc; done); done)
  all_goals (
 refine rg [4] ?_
 intro k hk; simp -dsimp [go_sem, -decide_eq_true_eq, -decide_eq_false_iff_not, hx, hx0]
 repeat' first | apply And.intro | refine hk _ ?_ | intro hg | omega | exact True.intro
 all_goals clear hk k
 refine rt ?_
 simp [go_sem, Try.results47, wants])
 ·intro hc; try simp at hc
  all_goals try (exfalso; first | omega | (simp at hc; done); done)
  all_goals (
 refine AW.skipN (fun _ h => h) ?_
 refine rg [1,6] ?_
 intro k hk; simp -dsimp (maxSteps := 2000000) [go_sem, -decide_eq_true_eq, -decide_eq_false_iff_not, hx, hx0]
 repeat' first | apply And.intro | refine hk _ ?_ | intro hg | (refine CallK.intro (fail) ?_; simp -dsimp (maxSteps := 2000000) [go_sem, -decide_eq_true_eq, -decide_eq_false_iff_not, hx, hx0]) | omega | exact True.intro
 all_goals clear hk k
 refine rg [4] ?_
 intro k hk; simp -dsimp (maxSteps := 2000000) [go_sem, -decide_eq_true_eq, -decide_eq_false_iff_not, hx, hx0]
 repeat' first | apply And.intro | refine hk _ ?_ | intro hg | omega | exact True.intro
 all_goals clear hk k
 refine rt ?_
 simp [go_sem, Try.results47, wants]))
theorem dc_impl_wantsCond_s (p : List TStep) (ho : StepsOk p) (i : Nat) (hi : i < p.length) (hi0 : 0 < i) : DC Try.prog 47 [.isl 6 (p.map TStep.ro), .int .i64 (i : Nat)] (.bool (wants p i)) [] := by
 have hlen := ho.len
 obtain ⟨x, hx⟩ := at_some hi
 have hxS := nS_at hx
 have hpi := ho.parI hi0 hi
 rw [hxS] at hpi
 obtain ⟨a, ha⟩ : ∃ a : Nat, x.par = a := ⟨_, (Int.toNat_of_nonneg hpi.1).symm⟩
 obtain ⟨y, hy⟩ := at_some (l := p) (show a < p.length by omega)
 have hyS := nS_at hy
 have hdi : decide ((i : Int) = 0) = false := decide_eq_false (by omega)
 have hdi2 : ((i : Int) = 0) = False := eq_false (by omega)
 have hdj : (i = 0) = False := eq_false (by omega)
 have hkn := ho.kids_ne hi0 hi
 rw [hxS, ha] at hkn
 have hkl := last_at hkn
 have hkm := kids_len p (a : Int)
 have hkp := List.length_pos_iff.2 hkn
 have hwl : IntKind.wrap .i64 (((kids p a).length : Int) - 1) = ((kids p a).length : Int) - 1 := wrap64 (by omega) (by omega)
 have hwt : (((kids p a).length : Int) - 1).toNat = (kids p a).length - 1 := by omega
 refine DC.intro tiOk Try.func47 rfl rfl rfl rfl rfl rfl rfl rfl [] ?_
 refine rg [0,1] ?_
 intro k hk; simp -dsimp [go_sem, -decide_eq_true_eq, -decide_eq_false_iff_not, hx, hy, ha, hdi, hdi2]
 repeat' first | apply And.intro | refine hk _ ?_ | intro hg | omega | exact True.intro
 all_goals clear hk k
 refine rg [0,1,5] ?_
 intro k hk; simp -dsimp [go_sem, -decide_eq_true_eq, -decide_eq_false_iff_not, hx, hy, ha, hdi, hdi2]
 repeat' first | apply And.intro | refine hk _ ?_ | intro hg | omega | exact True.intro
 all_goals clear hk k
 refine AW.seq ?_
 refine rg [0,1,5,21] ?_
 intro k hk; simp +contextual -dsimp (maxSteps := 2000000) [go_sem, -decide_eq_true_eq, -decide_eq_false_iff_not, hx, hy, ha, hdi, hdi2]
 repeat' first | apply And.intro | refine hk _ ?_ | (intro hg; try simp only [decide_eq_true_eq, decide_eq_false_iff_not] at hg) | omega | exact True.intro
 all_goals clear hk k
 all_goals (
 refine AW.cond rfl ?_ ?_
 ·intro hc; try simp at hc
  all_goals try (exfalso; omega; done)
  all_goals (
 refine rg [4] ?_
 intro k hk; simp -dsimp [go_sem, -decide_eq_true_eq, -decide_eq_false_iff_not, hx, hy, ha, hdi, hdi2]
 repeat' first | apply And.intro | refine hk _ ?_ | intro hg | omega | exact True.intro
 all_goals clear hk k
 refine rt ?_
 simp [go_sem, Try.results47, wants, hxS, hyS, ha, hdj, hdi2] <;> grind)
 ·intro hc; try simp at hc
  all_goals try (exfalso; omega; done)
  all_goals (
 refine AW.skipN (fun _ h => h) ?_
 refine rg [1,6] ?_
 intro k hk; simp -dsimp (maxSteps := 2000000) [go_sem, -decide_eq_true_eq, -decide_eq_false_iff_not, hx, hy, ha, hdi, hdi2]
 repeat' first | apply And.intro | refine hk _ ?_ | intro hg | (refine CallK.intro (dc_impl_kids p (a : Int) (by omega)) ?_; simp -dsimp (maxSteps := 2000000) [go_sem, -decide_eq_true_eq, -decide_eq_false_iff_not, hx, hy, ha, hdi, hdi2]) | omega | exact True.intro
 all_goals clear hk k
 refine rg [4] ?_
 intro k hk; simp -dsimp (maxSteps := 2000000) [go_sem, -decide_eq_true_eq, -decide_eq_false_iff_not, hx, hy, ha, hdi, hdi2, hkl, hwl, hwt]
 repeat' first | apply And.intro | refine hk _ ?_ | intro hg | omega | exact True.intro
 all_goals clear hk k
 refine rt ?_
 simp [go_sem, Try.results47, wants, hxS, hyS, ha, hdj, hdi2] <;> grind))
theorem dc_impl_wantsCond (p : List TStep) (ho : StepsOk p) (i : Nat) (hi : i < p.length) : DC Try.prog 47 [.isl 6 (p.map TStep.ro), .int .i64 (i : Nat)] (.bool (wants p i)) [] := by
  rcases Nat.eq_zero_or_pos i with h | h
  · subst h; exact dc_impl_wantsCond_z p ho
  · exact dc_impl_wantsCond_s p ho i hi h
theorem dc_spec_l4Needs_z (p : List TStep) (ho : StepsOk p) : DC Try.prog 78 [.isl 6 (p.map TStep.ro), .int .i64 0] (.bool (wants p 0)) [] := by
 have hi : 0 < p.length := by have := ho.len; omega
 have hlen := ho.len
 obtain ⟨x, hx⟩ := at_some hi
 have hxS := nS_at hx
 have hx0 := ho.par0
 rw [hxS] at hx0
 refine DC.intro tiOk Try.func78 rfl rfl rfl rfl rfl rfl rfl rfl [] ?_
 refine rg [0,1] ?_
 intro k hk; simp -dsimp [go_sem, -decide_eq_true_eq, -decide_eq_false_iff_not, hx, hx0]
 repeat' first | apply And.intro | refine hk _ ?_ | intro hg | omega | exact True.intro
 all_goals clear hk k
 refine rg [0,1,5] ?_
 intro k hk; simp -dsimp [go_sem, -decide_eq_true_eq, -decide_eq_false_iff_not, hx, hx0]
 repeat' first | apply And.intro | refine hk _ ?_ | intro hg | omega | exact True.intro
 all_goals clear hk k
 refine AW.seq ?_
 refine rg [0,1,5,21] ?_
 intro k hk; simp +contextual -dsimp (maxSteps := 2000000) [go_sem, -decide_eq_true_eq, -decide_eq_false_iff_not, hx, hx0]
 repeat' first | apply And.intro | refine hk _ ?_ | (intro hg; try simp only [decide_eq_true_eq, decide_eq_false_iff_not] at hg) | omega | exact True.intro
 all_goals clear hk k
 all_goals (
 refine AW.cond rfl ?_ ?_
 ·intro hc; try simp at hc
  all_goals try (exfalso; first | omega | (simp at hc; done); done)
  all_goals (
 refine rg [4] ?_
 intro k hk; simp -dsimp [go_sem, -decide_eq_true_eq, -decide_eq_false_iff_not, hx, hx0]
 repeat' first | apply And.intro | refine hk _ ?_ | intro hg | omega | exact True.intro
 all_goals clear hk k
 refine rt ?_
 simp [go_sem, Try.results78, wants])
 ·intro hc; try simp at hc
  all_goals try (exfalso; first | omega | (simp at hc; done); done)
  all_goals (
 refine AW.skipN (fun _ h => h) ?_
 refine rg [1,6] ?_
 intro k hk; simp -dsimp (maxSteps := 2000000) [go_sem, -decide_eq_true_eq, -decide_eq_false_iff_not, hx, hx0]
 repeat' first | apply And.intro | refine hk _ ?_ | intro hg | (refine CallK.intro (fail) ?_; simp -dsimp (maxSteps := 2000000) [go_sem, -decide_eq_true_eq, -decide_eq_false_iff_not, hx, hx0]) | omega | exact True.intro
 all_goals clear hk k
 refine rg [4] ?_
 intro k hk; simp -dsimp (maxSteps := 2000000) [go_sem, -decide_eq_true_eq, -decide_eq_false_iff_not, hx, hx0]
 repeat' first | apply And.intro | refine hk _ ?_ | intro hg | omega | exact True.intro
 all_goals clear hk k
 refine rt ?_
 simp [go_sem, Try.results78, wants]))
theorem dc_spec_l4Needs_s (p : List TStep) (ho : StepsOk p) (i : Nat) (hi : i < p.length) (hi0 : 0 < i) : DC Try.prog 78 [.isl 6 (p.map TStep.ro), .int .i64 (i : Nat)] (.bool (wants p i)) [] := by
 have hlen := ho.len
 obtain ⟨x, hx⟩ := at_some hi
 have hxS := nS_at hx
 have hpi := ho.parI hi0 hi
 rw [hxS] at hpi
 obtain ⟨a, ha⟩ : ∃ a : Nat, x.par = a := ⟨_, (Int.toNat_of_nonneg hpi.1).symm⟩
 obtain ⟨y, hy⟩ := at_some (l := p) (show a < p.length by omega)
 have hyS := nS_at hy
 have hdi : decide ((i : Int) = 0) = false := decide_eq_false (by omega)
 have hdi2 : ((i : Int) = 0) = False := eq_false (by omega)
 have hdj : (i = 0) = False := eq_false (by omega)
 have hkn := ho.kids_ne hi0 hi
 rw [hxS, ha] at hkn
 have hkl := last_at hkn
 have hkm := kids_len p (a : Int)
 have hkp := List.length_pos_iff.2 hkn
 have hwl : IntKind.wrap .i64 (((kids p a).length : Int) - 1) = ((kids p a).length : Int) - 1 := wrap64 (by omega) (by omega)
 have hwt : (((kids p a).length : Int) - 1).toNat = (kids p a).length - 1 := by omega
 refine DC.intro tiOk Try.func78 rfl rfl rfl rfl rfl rfl rfl rfl [] ?_
 refine rg [0,1] ?_
 intro k hk; simp -dsimp [go_sem, -decide_eq_true_eq, -decide_eq_false_iff_not, hx, hy, ha, hdi, hdi2]
 repeat' first | apply And.intro | refine hk _ ?_ | intro hg | omega | exact True.intro
 all_goals clear hk k
 refine rg [0,1,5] ?_
 intro k hk; simp -dsimp [go_sem, -decide_eq_true_eq, -decide_eq_false_iff_not, hx, hy, ha, hdi, hdi2]
 repeat' first | apply And.intro | refine hk _ ?_ | intro hg | omega | exact True.intro
 all_goals clear hk k
 refine AW.seq ?_
 refine rg [0,1,5,21] ?_
 intro k hk; simp +contextual -dsimp (maxSteps := 2000000) [go_sem, -decide_eq_true_eq, -decide_eq_false_iff_not, hx, hy, ha, hdi, hdi2]
 repeat' first | apply And.intro | refine hk _ ?_ | (intro hg; try simp only [decide_eq_true_eq, decide_eq_false_iff_not] at hg) | omega | exact True.intro
 all_goals clear hk k
 all_goals (
 refine AW.cond rfl ?_ ?_
 ·intro hc; try simp at hc
  all_goals try (exfalso; omega; done)
  all_goals (
 refine rg [4] ?_
 intro k hk; simp -dsimp [go_sem, -decide_eq_true_eq, -decide_eq_false_iff_not, hx, hy, ha, hdi, hdi2]
 repeat' first | apply And.intro | refine hk _ ?_ | intro hg | omega | exact True.intro
 all_goals clear hk k
 refine rt ?_
 simp [go_sem, Try.results78, wants, hxS, hyS, ha, hdj, hdi2] <;> grind)
 ·intro hc; try simp at hc
  all_goals try (exfalso; omega; done)
  all_goals (
 refine AW.skipN (fun _ h => h) ?_
 refine rg [1,6] ?_
 intro k hk; simp -dsimp (maxSteps := 2000000) [go_sem, -decide_eq_true_eq, -decide_eq_false_iff_not, hx, hy, ha, hdi, hdi2]
 repeat' first | apply And.intro | refine hk _ ?_ | intro hg | (refine CallK.intro (dc_spec_l4Kids p (a : Int) (by omega) (by rw [ho.par0]; omega)) ?_; simp -dsimp (maxSteps := 2000000) [go_sem, -decide_eq_true_eq, -decide_eq_false_iff_not, hx, hy, ha, hdi, hdi2]) | omega | exact True.intro
 all_goals clear hk k
 refine rg [4] ?_
 intro k hk; simp -dsimp (maxSteps := 2000000) [go_sem, -decide_eq_true_eq, -decide_eq_false_iff_not, hx, hy, ha, hdi, hdi2, hkl, hwl, hwt]
 repeat' first | apply And.intro | refine hk _ ?_ | intro hg | omega | exact True.intro
 all_goals clear hk k
 refine rt ?_
 simp [go_sem, Try.results78, wants, hxS, hyS, ha, hdj, hdi2] <;> grind))
theorem dc_spec_l4Needs (p : List TStep) (ho : StepsOk p) (i : Nat) (hi : i < p.length) : DC Try.prog 78 [.isl 6 (p.map TStep.ro), .int .i64 (i : Nat)] (.bool (wants p i)) [] := by
  rcases Nat.eq_zero_or_pos i with h | h
  · subst h; exact dc_spec_l4Needs_z p ho
  · exact dc_spec_l4Needs_s p ho i hi h
end Go.AM
namespace Go.AM
open Go.Proofs
theorem dc_impl_isTwo (k : Int) : DC Try.prog 66 [.int .i64 k] (.bool (isTwoB k)) [] := by
 refine DC.intro tiOk Try.func66 rfl rfl rfl rfl rfl rfl rfl rfl [] ?_
 refine rgA [0] ?_
 refine rg [2] ?_
 intro k hk; simp -dsimp (maxSteps := 2000000) [go_sem, -decide_eq_true_eq, -decide_eq_false_iff_not]
 repeat' first | apply And.intro | refine hk _ ?_ | intro hg | (refine CallK.intro (dc_impl_inRange _ _ _) ?_; simp -dsimp (maxSteps := 2000000) [go_sem, -decide_eq_true_eq, -decide_eq_false_iff_not]) | omega | exact True.intro
 all_goals clear hk k
 refine rt ?_
 simp [go_sem, Try.results66, isTwoB]
theorem dc_spec_l3Two (k : Int) : DC Try.prog 89 [.int .i64 k] (.bool (isTwoB k)) [] := by
 refine DC.intro tiOk Try.func89 rfl rfl rfl rfl rfl rfl rfl rfl [] ?_
 refine rgA [0] ?_
 refine rg [2] ?_
 intro k hk; simp -dsimp (maxSteps := 2000000) [go_sem, -decide_eq_true_eq, -decide_eq_false_iff_not]
 repeat' first | apply And.intro | refine hk _ ?_ | intro hg | (refine CallK.intro (dc_spec_l1In _ _ _) ?_; simp -dsimp (maxSteps := 2000000) [go_sem, -decide_eq_true_eq, -decide_eq_false_iff_not]) | omega | exact True.intro
 all_goals clear hk k
 refine rt ?_
 simp [go_sem, Try.results89, isTwoB]
theorem dc_impl_nodeFault (n : TNode) (a : Int) (ha : 0 ≤ a ∧ a ≤ 1048576) : DC Try.prog 65 [.agg n.ro, .int .i64 a] (.int .i64 (nodeF n a)) [] := by
 have hw : IntKind.wrap .i64 (a - 1) = a - 1 := wrap64 (by omega) (by omega)
 refine DC.intro tiOk Try.func65 rfl rfl rfl rfl rfl rfl rfl rfl [] ?_
 refine rg [1,2] ?_
 intro k hk; simp -dsimp [go_sem, -decide_eq_true_eq, -decide_eq_false_iff_not, hw]
 repeat' first | apply And.intro | refine hk _ ?_ | intro hg | omega | exact True.intro
 all_goals clear hk k
 refine AW.seq ?_
 refine AW.block ?_
 refine rg [1,2,6] ?_
 intro k hk; simp +contextual -dsimp (maxSteps := 2000000) [go_sem, -decide_eq_true_eq, -decide_eq_false_iff_not, hw]
 repeat' first | apply And.intro | refine hk _ ?_ | (intro hg; try simp only [decide_eq_true_eq, decide_eq_false_iff_not] at hg) | omega | exact True.intro
 all_goals clear hk k
 all_goals (
 refine AW.cond rfl ?_ ?_
 ·intro hc; try simp at hc
  all_goals try (exfalso; omega; done)
  all_goals (
 refine rg [2,5] ?_
 intro k hk; simp -dsimp [go_sem, -decide_eq_true_eq, -decide_eq_false_iff_not, hw]
 repeat' first | apply And.intro | refine hk _ ?_ | intro hg | omega | exact True.intro
 all_goals clear hk k
 refine AW.seq ?_
 refine rg [2,5,17] ?_
 intro k hk; simp -dsimp [go_sem, -decide_eq_true_eq, -decide_eq_false_iff_not, hw]
 repeat' first | apply And.intro | refine hk _ ?_ | intro hg | omega | exact True.intro
 all_goals clear hk k
 refine AW.cond rfl ?_ ?_
 ·intro hc; try simp at hc
  all_goals try (exfalso; omega; done)
  all_goals (
 refine rgN [2,5] (fun _ h => h) ?_
 intro k hk; simp -dsimp [go_sem, -decide_eq_true_eq, -decide_eq_false_iff_not, hw]
 repeat' first | apply And.intro | refine hk _ ?_ | intro hg | omega | exact True.intro
 all_goals clear hk k
 refine rg [4] ?_
 intro k hk; simp +contextual -dsimp (maxSteps := 2000000) [go_sem, -decide_eq_true_eq, -decide_eq_false_iff_not, hw]
 repeat' first | ((refine Chk.keys ?_); simp only [go_sem, List.map_cons, List.map_nil, List.flatMap_cons, List.flatMap_nil, List.flatMap_append, List.append_nil, List.nil_append, List.cons_append]; decide +kernel) | apply And.intro | refine hk _ ?_ | (intro hg; try simp only [decide_eq_true_eq, decide_eq_false_iff_not] at hg) | ((first | refine CallK.intro (dc_impl_codeIf _ _) ?_ | refine CallK.intro (dc_impl_inRange _ _ _) ?_ | refine CallK.intro (dc_impl_firstCode [_, _] (by simp)) ?_ | refine CallK.intro (dc_impl_firstCode [_, _, _] (by simp)) ?_ | refine CallK.intro (dc_impl_firstCode [_, _, _, _] (by simp)) ?_); simp +contextual -dsimp (maxSteps := 2000000) [go_sem, -decide_eq_true_eq, -decide_eq_false_iff_not, hw]) | omega | exact True.intro
 all_goals clear hk k
 all_goals (
 refine rt ?_
 simp [go_sem, Try.results65, nodeF, firstC_cons, firstC_nil, inR, isTwoB] at * <;> grind))
 ·intro hc; try simp at hc
  all_goals try (exfalso; omega; done)
  all_goals (
 refine AW.skipN (fun _ h => h) ?_
 refine rg [4] ?_
 intro k hk; simp +contextual -dsimp (maxSteps := 2000000) [go_sem, -decide_eq_true_eq, -decide_eq_false_iff_not, hw]
 repeat' first | ((refine Chk.keys ?_); simp only [go_sem, List.map_cons, List.map_nil, List.flatMap_cons, List.flatMap_nil, List.flatMap_append, List.append_nil, List.nil_append, List.cons_append]; decide +kernel) | apply And.intro | refine hk _ ?_ | (intro hg; try simp only [decide_eq_true_eq, decide_eq_false_iff_not] at hg) | ((first | refine CallK.intro (dc_impl_codeIf _ _) ?_ | refine CallK.intro (dc_impl_inRange _ _ _) ?_ | refine CallK.intro (dc_impl_firstCode [_, _] (by simp)) ?_ | refine CallK.intro (dc_impl_firstCode [_, _, _] (by simp)) ?_ | refine CallK.intro (dc_impl_firstCode [_, _, _, _] (by simp)) ?_); simp +contextual -dsimp (maxSteps := 2000000) [go_sem, -decide_eq_true_eq, -decide_eq_false_iff_not, hw]) | omega | exact True.intro
 all_goals clear hk k
 all_goals (
 refine rt ?_
 simp [go_sem, Try.results65, nodeF, firstC_cons, firstC_nil, inR, isTwoB] at * <;> grind)))
 ·intro hc; try simp at hc
  all_goals try (exfalso; omega; done)
  all_goals (
 refine rg [1,2,35] ?_
 intro k hk; simp -dsimp [go_sem, -decide_eq_true_eq, -decide_eq_false_iff_not, hw]
 repeat' first | apply And.intro | refine hk _ ?_ | intro hg | omega | exact True.intro
 all_goals clear hk k
 refine AW.cond rfl ?_ ?_
 ·intro hc; try simp at hc
  all_goals try (exfalso; omega; done)
  all_goals (
 refine rg [4] ?_
 intro k hk; simp +contextual -dsimp (maxSteps := 2000000) [go_sem, -decide_eq_true_eq, -decide_eq_false_iff_not, hw]
 repeat' first | ((refine Chk.keys ?_); simp only [go_sem, List.map_cons, List.map_nil, List.flatMap_cons, List.flatMap_nil, List.flatMap_append, List.append_nil, List.nil_append, List.cons_append]; decide +kernel) | apply And.intro | refine hk _ ?_ | (intro hg; try simp only [decide_eq_true_eq, decide_eq_false_iff_not] at hg) | ((first | refine CallK.intro (dc_impl_codeIf _ _) ?_ | refine CallK.intro (dc_impl_inRange _ _ _) ?_ | refine CallK.intro (dc_impl_firstCode [_, _] (by simp)) ?_ | refine CallK.intro (dc_impl_firstCode [_, _, _] (by simp)) ?_ | refine CallK.intro (dc_impl_firstCode [_, _, _, _] (by simp)) ?_); simp +contextual -dsimp (maxSteps := 2000000) [go_sem, -decide_eq_true_eq, -decide_eq_false_iff_not, hw]) | omega | exact True.intro
 all_goals clear hk k
 all_goals (
 refine rt ?_
 simp [go_sem, Try.results65, nodeF, firstC_cons, firstC_nil, inR, isTwoB] at * <;> grind))
 ·intro hc; try simp at hc
  all_goals try (exfalso; omega; done)
  all_goals (
 refine rg [1,2,57] ?_
 intro k hk; simp -dsimp (maxSteps := 2000000) [go_sem, -decide_eq_true_eq, -decide_eq_false_iff_not, hw]
 repeat' first | apply And.intro | refine hk _ ?_ | intro hg | (refine CallK.intro (dc_impl_isTwo _) ?_; simp -dsimp (maxSteps := 2000000) [go_sem, -decide_eq_true_eq, -decide_eq_false_iff_not, hw]) | omega | exact True.intro
 all_goals clear hk k
 refine AW.cond rfl ?_ ?_
 ·intro hc; try simp at hc
  all_goals try (exfalso; omega; done)
  all_goals (
 refine rg [4] ?_
 intro k hk; simp +contextual -dsimp (maxSteps := 2000000) [go_sem, -decide_eq_true_eq, -decide_eq_false_iff_not, hw]
 repeat' first | ((refine Chk.keys ?_); simp only [go_sem, List.map_cons, List.map_nil, List.flatMap_cons, List.flatMap_nil, List.flatMap_append, List.append_nil, List.nil_append, List.cons_append]; decide +kernel) | apply And.intro | refine hk _ ?_ | (intro hg; try simp only [decide_eq_true_eq, decide_eq_false_iff_not] at hg) | ((first | refine CallK.intro (dc_impl_codeIf _ _) ?_ | refine CallK.intro (dc_impl_inRange _ _ _) ?_ | refine CallK.intro (dc_impl_firstCode [_, _] (by simp)) ?_ | refine CallK.intro (dc_impl_firstCode [_, _, _] (by simp)) ?_ | refine CallK.intro (dc_impl_firstCode [_, _, _, _] (by simp)) ?_); simp +contextual -dsimp (maxSteps := 2000000) [go_sem, -decide_eq_true_eq, -decide_eq_false_iff_not, hw]) | omega | exact True.intro
 all_goals clear hk k
 all_goals (
 refine rt ?_
 simp [go_sem, Try.results65, nodeF, firstC_cons, firstC_nil, inR, isTwoB] at * <;> grind))
 ·intro hc; try simp at hc
  all_goals try (exfalso; omega; done)
  all_goals (
 refine AW.skipN (fun _ h => h) ?_
 refine rg [4] ?_
 intro k hk; simp -dsimp [go_sem, -decide_eq_true_eq, -decide_eq_false_iff_not, hw]
 repeat' first | apply And.intro | refine hk _ ?_ | intro hg | omega | exact True.intro
 all_goals clear hk k
 refine rt ?_
 simp [go_sem, Try.results65, nodeF, firstC_cons, firstC_nil, inR, isTwoB] at * <;> grind))))
set_option maxHeartbeats 2000000 in
theorem dc_spec_l3Node (n : TNode) (a : Int) (ha : 0 ≤ a ∧ a ≤ 1048576) : DC Try.prog 85 [.ip n.ro, .int .i64 a] (.int .i64 (nodeF n a)) [] := by
 have hw : IntKind.wrap .i64 (a - 1) = a - 1 := wrap64 (by omega) (by omega)
 refine DC.intro tiOk Try.func85 rfl rfl rfl rfl rfl rfl rfl rfl [] ?_
 refine rg [0,1] ?_
 intro k hk; simp -dsimp [go_sem, -decide_eq_true_eq, -decide_eq_false_iff_not, hw]
 repeat' first | apply And.intro | refine hk _ ?_ | intro hg | omega | exact True.intro
 all_goals clear hk k
 refine AW.seq ?_
 refine rg [0,1,11] ?_
 intro k hk; simp -dsimp (maxSteps := 2000000) [go_sem, -decide_eq_true_eq, -decide_eq_false_iff_not, hw]
 repeat' first | apply And.intro | refine hk _ ?_ | intro hg | (refine CallK.intro (dc_spec_l1In _ _ _) ?_; simp -dsimp (maxSteps := 2000000) [go_sem, -decide_eq_true_eq, -decide_eq_false_iff_not, hw]) | omega | exact True.intro
 all_goals clear hk k
 refine AW.cond rfl ?_ ?_
 ·intro hc; try simp at hc
  all_goals try (exfalso; omega; done)
  all_goals (
 refine rg [4] ?_
 intro k hk; simp -dsimp [go_sem, -decide_eq_true_eq, -decide_eq_false_iff_not, hw]
 repeat' first | apply And.intro | refine hk _ ?_ | intro hg | omega | exact True.intro
 all_goals clear hk k
 refine rt ?_
 simp [go_sem, Try.results85, nodeF, firstC_cons, firstC_nil, inR, isTwoB] at * <;> grind)
 ·intro hc; try simp at hc
  all_goals try (exfalso; omega; done)
  all_goals (
 refine AW.skipN (fun _ h => h) ?_
 refine rg [0,1,5] ?_
 intro k hk; simp -dsimp [go_sem, -decide_eq_true_eq, -decide_eq_false_iff_not, hw]
 repeat' first | apply And.intro | refine hk _ ?_ | intro hg | omega | exact True.intro
 all_goals clear hk k
 refine AW.seq ?_
 refine AW.cut ⟨114, [(0, .ip n.ro), (1, .int .i64 a), (5, .bool (decide (n.kind ≤ 2))), (56, .bool (decide ((n.kind ≤ 2 ∧ (n.left ≠ 0 ∨ n.right ≠ 0)) ∨ (2 < n.kind ∧ n.val ≠ 0) ∨ (n.kind = 10 ∧ n.right ≠ 0))))], []⟩ ?_ ?_
 ·skip
  refine rgK ?_
  intro k hk; simp +contextual -dsimp (maxSteps := 2000000) [go_sem, -decide_eq_true_eq, -decide_eq_false_iff_not, hw]
  repeat' first | apply And.intro | refine hk _ ?_ | (intro hg; try simp only [decide_eq_true_eq, decide_eq_false_iff_not] at hg) | omega | exact True.intro
  all_goals clear hk k
  all_goals (show St.Less _ _; exact Less.of rfl (by simp [go_sem] <;> first | omega | grind) (by simp [go_sem]))
 ·skip
  refine AW.cond rfl ?_ ?_
  ·intro hc; try simp at hc
   all_goals try (exfalso; omega; done)
   all_goals (
 refine rg [4] ?_
 intro k hk; simp -dsimp [go_sem, -decide_eq_true_eq, -decide_eq_false_iff_not, hw]
 repeat' first | apply And.intro | refine hk _ ?_ | intro hg | omega | exact True.intro
 all_goals clear hk k
 refine rt ?_
 simp [go_sem, Try.results85, nodeF, firstC_cons, firstC_nil, inR, isTwoB] at * <;> grind)
  ·intro hc; try simp at hc
   all_goals try (exfalso; omega; done)
   all_goals (
 refine AW.skipN (fun _ h => h) ?_
 refine AW.seq ?_
 refine AW.cut ⟨114, [(0, .ip n.ro), (1, .int .i64 a), (5, .bool (decide (n.kind ≤ 2))), (84, .bool (decide ((n.kind = 1 ∧ (n.val < 0 ∨ 9999 < n.val)) ∨ (n.kind = 2 ∧ (n.val < 0 ∨ 3 < n.val)))))], []⟩ ?_ ?_
 ·skip
  refine rgK ?_
  intro k hk; simp +contextual -dsimp (maxSteps := 2000000) [go_sem, -decide_eq_true_eq, -decide_eq_false_iff_not, hw]
  repeat' first | apply And.intro | refine hk _ ?_ | (intro hg; try simp only [decide_eq_true_eq, decide_eq_false_iff_not] at hg) | (refine CallK.intro (dc_spec_l1In _ _ _) ?_; simp +contextual -dsimp (maxSteps := 2000000) [go_sem, -decide_eq_true_eq, -decide_eq_false_iff_not, hw]) | omega | exact True.intro
  all_goals clear hk k
  all_goals (show St.Less _ _; exact Less.of rfl (by simp [go_sem, inR] <;> first | omega | grind [inR]) (by simp [go_sem]))
 ·skip
  refine AW.cond rfl ?_ ?_
  ·intro hc; try simp at hc
   all_goals try (exfalso; omega; done)
   all_goals (
 refine rg [4] ?_
 intro k hk; simp -dsimp [go_sem, -decide_eq_true_eq, -decide_eq_false_iff_not, hw]
 repeat' first | apply And.intro | refine hk _ ?_ | intro hg | omega | exact True.intro
 all_goals clear hk k
 refine rt ?_
 simp [go_sem, Try.results85, nodeF, firstC_cons, firstC_nil, inR, isTwoB] at * <;> grind)
  ·intro hc; try simp at hc
   all_goals try (exfalso; omega; done)
   all_goals (
 refine AW.skipN (fun _ h => h) ?_
 refine AW.seq ?_
 refine rg [113] ?_
 intro k hk; simp +contextual -dsimp (maxSteps := 2000000) [go_sem, -decide_eq_true_eq, -decide_eq_false_iff_not, hw]
 repeat' first | apply And.intro | refine hk _ ?_ | (intro hg; try simp only [decide_eq_true_eq, decide_eq_false_iff_not] at hg) | ((first | refine CallK.intro (dc_spec_l1In _ _ _) ?_ | refine CallK.intro (dc_spec_l3Two _) ?_); simp +contextual -dsimp (maxSteps := 2000000) [go_sem, -decide_eq_true_eq, -decide_eq_false_iff_not, hw]) | omega | exact True.intro
 all_goals clear hk k
 all_goals (
 refine AW.cond rfl ?_ ?_
 ·intro hc; try simp at hc
  all_goals try (exfalso; omega; done)
  all_goals (
 refine rg [4] ?_
 intro k hk; simp -dsimp [go_sem, -decide_eq_true_eq, -decide_eq_false_iff_not, hw]
 repeat' first | apply And.intro | refine hk _ ?_ | intro hg | omega | exact True.intro
 all_goals clear hk k
 refine rt ?_
 simp [go_sem, Try.results85, nodeF, firstC_cons, firstC_nil, inR, isTwoB] at * <;> grind)
 ·intro hc; try simp at hc
  all_goals try (exfalso; omega; done)
  all_goals (
 refine AW.skipN (fun _ h => h) ?_
 refine rg [4] ?_
 intro k hk; simp -dsimp [go_sem, -decide_eq_true_eq, -decide_eq_false_iff_not, hw]
 repeat' first | apply And.intro | refine hk _ ?_ | intro hg | omega | exact True.intro
 all_goals clear hk k
 refine rt ?_
 simp [go_sem, Try.results85, nodeF, firstC_cons, firstC_nil, inR, isTwoB] at * <;> grind)))))
end Go.AM
namespace Go.AM
open Go.Proofs
theorem dc_impl_ExprFault (e : List TNode) (he : e.length ≤ 9223372036854775807) : DC Try.prog 44 [.isl 4 (e.map TNode.ro)] (.int .i64 (exprF e)) [] := by
 refine DC.intro tiOk Try.func44 rfl rfl rfl rfl rfl rfl rfl rfl [] ?_
 refine rgA [0] ?_
 refine AW.seq ?_
 refine rg [0,15] ?_
 intro k hk; simp -dsimp (maxSteps := 2000000) [go_sem, -decide_eq_true_eq, -decide_eq_false_iff_not]
 repeat' first | apply And.intro | refine hk _ ?_ | intro hg | (refine CallK.intro (dc_impl_inRange _ _ _) ?_; simp -dsimp (maxSteps := 2000000) [go_sem, -decide_eq_true_eq, -decide_eq_false_iff_not]) | omega | exact True.intro
 all_goals clear hk k
 refine AW.cond rfl ?_ ?_
 ·intro hc; try simp at hc
  all_goals (
 refine rgA [2] ?_
 refine rt ?_
 first | (rw [exprF_len (by simpa using hc)]; simp [go_sem, Try.results44]; done) | (rw [exprF_node hR hlt hall (by rw [hxn]; assumption), hxn]; simp [go_sem, Try.results44]; done) | (rw [exprF_end hR hN]; simp [go_sem, Try.results44] <;> grind))
 ·intro hc; try simp at hc
  all_goals (
 refine AW.skipN (fun _ h => h) ?_
 refine AW.seq ?_
 have hR : inR e.length 1 16 = true := by simpa using hc
 have hlen := inR_iff.1 hR
 refine rgA [0,16,17,18] ?_
 refine AW.block ?_
 refine AW.loopI (fun i : Nat => ⟨112, [(0, .isl 4 (e.map TNode.ro)), (16, .isl 4 (e.map TNode.ro)), (17, .int .i64 e.length), (18, .int .i64 i)], []⟩) (fun i => i ≤ e.length ∧ ∀ k, k < i → nodeAt e k = 0) (fun i => e.length - i) (0) (by simp) (Less.of rfl (by simp [go_sem]) (by simp [go_sem])) ?_
 rintro i ⟨hi, hall⟩
 refine rgA [0,16,17,18,19] ?_
 refine AW.seq ?_
 refine AW.cond rfl ?_ ?_
 ·intro hc; try simp at hc
  all_goals (
 have hlt : i < e.length := by assumption
 obtain ⟨x, hx⟩ := at_some hlt
 have hxn := nodeAt_at hx
 refine AW.skipN (fun _ h => h) ?_
 refine AW.seq ?_
 refine AW.block ?_
 refine rg [0,3,4,16,17,18] ?_
 intro k hk; simp -dsimp [go_sem, -decide_eq_true_eq, -decide_eq_false_iff_not, hx]
 repeat' first | apply And.intro | refine hk _ ?_ | intro hg | omega | exact True.intro
 all_goals clear hk k
 refine rg [0,5,16,17,18] ?_
 intro k hk; simp -dsimp (maxSteps := 2000000) [go_sem, -decide_eq_true_eq, -decide_eq_false_iff_not, hx]
 repeat' first | apply And.intro | refine hk _ ?_ | intro hg | (refine CallK.intro (dc_impl_nodeFault x i (by omega)) ?_; simp -dsimp (maxSteps := 2000000) [go_sem, -decide_eq_true_eq, -decide_eq_false_iff_not, hx]) | omega | exact True.intro
 all_goals clear hk k
 refine rg [0,5,16,17,18,27] ?_
 intro k hk; simp -dsimp [go_sem, -decide_eq_true_eq, -decide_eq_false_iff_not, hx]
 repeat' first | apply And.intro | refine hk _ ?_ | intro hg | omega | exact True.intro
 all_goals clear hk k
 refine AW.cond rfl ?_ ?_
 ·intro hc; try simp at hc
  all_goals (
 refine rg [2] ?_
 intro k hk; simp -dsimp [go_sem, -decide_eq_true_eq, -decide_eq_false_iff_not, hx]
 repeat' first | apply And.intro | refine hk _ ?_ | intro hg | omega | exact True.intro
 all_goals clear hk k
 refine rt ?_
 first | (rw [exprF_len (by simpa using hc)]; simp [go_sem, Try.results44]; done) | (rw [exprF_node hR hlt hall (by rw [hxn]; assumption), hxn]; simp [go_sem, Try.results44]; done) | (rw [exprF_end hR hN]; simp [go_sem, Try.results44] <;> grind))
 ·intro hc; try simp at hc
  all_goals (
 refine AW.skipN (fun _ h => h) ?_
 refine rgK ?_
 intro k hk; simp -dsimp [go_sem, -decide_eq_true_eq, -decide_eq_false_iff_not, hx]
 repeat' first | apply And.intro | refine hk _ ?_ | intro hg | omega | exact True.intro
 all_goals clear hk k
 show ∃ _, _
 have hw := wrapi hlt (by omega)
 refine ⟨i + 1, ⟨by omega, upto hall (by rw [hxn]; first | assumption | simpa using hc)⟩, by omega, Less.of rfl (by simp [go_sem, hw]) (by simp [go_sem])⟩))
 ·intro hc; try simp at hc
  all_goals (
 refine AW.exitN (fun _ h => h) ?_
 have hN : ∀ k, k < e.length → nodeAt e k = 0 := fun k hk => hall k (by omega)
 have hP : PartsOk e e.length := hN
 refine rgA [0,6,7] ?_
 refine AW.seq ?_
 refine rgA [0,6,7,31,32,33] ?_
 refine AW.block ?_
 refine AW.rename (nd := ?nd_1) 30 97 ?h1_1 ?h2_1 ?h4_1 ?kk_1
 (case h1_1 => exact rfl)
 (case h2_1 => simp [go_sem])
 (case h4_1 => simp [go_sem])
 refine AW.loopI (fun i : Nat => ⟨112, [(0, .isl 4 (e.map TNode.ro)), (6, .sl 97 1 0 i), (7, .bool (wrongU e i)), (31, .isl 4 (e.map TNode.ro)), (32, .int .i64 e.length), (33, .int .i64 i)], [(97, some ⟨1, (sizesL e i).map I1⟩)]⟩) (fun i => i ≤ e.length) (fun i => e.length - i) (0) (by simp) (Less.of rfl (by simp [go_sem, wrongU]) (by simp [go_sem, sizesL])) ?_
 rintro i hi
 refine AW.rename (nd := ?nd_2) 97 30 ?h1_2 ?h2_2 ?h4_2 ?kk_2
 (case h1_2 => exact rfl)
 (case h2_2 => simp [go_sem])
 (case h4_2 => simp [go_sem])
 refine rgA [0,6,7,31,32,33,34] ?_
 refine AW.seq ?_
 refine AW.cond rfl ?_ ?_
 ·intro hc; try simp at hc
  all_goals (
 have hlt : i < e.length := by assumption
 obtain ⟨x, hx⟩ := at_some hlt
 have hxn := nodeAt_at hx
 have hpx := hN i hlt
 rw [hxn] at hpx
 have hq := nodeF_parts hpx
 have hsl := sizesL_len e i
 have htk : List.take i ((sizesL e i).map I1) = (sizesL e i).map I1 := List.take_of_length_le (by simp [hsl])
 have hszA := szA_at hx hpx
 have hwrA := wrongU_at hx
 have hsbi := sz_bd hP hlt (by omega)
 have hwi : IntKind.wrap .i64 ((i : Int) - 1) = (i : Int) - 1 := wrap64 (by omega) (by omega)
 refine AW.skipN (fun _ h => h) ?_
 refine AW.seq ?_
 refine AW.block ?_
 refine rg [0,6,7,8,9,31,32,33] ?_
 intro k hk; simp -dsimp [go_sem, -decide_eq_true_eq, -decide_eq_false_iff_not, hx, hwi, hsl]
 repeat' first | apply And.intro | refine hk _ ?_ | intro hg | omega | exact True.intro
 all_goals clear hk k
 refine rg [0,6,7,9,10,11,31,32,33] ?_
 intro k hk; simp -dsimp [go_sem, -decide_eq_true_eq, -decide_eq_false_iff_not, hx, hwi, hsl]
 repeat' first | apply And.intro | refine hk _ ?_ | intro hg | omega | exact True.intro
 all_goals clear hk k
 refine AW.seq ?_
 refine AW.block ?_
 refine rg [0,6,7,9,10,11,31,32,33,40] ?_
 intro k hk; simp -dsimp [go_sem, -decide_eq_true_eq, -decide_eq_false_iff_not, hx, hwi, hsl]
 repeat' first | apply And.intro | refine hk _ ?_ | intro hg | omega | exact True.intro
 all_goals clear hk k
 refine AW.cond rfl ?_ ?_
 ·intro hc; try simp at hc
  all_goals (
 have hk : x.kind = 10 := by simpa using hc
 have hl := hq.1 hk
 have hsA := sizesL_at (e := e) hl.2
 have hsb := sz_bd hP (i := x.left.toNat) (by omega) (by omega)
 have hw1 : IntKind.wrap .i64 (1 + szA e x.left.toNat) = 1 + szA e x.left.toNat := wrap64 (by omega) (by omega)
 refine rg [0,6,7,9,11,31,32,33] ?_
 intro k hk; simp +contextual -dsimp (maxSteps := 2000000) [go_sem, -decide_eq_true_eq, -decide_eq_false_iff_not, hx, hwi, hsl, hsA]
 repeat' first | apply And.intro | refine hk _ ?_ | (intro hg; try simp only [decide_eq_true_eq, decide_eq_false_iff_not] at hg) | omega | exact True.intro
 all_goals clear hk k
 all_goals (
 refine rgN [0,6,7,11,31,32,33] (fun _ h => h) ?_
 intro k hk; simp -dsimp (maxSteps := 2000000) [go_sem, -decide_eq_true_eq, -decide_eq_false_iff_not, hx, hwi, hsl, hsA, hw1]
 repeat' first | apply And.intro | refine hk _ ?_ | intro hg | omega | exact True.intro
 all_goals clear hk k
 refine rgN [0,6,7,31,32,33] (fun _ h => h) ?_
 intro k hk; simp -dsimp [go_sem, -decide_eq_true_eq, -decide_eq_false_iff_not, hx, hwi, hsl]
 repeat' first | apply And.intro | refine hk _ ?_ | intro hg | omega | exact True.intro
 all_goals clear hk k
 refine rgK ?_
 intro k hk; simp -dsimp [go_sem, -decide_eq_true_eq, -decide_eq_false_iff_not, hx, hwi, hsl]
 repeat' first | apply And.intro | refine hk _ ?_ | intro hg | omega | exact True.intro
 all_goals clear hk k
 show ∃ _, _
 have hw := wrapi hlt (by omega)
 refine ⟨i + 1, by omega, by omega, Less.of rfl (by simp [go_sem, hw, hwrA, *]) (by simp [go_sem, sizesL_succ, hszA, *])⟩))
 ·intro hc; try simp at hc
  all_goals (
 refine rg [0,6,7,9,10,11,31,32,33,58] ?_
 intro k hk; simp -dsimp (maxSteps := 2000000) [go_sem, -decide_eq_true_eq, -decide_eq_false_iff_not, hx, hwi, hsl]
 repeat' first | apply And.intro | refine hk _ ?_ | intro hg | (refine CallK.intro (dc_impl_isTwo _) ?_; simp -dsimp (maxSteps := 2000000) [go_sem, -decide_eq_true_eq, -decide_eq_false_iff_not, hx, hwi, hsl]) | omega | exact True.intro
 all_goals clear hk k
 refine AW.cond rfl ?_ ?_
 ·intro hc; try simp at hc
  all_goals (
 have hk : isTwoB x.kind = true := by simpa using hc
 have hl := hq.2.1 hk
 have hsA := sizesL_at (e := e) hl.2.1
 have hsB := sizesL_at (e := e) hl.2.2.2
 have hsb := sz_bd hP (i := x.left.toNat) (by omega) (by omega)
 have hsb2 := sz_bd hP (i := x.right.toNat) (by omega) (by omega)
 have hw1 : IntKind.wrap .i64 (szA e x.left.toNat + szA e x.right.toNat) = szA e x.left.toNat + szA e x.right.toNat := wrap64 (by omega) (by omega)
 have hw2 : IntKind.wrap .i64 (1 + (szA e x.left.toNat + szA e x.right.toNat)) = 1 + (szA e x.left.toNat + szA e x.right.toNat) := wrap64 (by omega) (by omega)
 have hw3 : IntKind.wrap .i64 ((i : Int) - 1 - szA e x.right.toNat) = (i : Int) - 1 - szA e x.right.toNat := wrap64 (by omega) (by omega)
 refine rg [0,6,7,9,11,31,32,33] ?_
 intro k hk; simp +contextual -dsimp (maxSteps := 2000000) [go_sem, -decide_eq_true_eq, -decide_eq_false_iff_not, hx, hwi, hsl, hsA, hsB, hw3]
 repeat' first | ((refine Chk.keys ?_); simp only [go_sem, List.map_cons, List.map_nil, List.flatMap_cons, List.flatMap_nil, List.flatMap_append, List.append_nil, List.nil_append, List.cons_append]; decide +kernel) | apply And.intro | refine hk _ ?_ | (intro hg; try simp only [decide_eq_true_eq, decide_eq_false_iff_not] at hg) | omega | exact True.intro
 all_goals clear hk k
 all_goals (
 refine rgN [0,6,7,11,31,32,33] (fun _ h => h) ?_
 intro k hk; simp -dsimp (maxSteps := 2000000) [go_sem, -decide_eq_true_eq, -decide_eq_false_iff_not, hx, hwi, hsl, hsA, hsB, hw1, hw2]
 repeat' first | ((refine Chk.keys ?_); simp only [go_sem, List.map_cons, List.map_nil, List.flatMap_cons, List.flatMap_nil, List.flatMap_append, List.append_nil, List.nil_append, List.cons_append]; decide +kernel) | apply And.intro | refine hk _ ?_ | intro hg | omega | exact True.intro
 all_goals clear hk k
 refine rgN [0,6,7,31,32,33] (fun _ h => h) ?_
 intro k hk; simp -dsimp [go_sem, -decide_eq_true_eq, -decide_eq_false_iff_not, hx, hwi, hsl]
 repeat' first | apply And.intro | refine hk _ ?_ | intro hg | omega | exact True.intro
 all_goals clear hk k
 refine rgK ?_
 intro k hk; simp -dsimp [go_sem, -decide_eq_true_eq, -decide_eq_false_iff_not, hx, hwi, hsl]
 repeat' first | apply And.intro | refine hk _ ?_ | intro hg | omega | exact True.intro
 all_goals clear hk k
 show ∃ _, _
 have hw := wrapi hlt (by omega)
 refine ⟨i + 1, by omega, by omega, Less.of rfl (by simp [go_sem, hw, hwrA, *]) (by simp [go_sem, sizesL_succ, hszA, *])⟩))
 ·intro hc; try simp at hc
  all_goals (
 refine AW.skipN (fun _ h => h) ?_
 refine rgN [0,6,7,31,32,33] (fun _ h => h) ?_
 intro k hk; simp -dsimp [go_sem, -decide_eq_true_eq, -decide_eq_false_iff_not, hx, hwi, hsl]
 repeat' first | apply And.intro | refine hk _ ?_ | intro hg | omega | exact True.intro
 all_goals clear hk k
 refine rgK ?_
 intro k hk; simp -dsimp [go_sem, -decide_eq_true_eq, -decide_eq_false_iff_not, hx, hwi, hsl]
 repeat' first | apply And.intro | refine hk _ ?_ | intro hg | omega | exact True.intro
 all_goals clear hk k
 show ∃ _, _
 have hw := wrapi hlt (by omega)
 refine ⟨i + 1, by omega, by omega, Less.of rfl (by simp [go_sem, hw, hwrA, *]) (by simp [go_sem, sizesL_succ, hszA, *])⟩)))
 ·intro hc; try simp at hc
  all_goals (
 refine AW.exitN (fun _ h => h) ?_
 have hie : i = e.length := by omega
 subst hie
 have hsl := sizesL_len e e.length
 have hlast := sizesL_at (e := e) (show e.length - 1 < e.length by omega)
 have hwl : IntKind.wrap .i64 ((e.length : Int) - 1) = (e.length : Int) - 1 := wrap64 (by omega) (by omega)
 have hwt : ((e.length : Int) - 1).toNat = e.length - 1 := by omega
 refine rg [2] ?_
 intro k hk; simp +contextual -dsimp (maxSteps := 2000000) [go_sem, -decide_eq_true_eq, -decide_eq_false_iff_not, hwl, hwt, hlast, hsl]
 repeat' first | apply And.intro | refine hk _ ?_ | (intro hg; try simp only [decide_eq_true_eq, decide_eq_false_iff_not] at hg) | (refine CallK.intro (dc_impl_codeIf _ _) ?_; simp +contextual -dsimp (maxSteps := 2000000) [go_sem, -decide_eq_true_eq, -decide_eq_false_iff_not, hwl, hwt, hlast, hsl]) | omega | exact True.intro
 all_goals clear hk k
 all_goals (
 refine rt ?_
 first | (rw [exprF_len (by simpa using hc)]; simp [go_sem, Try.results44]; done) | (rw [exprF_node hR hlt hall (by rw [hxn]; assumption), hxn]; simp [go_sem, Try.results44]; done) | (rw [exprF_end hR hN]; simp [go_sem, Try.results44] <;> grind)))))
end Go.AM
namespace Go.AM
open Go.Proofs
theorem dc_impl_partType (k : Int) : DC Try.prog 67 [.int .i64 k] (.tup [.int .i64 (partT k), .int .i64 (ownT k)]) [] := by
 refine DC.intro tiOk Try.func67 rfl rfl rfl rfl rfl rfl rfl rfl [] ?_
 refine rgA [0] ?_
 refine AW.seq ?_
 refine AW.block ?_
 refine rgA [0,4] ?_
 refine AW.cond rfl ?_ ?_
 ·intro hc; try simp at hc
  all_goals (
 refine rgA [2,3] ?_
 refine rt ?_
 simp [go_sem, Try.results67, partT, ownT] <;> grind)
 ·intro hc; try simp at hc
  all_goals (
 refine rgA [7] ?_
 refine AW.cond rfl ?_ ?_
 ·intro hc; try simp at hc
  all_goals (
 refine rgA [2,3] ?_
 refine rt ?_
 simp [go_sem, Try.results67, partT, ownT] <;> grind)
 ·intro hc; try simp at hc
  all_goals (
 refine AW.skipN (fun _ h => h) ?_
 refine rgA [2,3] ?_
 refine rt ?_
 simp [go_sem, Try.results67, partT, ownT] <;> grind))
theorem dc_impl_TypeOf (e : List TNode) (he : e.length ≤ 9223372036854775807) : DC Try.prog 48 [.isl 4 (e.map TNode.ro)] (.agg [.int .i64 (typC e), .int .i64 (typV e)]) [] := by
 refine DC.intro tiOk Try.func48 rfl rfl rfl rfl rfl rfl rfl rfl [] ?_
 refine rg [0,2] ?_
 intro k hk; simp -dsimp [go_sem, -decide_eq_true_eq, -decide_eq_false_iff_not]
 repeat' first | apply And.intro | refine hk _ ?_ | intro hg | omega | exact True.intro | (have h9 := hr (by assumption); omega) | fail
 all_goals clear hk k
 refine AW.seq ?_
 refine rg [0,2,3] ?_
 intro k hk; simp -dsimp (maxSteps := 2000000) [go_sem, -decide_eq_true_eq, -decide_eq_false_iff_not]
 repeat' first | apply And.intro | refine hk _ ?_ | intro hg | (refine CallK.intro (dc_impl_ExprFault e he) ?_; simp -dsimp (maxSteps := 2000000) [go_sem, -decide_eq_true_eq, -decide_eq_false_iff_not]) | omega | exact True.intro | (have h9 := hr (by assumption); omega) | fail
 all_goals clear hk k
 refine rg [0,2,3,12] ?_
 intro k hk; simp -dsimp [go_sem, -decide_eq_true_eq, -decide_eq_false_iff_not]
 repeat' first | apply And.intro | refine hk _ ?_ | intro hg | omega | exact True.intro | (have h9 := hr (by assumption); omega) | fail
 all_goals clear hk k
 refine AW.cond rfl ?_ ?_
 ·intro hc; try simp at hc
  all_goals (
 refine rg [2] ?_
 intro k hk; simp -dsimp [go_sem, -decide_eq_true_eq, -decide_eq_false_iff_not]
 repeat' first | apply And.intro | refine hk _ ?_ | intro hg | omega | exact True.intro | (have h9 := hr (by assumption); omega) | fail
 all_goals clear hk k
 refine rt ?_
 first | (obtain ⟨h8, h9⟩ := typC_f (show exprF e ≠ 0 by first | assumption | simpa using hc); simp [go_sem, Try.results48, h8, h9]; done) | (obtain ⟨h8, h9⟩ := typC_b h0 (typU_hit hlt (by first | assumption | simpa using hc)); simp [go_sem, Try.results48, h8, h9]; done) | (obtain ⟨h8, h9⟩ := typC_k h0 hu; simp [go_sem, Try.results48, h8, h9]))
 ·intro hc; try simp at hc
  all_goals (
 refine AW.skipN (fun _ h => h) ?_
 have h0 : exprF e = 0 := by simpa using hc
 obtain ⟨hR, hP⟩ := exprF_zero h0
 have hlen := inR_iff.1 hR
 refine rg [0,2,4] ?_
 intro k hk; simp -dsimp [go_sem, -decide_eq_true_eq, -decide_eq_false_iff_not]
 repeat' first | apply And.intro | refine hk _ ?_ | intro hg | omega | exact True.intro | (have h9 := hr (by assumption); omega) | fail
 all_goals clear hk k
 refine AW.seq ?_
 refine rg [2,4,16,17,18] ?_
 intro k hk; simp -dsimp [go_sem, -decide_eq_true_eq, -decide_eq_false_iff_not]
 repeat' first | apply And.intro | refine hk _ ?_ | intro hg | omega | exact True.intro | (have h9 := hr (by assumption); omega) | fail
 all_goals clear hk k
 refine AW.block ?_
 refine AW.rename (nd := ?nd_1) 15 58 ?h1_1 ?h2_1 ?h4_1 ?kk_1
 (case h1_1 => exact rfl)
 (case h2_1 => simp [go_sem])
 (case h4_1 => simp [go_sem])
 refine AW.loopI (fun i : Nat => ⟨67, [(2, .ptr 2 2 0 0), (4, .sl 58 1 0 i), (16, .isl 4 (e.map TNode.ro)), (17, .int .i64 e.length), (18, .int .i64 i)], [(2, some ⟨2, [[.int .i64 0, .int .i64 0]]⟩), (58, some ⟨1, (typesL e i).map I1⟩)]⟩) (fun i => i ≤ e.length ∧ typU e i = false) (fun i => e.length - i) (0) (by simp [typU]) (Less.of rfl (by simp [go_sem]) (by simp [go_sem, typesL])) ?_
 rintro i ⟨hi, hu⟩
 refine AW.rename (nd := ?nd_2) 58 15 ?h1_2 ?h2_2 ?h4_2 ?kk_2
 (case h1_2 => exact rfl)
 (case h2_2 => simp [go_sem])
 (case h4_2 => simp [go_sem])
 refine rg [2,4,16,17,18,19] ?_
 intro k hk; simp -dsimp [go_sem, -decide_eq_true_eq, -decide_eq_false_iff_not]
 repeat' first | apply And.intro | refine hk _ ?_ | intro hg | omega | exact True.intro | (have h9 := hr (by assumption); omega) | fail
 all_goals clear hk k
 refine AW.seq ?_
 refine AW.cond rfl ?_ ?_
 ·intro hc; try simp at hc
  all_goals (
 have hlt : i < e.length := by assumption
 obtain ⟨x, hx⟩ := at_some hlt
 have hxA := nA_at hx
 have hpx := hP i hlt
 rw [nodeAt_at hx] at hpx
 have hq := nodeF_parts hpx
 have hl : 2 < x.kind → 0 ≤ x.left ∧ x.left.toNat < i := left_of hpx
 have hr := hq.2.1
 have htl := typesL_len e i
 have htk : List.take i ((typesL e i).map I1) = (typesL e i).map I1 := List.take_of_length_le (by simp [htl])
 have hsA : decide (2 < x.kind) = true → (typesL e i)[x.left.toNat]? = some (ownT (nA e x.left.toNat).kind) := fun h => typesL_at (hl (by simpa using h)).2
 have hsB : isTwoB x.kind = true → (typesL e i)[x.right.toNat]? = some (ownT (nA e x.right.toNat).kind) := fun h => typesL_at (hr h).2.2.2
 refine AW.skipN (fun _ h => h) ?_
 refine AW.seq ?_
 refine AW.block ?_
 refine rg [2,4,6,16,17,18] ?_
 intro k hk; simp -dsimp [go_sem, -decide_eq_true_eq, -decide_eq_false_iff_not, hx, htl, hsA, hsB]
 repeat' first | apply And.intro | refine hk _ ?_ | intro hg | omega | exact True.intro | (have h9 := hr (by assumption); omega) | fail
 all_goals clear hk k
 refine rg [2,4,6,7,8,16,17,18] ?_
 intro k hk; simp -dsimp (maxSteps := 2000000) [go_sem, -decide_eq_true_eq, -decide_eq_false_iff_not, hx, htl, hsA, hsB]
 repeat' first | apply And.intro | refine hk _ ?_ | intro hg | (refine CallK.intro (dc_impl_partType _) ?_; simp -dsimp (maxSteps := 2000000) [go_sem, -decide_eq_true_eq, -decide_eq_false_iff_not, hx, htl, hsA, hsB]) | omega | exact True.intro | (have h9 := hr (by assumption); omega) | fail
 all_goals clear hk k
 refine AW.seq ?_
 refine AW.cut ⟨67, [(2, .ptr 2 2 0 0), (4, .sl 15 1 0 i), (8, .int .i64 (ownT x.kind)), (16, .isl 4 (e.map TNode.ro)), (17, .int .i64 e.length), (18, .int .i64 i), (53, .bool (typBad e i))], [(2, some ⟨2, [[.int .i64 0, .int .i64 0]]⟩), (15, some ⟨1, (typesL e i).map I1⟩)]⟩ ?_ ?_
 ·skip
  refine rgK ?_
  intro k hk; simp +contextual -dsimp (maxSteps := 2000000) [go_sem, -decide_eq_true_eq, -decide_eq_false_iff_not, hx, htl, hsA, hsB]
  repeat' first | apply And.intro | refine hk _ ?_ | (intro hg; try simp only [decide_eq_true_eq, decide_eq_false_iff_not] at hg) | (refine CallK.intro (dc_impl_isTwo _) ?_; simp +contextual -dsimp (maxSteps := 2000000) [go_sem, -decide_eq_true_eq, -decide_eq_false_iff_not, hx, htl, hsA, hsB]) | omega | exact True.intro | (have h9 := hr (by assumption); omega) | fail
  all_goals clear hk k
  all_goals (show St.Less _ _; exact Less.of rfl (by simp [go_sem, typBad, hxA] <;> grind) (by simp [go_sem]))
 ·skip
  refine AW.cond rfl ?_ ?_
  ·intro hc; try simp at hc
   all_goals (
 refine rg [2] ?_
 intro k hk; simp -dsimp [go_sem, -decide_eq_true_eq, -decide_eq_false_iff_not, hx, htl, hsA, hsB]
 repeat' first | apply And.intro | refine hk _ ?_ | intro hg | omega | exact True.intro | (have h9 := hr (by assumption); omega) | fail
 all_goals clear hk k
 refine rt ?_
 first | (obtain ⟨h8, h9⟩ := typC_f (show exprF e ≠ 0 by first | assumption | simpa using hc); simp [go_sem, Try.results48, h8, h9]; done) | (obtain ⟨h8, h9⟩ := typC_b h0 (typU_hit hlt (by first | assumption | simpa using hc)); simp [go_sem, Try.results48, h8, h9]; done) | (obtain ⟨h8, h9⟩ := typC_k h0 hu; simp [go_sem, Try.results48, h8, h9]))
  ·intro hc; try simp at hc
   all_goals (
 refine AW.skipN (fun _ h => h) ?_
 refine rgN [2,4,16,17,18] (fun _ h => h) ?_
 intro k hk; simp -dsimp [go_sem, -decide_eq_true_eq, -decide_eq_false_iff_not, hx, htl, hsA, hsB]
 repeat' first | apply And.intro | refine hk _ ?_ | intro hg | omega | exact True.intro | (have h9 := hr (by assumption); omega) | fail
 all_goals clear hk k
 refine rgK ?_
 intro k hk; simp -dsimp [go_sem, -decide_eq_true_eq, -decide_eq_false_iff_not, hx, htl, hsA, hsB]
 repeat' first | apply And.intro | refine hk _ ?_ | intro hg | omega | exact True.intro | (have h9 := hr (by assumption); omega) | fail
 all_goals clear hk k
 show ∃ _, _
 have hw := wrapi hlt (by omega)
 have hub : typBad e i = false := by simpa using hc
 refine ⟨i + 1, ⟨by omega, typU_go hu hub⟩, by omega, Less.of rfl (by simp [go_sem, hw]) (by simp [go_sem, typesL_succ, hxA, htk])⟩))
 ·intro hc; try simp at hc
  all_goals (
 refine AW.exitN (fun _ h => h) ?_
 obtain rfl : i = e.length := by omega
 have htl := typesL_len e e.length
 have hlast := typesL_at (e := e) (show e.length - 1 < e.length by omega)
 have hwl : IntKind.wrap .i64 ((e.length : Int) - 1) = (e.length : Int) - 1 := wrap64 (by omega) (by omega)
 have hwt : ((e.length : Int) - 1).toNat = e.length - 1 := by omega
 refine rg [2] ?_
 intro k hk; simp -dsimp (maxSteps := 2000000) [go_sem, -decide_eq_true_eq, -decide_eq_false_iff_not, htl, hlast, hwl, hwt]
 repeat' first | apply And.intro | refine hk _ ?_ | intro hg | omega | exact True.intro | (have h9 := hr (by assumption); omega) | fail
 all_goals clear hk k
 refine rt ?_
 first | (obtain ⟨h8, h9⟩ := typC_f (show exprF e ≠ 0 by first | assumption | simpa using hc); simp [go_sem, Try.results48, h8, h9]; done) | (obtain ⟨h8, h9⟩ := typC_b h0 (typU_hit hlt (by first | assumption | simpa using hc)); simp [go_sem, Try.results48, h8, h9]; done) | (obtain ⟨h8, h9⟩ := typC_k h0 hu; simp [go_sem, Try.results48, h8, h9])))
end Go.AM
namespace Go.AM
open Go.Proofs
theorem dc_impl_typeFault (e : List TNode) (w : Int) (he : e.length ≤ 9223372036854775807) : DC Try.prog 27 [.isl 4 (e.map TNode.ro), .int .i64 w] (.int .i64 (typF e w)) [] := by
 refine DC.intro tiOk Try.func27 rfl rfl rfl rfl rfl rfl rfl rfl [] ?_
 refine rgA [0,1] ?_
 refine AW.seq ?_
 refine rgA [0,1,8] ?_
 refine AW.cond rfl ?_ ?_
 ·intro hc; try simp at hc
  all_goals (
 refine rgA [4] ?_
 refine rt ?_
 simp [go_sem, Try.results27, typF, firstC_cons, firstC_nil] <;> grind)
 ·intro hc; try simp at hc
  all_goals (
 refine AW.skipN (fun _ h => h) ?_
 refine rg [1,5] ?_
 intro k hk; simp -dsimp (maxSteps := 2000000) [go_sem, -decide_eq_true_eq, -decide_eq_false_iff_not]
 repeat' first | apply And.intro | refine hk _ ?_ | intro hg | (refine CallK.intro (dc_impl_TypeOf e he) ?_; simp -dsimp (maxSteps := 2000000) [go_sem, -decide_eq_true_eq, -decide_eq_false_iff_not]) | omega | exact True.intro
 all_goals clear hk k
 refine rg [4] ?_
 intro k hk; simp -dsimp (maxSteps := 2000000) [go_sem, -decide_eq_true_eq, -decide_eq_false_iff_not]
 repeat' first | ((refine Chk.keys ?_); simp only [go_sem, List.map_cons, List.map_nil, List.flatMap_cons, List.flatMap_nil, List.flatMap_append, List.append_nil, List.nil_append, List.cons_append]; decide +kernel) | apply And.intro | refine hk _ ?_ | intro hg | ((first | refine CallK.intro (dc_impl_codeIf _ _) ?_ | refine CallK.intro (dc_impl_firstCode [_, _] (by simp)) ?_ | refine CallK.intro (dc_impl_firstCode [_, _, _] (by simp)) ?_ | refine CallK.intro (dc_impl_firstCode [_, _, _, _] (by simp)) ?_); simp -dsimp (maxSteps := 2000000) [go_sem, -decide_eq_true_eq, -decide_eq_false_iff_not]) | omega | exact True.intro
 all_goals clear hk k
 refine rt ?_
 simp [go_sem, Try.results27, typF, firstC_cons, firstC_nil] <;> grind)
theorem dc_impl_isSmall (c : UInt8) : DC Try.prog 64 [.int .u8 c.toNat] (.bool (isLow c)) [] := by
 refine DC.intro tiOk Try.func64 rfl rfl rfl rfl rfl rfl rfl rfl [] ?_
 refine rgA [0] ?_
 refine rg [2] ?_
 intro k hk; simp +contextual -dsimp (maxSteps := 2000000) [go_sem, -decide_eq_true_eq, -decide_eq_false_iff_not]
 repeat' first | apply And.intro | refine hk _ ?_ | (intro hg; try simp only [decide_eq_true_eq, decide_eq_false_iff_not] at hg) | omega | exact True.intro
 all_goals clear hk k
 all_goals (
 refine rt ?_
 simp [go_sem, *, Try.results64, isLow, -decide_eq_true_eq, -decide_eq_false_iff_not])
theorem dc_impl_NameFault (s : List UInt8) (hs : s.length ≤ 9223372036854775807) : DC Try.prog 43 [.str s] (.int .i64 (nameF s)) [] := by
 refine DC.intro tiOk Try.func43 rfl rfl rfl rfl rfl rfl rfl rfl [] ?_
 refine rgA [0] ?_
 refine rg [2] ?_
 intro k hk; simp +contextual -dsimp (maxSteps := 2000000) [go_sem, -decide_eq_true_eq, -decide_eq_false_iff_not]
 repeat' first | apply And.intro | refine hk _ ?_ | (intro hg; try simp only [decide_eq_true_eq, decide_eq_false_iff_not] at hg) | ((first | refine CallK.intro (dc_impl_areAll 64 isLow dc_impl_isSmall s hs) ?_ | refine CallK.intro (dc_impl_codeIf _ _) ?_ | refine CallK.intro (dc_impl_firstCode [_, _] (by simp)) ?_ | refine CallK.intro (dc_impl_firstCode [_, _, _] (by simp)) ?_ | refine CallK.intro (dc_impl_firstCode [_, _, _, _] (by simp)) ?_); simp +contextual -dsimp (maxSteps := 2000000) [go_sem, -decide_eq_true_eq, -decide_eq_false_iff_not]) | omega | exact True.intro
 all_goals clear hk k
 all_goals (
 refine rt ?_
 simp [go_sem, Try.results43, nameF, firstC_cons, firstC_nil] at * <;> grind)
end Go.AM
namespace Go.AM
open Go.Proofs
theorem dc_impl_condFault (p : List TStep) (ho : StepsOk p) (i : Nat) (hi : i < p.length) (hg : ∀ e ∈ p, e.gok) : DC Try.prog 26 [.isl 6 (p.map TStep.ro), .int .i64 (i : Nat)] (.int .i64 (shapeF p i)) [] := by
 have hlen := ho.len
 obtain ⟨x, hx⟩ := at_some hi
 have hxS := nS_at hx
 obtain ⟨g0, g1, g2⟩ := hg x (List.mem_of_getElem? hx)
 have hkm := kids_len p (i : Int)
 refine DC.intro tiOk Try.func26 rfl rfl rfl rfl rfl rfl rfl rfl [] ?_
 refine rg [0,1] ?_
 intro k hk; simp -dsimp [go_sem, -decide_eq_true_eq, -decide_eq_false_iff_not, hx]
 repeat' first | apply And.intro | refine hk _ ?_ | intro hg | omega | exact True.intro
 all_goals clear hk k
 refine rg [0,1,5,6] ?_
 intro k hk; simp -dsimp (maxSteps := 2000000) [go_sem, -decide_eq_true_eq, -decide_eq_false_iff_not, hx]
 repeat' first | apply And.intro | refine hk _ ?_ | intro hg | (refine CallK.intro (dc_impl_kidBounds _) ?_; simp -dsimp (maxSteps := 2000000) [go_sem, -decide_eq_true_eq, -decide_eq_false_iff_not, hx]) | omega | exact True.intro
 all_goals clear hk k
 refine rg [0,1,5,6,7] ?_
 intro k hk; simp -dsimp (maxSteps := 2000000) [go_sem, -decide_eq_true_eq, -decide_eq_false_iff_not, hx]
 repeat' first | apply And.intro | refine hk _ ?_ | intro hg | omega | exact True.intro
 all_goals clear hk k
 refine rg [0,1,7,8] ?_
 intro k hk; simp -dsimp (maxSteps := 2000000) [go_sem, -decide_eq_true_eq, -decide_eq_false_iff_not, hx]
 repeat' first | apply And.intro | refine hk _ ?_ | intro hg | ((first | refine CallK.intro (dc_impl_kids p (i : Int) (by omega)) ?_ | refine CallK.intro (dc_impl_inRange _ _ _) ?_ | refine CallK.intro (dc_impl_codeIf _ _) ?_ | refine CallK.intro (dc_impl_wantsCond p ho i hi) ?_ | refine CallK.intro (dc_impl_firstCode [_, _] (by simp)) ?_ | refine CallK.intro (dc_impl_firstCode [_, _, _] (by simp)) ?_ | refine CallK.intro (dc_impl_firstCode [_, _, _, _] (by simp)) ?_); simp -dsimp (maxSteps := 2000000) [go_sem, -decide_eq_true_eq, -decide_eq_false_iff_not, hx]) | omega | exact True.intro
 all_goals clear hk k
 refine AW.seq ?_
 refine rg [0,1,8,47] ?_
 intro k hk; simp +contextual -dsimp [go_sem, -decide_eq_true_eq, -decide_eq_false_iff_not, hx]
 repeat' first | apply And.intro | refine hk _ ?_ | (intro hg; try simp only [decide_eq_true_eq, decide_eq_false_iff_not] at hg) | omega | exact True.intro
 all_goals clear hk k
 all_goals (
 refine AW.cond rfl ?_ ?_
 ·intro hc; try simp at hc
  all_goals (
 refine rg [4] ?_
 intro k hk; simp -dsimp [go_sem, -decide_eq_true_eq, -decide_eq_false_iff_not, hx]
 repeat' first | apply And.intro | refine hk _ ?_ | intro hg | omega | exact True.intro
 all_goals clear hk k
 refine rt ?_
 simp [go_sem, Try.results26, shapeF, hxS, firstC_cons, firstC_nil] at * <;> grind)
 ·intro hc; try simp at hc
  all_goals (
 refine AW.skipN (fun _ h => h) ?_
 refine rg [4] ?_
 intro k hk; simp -dsimp (maxSteps := 2000000) [go_sem, -decide_eq_true_eq, -decide_eq_false_iff_not, hx]
 repeat' first | apply And.intro | refine hk _ ?_ | intro hg | (refine CallK.intro (dc_impl_ExprFault x.cond g1) ?_; simp -dsimp (maxSteps := 2000000) [go_sem, -decide_eq_true_eq, -decide_eq_false_iff_not, hx]) | omega | exact True.intro
 all_goals clear hk k
 refine rt ?_
 simp [go_sem, Try.results26, shapeF, hxS, firstC_cons, firstC_nil] at * <;> grind))
end Go.AM
namespace Go.AM
open Go.Proofs
theorem dc_impl_stepFault (s : TStep) (hg : s.gok) (l : List Int) (hl : ParOk l) (h24 : l.length ≤ 23) : DC Try.prog 25 [.agg s.ro, .op [nlc 1 (l.map I1), nlc 1 ((depsOf l).map I1)]] (.int .i64 (stepF l s)) [(1, .op [nlc 1 ((nxtL l s.par).map I1), nlc 1 ((nxtD l (depsOf l) s.par).map I1)])] := by
 obtain ⟨g0, g1, g2⟩ := hg
 have hdl := depsOf_len l
 refine DC.intro tiOk Try.func25 rfl rfl rfl rfl rfl rfl rfl (by simp [noW, noWo]) [] ?_
 refine rgA [1,2] ?_
 refine rg [1,2,5,6] ?_
 intro k hk; simp -dsimp (maxSteps := 2000000) [go_sem, -decide_eq_true_eq, -decide_eq_false_iff_not]
 repeat' first | apply And.intro | refine hk _ ?_ | intro hg | (refine CallK.intro (dc_impl_argBounds _) ?_; simp -dsimp (maxSteps := 2000000) [go_sem, -decide_eq_true_eq, -decide_eq_false_iff_not]) | omega | exact True.intro
 all_goals clear hk k
 refine AW.cut ⟨96, [(1, .ptr 1901 2 0 0), (2, .ptr 2 6 0 0), (5, .int .i64 (lowA s.kind)), (6, .int .i64 (highA s.kind)), (7, .bool (alien s))], [(2, some ⟨6, [s.ro]⟩), (1901, some ⟨2, [[nlc 1 (l.map I1), nlc 1 ((depsOf l).map I1)]]⟩)]⟩ ?_ ?_
 ·skip
  refine rgK ?_
  intro k hk; simp +contextual -dsimp (maxSteps := 2000000) [go_sem, -decide_eq_true_eq, -decide_eq_false_iff_not]
  repeat' first | apply And.intro | refine hk _ ?_ | (intro hg; try simp only [decide_eq_true_eq, decide_eq_false_iff_not] at hg) | omega | exact True.intro
  all_goals clear hk k
  all_goals (show St.Less _ _; exact Less.of rfl (by simp [go_sem, alien] at * <;> grind) (by simp [go_sem]))
 ·skip
  refine AW.seq ?_
  refine AW.cut ⟨96, [(1, .ptr 1901 2 0 0), (2, .ptr 2 6 0 0), (5, .int .i64 (lowA s.kind)), (6, .int .i64 (highA s.kind)), (8, .int .i64 (if inR s.kind 1 8 = false ∨ alien s = true then 1 else parF l s.par))], [(2, some ⟨6, [s.ro]⟩), (1901, some ⟨2, [[nlc 1 ((nxtL l s.par).map I1), nlc 1 ((nxtD l (depsOf l) s.par).map I1)]]⟩)]⟩ ?_ ?_
  ·skip
   refine AW.regK tiOk (fun i => if i = 11 then [0] else []) ?_
   intro k hk; simp +contextual -dsimp (maxSteps := 2000000) [go_sem, -decide_eq_true_eq, -decide_eq_false_iff_not]
   repeat' first | ((refine Chk.keys ?_); simp only [go_sem, List.map_cons, List.map_nil, List.flatMap_cons, List.flatMap_nil, List.flatMap_append, List.append_nil, List.nil_append, List.cons_append]; decide +kernel) | apply And.intro | refine hk _ ?_ | (intro hg; try simp only [decide_eq_true_eq, decide_eq_false_iff_not] at hg) | ((first | refine CallK.intro (dc_impl_inRange _ _ _) ?_ | refine CallK.intro (dc_impl_codeIf _ _) ?_ | refine CallK.intro (dc_parents_next l (depsOf l) s.par hl rfl (by omega)) ?_ | refine CallK.intro (dc_impl_firstCode [_, _] (by simp)) ?_ | refine CallK.intro (dc_impl_firstCode [_, _, _] (by simp)) ?_ | refine CallK.intro (dc_impl_firstCode [_, _, _, _] (by simp)) ?_); simp +contextual -dsimp (maxSteps := 2000000) [go_sem, -decide_eq_true_eq, -decide_eq_false_iff_not]) | omega | exact True.intro
   all_goals clear hk k
   all_goals (show St.Less _ _; exact Less.of rfl (by simp [go_sem, firstC_cons, firstC_nil] at * <;> grind) (by simp [go_sem]))
  ·skip
   refine rgA [1,2,5,6,8,59] ?_
   refine AW.cond rfl ?_ ?_
   ·intro hc; try simp at hc
    all_goals try (exfalso; omega; done)
    all_goals (
 refine rgA [1,4] ?_
 refine rt ?_
 first | (rw [stepF_good hz1 hz2 hz3]; simp [go_sem, Try.results25, hnL, hnD, firstC_cons, firstC_nil]; (try grind [inR]); done) | (simp [go_sem, Try.results25]; have := @inR_iff s.kind 1 8; unfold stepF; grind))
   ·intro hc; try simp at hc
    all_goals try (exfalso; omega; done)
    all_goals (
 refine AW.skipN (fun _ h => h) ?_
 refine AW.seq ?_
 have hz : inR s.kind 1 8 = true ∧ alien s = false ∧ parF l s.par = 0 := by grind
 obtain ⟨hz1, hz2, hz3⟩ := hz
 have hnL := nxtL_app hz3
 have hnD := nxtD_app hl hz3
 refine rg [1,2,5,6,9] ?_
 intro k hk; simp -dsimp (maxSteps := 2000000) [go_sem, -decide_eq_true_eq, -decide_eq_false_iff_not, hnL, hnD]
 repeat' first | apply And.intro | refine hk _ ?_ | intro hg | ((first | refine CallK.intro (dc_impl_parents_last _ _ _ (by simp [hdl]; omega)) ?_ | refine CallK.intro (dc_impl_codeIf _ _) ?_); simp -dsimp (maxSteps := 2000000) [go_sem, -decide_eq_true_eq, -decide_eq_false_iff_not, hnL, hnD]) | omega | exact True.intro
 all_goals clear hk k
 refine rgA [1,2,5,6,9,66] ?_
 refine AW.cond rfl ?_ ?_
 ·intro hc; try simp at hc
  all_goals try (exfalso; omega; done)
  all_goals (
 refine rgA [1,4] ?_
 refine rt ?_
 first | (rw [stepF_good hz1 hz2 hz3]; simp [go_sem, Try.results25, hnL, hnD, firstC_cons, firstC_nil]; (try grind [inR]); done) | (simp [go_sem, Try.results25]; have := @inR_iff s.kind 1 8; unfold stepF; grind))
 ·intro hc; try simp at hc
  all_goals try (exfalso; omega; done)
  all_goals (
 refine AW.skipN (fun _ h => h) ?_
 refine AW.seq ?_
 refine rgA [1,2,5,6,69] ?_
 refine AW.block ?_
 refine rgA [1,2,5,6,69,70] ?_
 refine AW.cond rfl ?_ ?_
 ·intro hc; try simp at hc
  all_goals try (exfalso; omega; done)
  all_goals (
 refine rg [1,4] ?_
 intro k hk; simp -dsimp (maxSteps := 2000000) [go_sem, -decide_eq_true_eq, -decide_eq_false_iff_not]
 repeat' first | apply And.intro | refine hk _ ?_ | intro hg | (refine CallK.intro (dc_impl_NameFault s.name g0) ?_; simp -dsimp (maxSteps := 2000000) [go_sem, -decide_eq_true_eq, -decide_eq_false_iff_not]) | omega | exact True.intro
 all_goals clear hk k
 refine rt ?_
 first | (rw [stepF_good hz1 hz2 hz3]; simp [go_sem, Try.results25, hnL, hnD, firstC_cons, firstC_nil]; (try grind [inR]); done) | (simp [go_sem, Try.results25]; have := @inR_iff s.kind 1 8; unfold stepF; grind))
 ·intro hc; try simp at hc
  all_goals try (exfalso; omega; done)
  all_goals (
 refine rgA [1,2,5,6,75] ?_
 refine AW.cond rfl ?_ ?_
 ·intro hc; try simp at hc
  all_goals try (exfalso; omega; done)
  all_goals (
 refine rg [1,4] ?_
 intro k hk; simp -dsimp (maxSteps := 2000000) [go_sem, -decide_eq_true_eq, -decide_eq_false_iff_not]
 repeat' first | ((refine Chk.keys ?_); simp only [go_sem, List.map_cons, List.map_nil, List.flatMap_cons, List.flatMap_nil, List.flatMap_append, List.append_nil, List.nil_append, List.cons_append]; decide +kernel) | apply And.intro | refine hk _ ?_ | intro hg | ((first | refine CallK.intro (dc_impl_inRange _ _ _) ?_ | refine CallK.intro (dc_impl_codeIf _ _) ?_ | refine CallK.intro (dc_impl_ExprFault s.expr g2) ?_ | refine CallK.intro (dc_impl_firstCode [_, _] (by simp)) ?_ | refine CallK.intro (dc_impl_firstCode [_, _, _] (by simp)) ?_ | refine CallK.intro (dc_impl_firstCode [_, _, _, _] (by simp)) ?_); simp -dsimp (maxSteps := 2000000) [go_sem, -decide_eq_true_eq, -decide_eq_false_iff_not]) | omega | exact True.intro
 all_goals clear hk k
 refine rt ?_
 first | (rw [stepF_good hz1 hz2 hz3]; simp [go_sem, Try.results25, hnL, hnD, firstC_cons, firstC_nil]; (try grind [inR]); done) | (simp [go_sem, Try.results25]; have := @inR_iff s.kind 1 8; unfold stepF; grind))
 ·intro hc; try simp at hc
  all_goals try (exfalso; omega; done)
  all_goals (
 refine AW.skipN (fun _ h => h) ?_
 refine rg [1,4] ?_
 intro k hk; simp -dsimp (maxSteps := 2000000) [go_sem, -decide_eq_true_eq, -decide_eq_false_iff_not]
 repeat' first | apply And.intro | refine hk _ ?_ | intro hg | ((first | refine CallK.intro (dc_impl_inRange _ _ _) ?_ | refine CallK.intro (dc_impl_codeIf _ _) ?_); simp -dsimp (maxSteps := 2000000) [go_sem, -decide_eq_true_eq, -decide_eq_false_iff_not]) | omega | exact True.intro
 all_goals clear hk k
 refine rt ?_
 first | (rw [stepF_good hz1 hz2 hz3]; simp [go_sem, Try.results25, hnL, hnD, firstC_cons, firstC_nil]; (try grind [inR]); done) | (simp [go_sem, Try.results25]; have := @inR_iff s.kind 1 8; unfold stepF; grind)))))
end Go.AM
