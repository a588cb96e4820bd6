/- Joined texts: Sg. -/
import Derived.Test.YtajbihmllfodoaaD1
import Derived.Test.YtajbihmllfodoaaD2
import Derived.Test.YtajbihmllfodoaaD3
import Derived.Test.YtajbihmllfodoaaD4
import Derived.Test.YtajbihmllfodoaaD5
set_option linter.unusedVariables false
set_option linter.unusedSimpArgs false
set_option maxHeartbeats 600000
set_option maxRecDepth 100000
namespace Go.AM
open Go.Proofs

set_option maxHeartbeats 8000000 in
/-- slices.symMergeCmpFunc[impl.Flow] -/
theorem dc_symMerge_d (L M P A B Q : List VF) (a m b : Nat) (hL : L = P ++ A ++ B ++ Q) (hM : M = P ++ srt VF.src (A ++ B) ++ Q) (hA : Ord VF.src A) (hB : Ord VF.src B) (hA0 : A ≠ []) (hB0 : B ≠ []) (ha : a = P.length) (hm : m = a + A.length) (hb : b = m + B.length) (hn : L.length ≤ 1048576) (f : Nat) (hS : ∀ (L M P A B Q : List VF) (a m b : Nat), L = P ++ A ++ B ++ Q → M = P ++ srt VF.src (A ++ B) ++ Q → Ord VF.src A → Ord VF.src B → A ≠ [] → B ≠ [] → a = P.length → m = a + A.length → b = m + B.length → L.length ≤ 1048576 → A.length + B.length ≤ f → DC Try.prog 118 [.osl 3 (L.map VF.row), .int .i64 (a : Nat), .int .i64 (m : Nat), .int .i64 (b : Nat), .fn 69 []] (.tup []) [(0, .osl 3 (M.map VF.row))]) (hAx : A.length ≠ 1) (hBx : B.length ≠ 1) (hf : A.length + B.length ≤ f + 1) (hmd : m ≤ (a + b) / 2) : DC Try.prog 118 [.osl 3 (L.map VF.row), .int .i64 (a : Nat), .int .i64 (m : Nat), .int .i64 (b : Nat), .fn 69 []] (.tup []) [(0, .osl 3 (M.map VF.row))] := by
 have hA1 := List.length_pos_iff.2 hA0
 have hB1 := List.length_pos_iff.2 hB0
 have hll : L.length = P.length + A.length + B.length + Q.length := by rw [hL]; simp; omega
 have hMl : M.length = L.length := by rw [hM, hL]; simp [srt_len]; omega
 have hwA : IntKind.wrap .i64 ((m : Int) - (a : Int)) = ((A.length : Nat) : Int) := by rw [wrap64 (by omega) (by omega)]; omega
 have hwB : IntKind.wrap .i64 ((b : Int) - (m : Int)) = ((B.length : Nat) : Int) := by rw [wrap64 (by omega) (by omega)]; omega
 obtain ⟨d, hd⟩ : ∃ d : Nat, d = (a + b) / 2 := ⟨_, rfl⟩
 have hw1 : IntKind.wrap .i64 ((a : Int) + (b : Int)) = (a : Int) + (b : Int) := wrap64 (by omega) (by omega)
 have hw2 : IntKind.wrap .u64 ((a : Int) + (b : Int)) = (a : Int) + (b : Int) := by simp [IntKind.wrap, IntKind.bits, IntKind.signed]; omega
 have hfd : ((a : Int) + (b : Int)).fdiv 2 = ((d : Nat) : Int) := by rw [Int.fdiv_eq_ediv_of_nonneg _ (by omega)]; omega
 have hw3 : IntKind.wrap .i64 ((d : Nat) : Int) = ((d : Nat) : Int) := wrap64 (by omega) (by omega)
 obtain ⟨n2, hn2⟩ : ∃ n2 : Nat, n2 = d + m := ⟨_, rfl⟩
 have hw4 : IntKind.wrap .i64 ((d : Int) + (m : Int)) = ((n2 : Nat) : Int) := by rw [wrap64 (by omega) (by omega)]; omega
 obtain ⟨p, hp⟩ : ∃ p : Nat, p = n2 - 1 := ⟨_, rfl⟩
 have hw5 : IntKind.wrap .i64 ((n2 : Int) - 1) = ((p : Nat) : Int) := by rw [wrap64 (by omega) (by omega)]; omega
 have hdab : a < d ∧ d < b := by omega
 obtain ⟨lo0, hi0, e20, e21, k1, k2, k3, k4, k5, k6, k7⟩ : ∃ lo0 hi0 : Nat, a = lo0 ∧ m = hi0 ∧ a ≤ lo0 ∧ lo0 ≤ hi0 ∧ hi0 ≤ m ∧ hi0 ≤ d ∧ n2 ≤ lo0 + b ∧ (lo0 = a ∨ lo0 + b = n2) ∧ (hi0 = m ∨ hi0 = d) := ⟨a, m, rfl, rfl, by omega, by omega, by omega, by omega, by omega, by omega, by omega⟩
 have hw6 := True.intro
 have hmd2 : ¬ d < m := by omega
 refine DC.intro tiOk Try.func118 rfl rfl rfl rfl rfl rfl rfl (by simp [noW, noWo]) [] ?_
 refine AW.seq ?_
 refine rg [0,1,2,3,4,28] ?_
 intro k hk; simp -dsimp [go_sem, -decide_eq_true_eq, -decide_eq_false_iff_not, hwA, hAx]
 repeat' first | apply And.intro | refine hk _ ?_ | intro hg | omega | exact True.intro
 all_goals clear hk k
 refine AW.cond rfl ?_ ?_
 ·intro hc; try simp at hc
  all_goals try (exfalso; first | omega | contradiction; done)
  all_goals (
   skip)
 ·intro hc; try simp at hc
  all_goals try (exfalso; first | omega | contradiction; done)
  all_goals (
   refine AW.skipN (fun _ h => h) ?_
   refine AW.seq ?_
   refine rg [0,1,2,3,4,80] ?_
   intro k hk; simp -dsimp [go_sem, -decide_eq_true_eq, -decide_eq_false_iff_not, hwB, hBx]
   repeat' first | apply And.intro | refine hk _ ?_ | intro hg | omega | exact True.intro
   all_goals clear hk k
   refine AW.cond rfl ?_ ?_
   ·intro hc; try simp at hc
    all_goals try (exfalso; first | omega | contradiction; done)
    all_goals (
     skip)
   ·intro hc; try simp at hc
    all_goals try (exfalso; first | omega | contradiction; done)
    all_goals (
     refine AW.skipN (fun _ h => h) ?_
     refine rg [0,1,2,3,4,18] ?_
     intro k hk; simp -dsimp (maxSteps := 2000000) [go_sem, -decide_eq_true_eq, -decide_eq_false_iff_not, hw1, hw2, hfd, hw3]
     repeat' first | apply And.intro | refine hk _ ?_ | intro hg | omega | exact True.intro
     all_goals clear hk k
     refine rg [0,1,2,3,4,18,19] ?_
     intro k hk; simp -dsimp [go_sem, -decide_eq_true_eq, -decide_eq_false_iff_not, hw4]
     repeat' first | apply And.intro | refine hk _ ?_ | intro hg | omega | exact True.intro
     all_goals clear hk k
     refine rgA [0,1,2,3,4,18,19] ?_
     refine AW.seq ?_
     refine rg [0,1,2,3,4,18,19,140] ?_
     intro k hk; simp -dsimp [go_sem, -decide_eq_true_eq, -decide_eq_false_iff_not, hmd2]
     repeat' first | apply And.intro | refine hk _ ?_ | intro hg | omega | exact True.intro
     all_goals clear hk k
     refine AW.cond rfl ?_ ?_
     ·intro hc; try simp at hc
      all_goals try (exfalso; first | omega | contradiction; done)
      all_goals (
       skip)
     ·intro hc; try simp at hc
      all_goals try (exfalso; first | omega | contradiction; done)
      all_goals (
       refine rgA [0,1,2,3,4,18,19,20] ?_
       refine rgNA [0,1,2,3,4,18,19,20,21] (fun _ h => h) ?_
       refine rg [0,1,2,3,4,18,19,20,21,22] ?_
       intro k hk; simp -dsimp [go_sem, -decide_eq_true_eq, -decide_eq_false_iff_not, hw5]
       repeat' first | apply And.intro | refine hk _ ?_ | intro hg | omega | exact True.intro
       all_goals clear hk k
       refine AW.seq ?_
       refine AW.block ?_
       refine AW.loopI (fun q : Nat × Nat => ⟨220, [(0, .sl 1900 3 0 L.length), (1, .int .i64 (a : Nat)), (2, .int .i64 (m : Nat)), (3, .int .i64 (b : Nat)), (4, .fn 69 []), (18, .int .i64 (d : Nat)), (19, .int .i64 (n2 : Nat)), (20, .int .i64 (q.1 : Nat)), (21, .int .i64 (q.2 : Nat)), (22, .int .i64 (p : Nat))], [(1900, some ⟨3, L.map VF.row⟩)]⟩) (fun q => lo0 ≤ q.1 ∧ q.1 ≤ q.2 ∧ q.2 ≤ hi0 ∧ (q.1 = lo0 ∨ leQ A B (q.1 - a - 1) (d - q.1)) ∧ (q.2 = hi0 ∨ ltQ A B (q.2 - a) (d - 1 - q.2))) (fun q => q.2 - q.1) ((lo0, hi0)) (⟨Nat.le_refl _, by simp only; omega, Nat.le_refl _, Or.inl rfl, Or.inl rfl⟩) (Less.of rfl (by simp [go_sem, e20, e21]) (by simp [go_sem])) ?_
       rintro ⟨st, r⟩ ⟨q1, q2, q3, q4, q5⟩
       simp only at q1 q2 q3 q4 q5
       refine AW.seq ?_
       refine rgA [0,1,2,3,4,18,19,20,21,22,151] ?_
       refine AW.cond rfl ?_ ?_
       ·intro hc; try simp at hc
        all_goals try (exfalso; first | omega | contradiction; done)
        all_goals (
         have hlt : st < r := by first | assumption | omega
         obtain ⟨c, hc⟩ : ∃ c : Nat, c = (st + r) / 2 := ⟨_, rfl⟩
         have hv1 : IntKind.wrap .i64 ((st : Int) + (r : Int)) = (st : Int) + (r : Int) := wrap64 (by omega) (by omega)
         have hv2 : IntKind.wrap .u64 ((st : Int) + (r : Int)) = (st : Int) + (r : Int) := by simp [IntKind.wrap, IntKind.bits, IntKind.signed]; omega
         have hfv : ((st : Int) + (r : Int)).fdiv 2 = ((c : Nat) : Int) := by rw [Int.fdiv_eq_ediv_of_nonneg _ (by omega)]; omega
         have hv3 : IntKind.wrap .i64 ((c : Nat) : Int) = ((c : Nat) : Int) := wrap64 (by omega) (by omega)
         obtain ⟨u, hu⟩ := at_some (l := A) (i := c - a) (by omega)
         obtain ⟨v, hv⟩ := at_some (l := B) (i := d - 1 - c) (by omega)
         obtain ⟨w, hw⟩ : ∃ w : Nat, w = p - c := ⟨_, rfl⟩
         have hv4 : IntKind.wrap .i64 ((p : Int) - (c : Int)) = ((w : Nat) : Int) := by rw [wrap64 (by omega) (by omega)]; omega
         have g1 : L[w]? = some v := by rw [hL]; exact at_two hv (by omega)
         have g2 : L[c]? = some u := by rw [hL]; exact at_one hu (by omega)
         have g3 := gel g1
         have g4 := gel g2
         have g5 := at_lt g1
         have g6 := at_lt g2
         obtain ⟨c1, hc1⟩ : ∃ c1 : Nat, c1 = c + 1 := ⟨_, rfl⟩
         have hv5 : IntKind.wrap .i64 ((c : Int) + 1) = ((c1 : Nat) : Int) := by rw [wrap64 (by omega) (by omega)]; omega
         refine AW.skipN (fun _ h => h) ?_
         refine AW.block ?_
         refine rg [0,1,2,3,4,18,19,20,21,22,23] ?_
         intro k hk; simp -dsimp (maxSteps := 2000000) [go_sem, -decide_eq_true_eq, -decide_eq_false_iff_not, hv1, hv2, hfv, hv3]
         repeat' first | apply And.intro | refine hk _ ?_ | intro hg | omega | exact True.intro
         all_goals clear hk k
         refine rg [0,1,2,3,4,18,19,20,21,22,23,171] ?_
         intro k hk; simp -dsimp (maxSteps := 2000000) [go_sem, -decide_eq_true_eq, -decide_eq_false_iff_not, hv4, g1, g2, g3, g4, g5, g6, cmpI_neg]
         repeat' first | ((refine Chk.keys ?_); simp only [go_sem, List.map_cons, List.map_nil, List.flatMap_cons, List.flatMap_nil, List.flatMap_append, List.append_nil, List.nil_append, List.cons_append]; decide +kernel) | apply And.intro | refine hk _ ?_ | intro hg | (refine CallK.intro (dc_impl_graphOf_1 v u) ?_; simp -dsimp (maxSteps := 2000000) [go_sem, -decide_eq_true_eq, -decide_eq_false_iff_not, hv4, g1, g2, g3, g4, g5, g6, cmpI_neg]) | omega | exact True.intro
         all_goals clear hk k
         refine AW.cond rfl ?_ ?_
         ·intro hc; try simp at hc
          all_goals try (exfalso; first | omega | contradiction; done)
          all_goals (
           refine rgK ?_
           intro k hk; simp -dsimp [go_sem, -decide_eq_true_eq, -decide_eq_false_iff_not, hv5]
           repeat' first | apply And.intro | refine hk _ ?_ | intro hg | omega | exact True.intro
           all_goals clear hk k
           show ∃ _, _
           first | (have hzx : u.src ≤ v.src := (by first | assumption | omega | (simp at hc; omega)); refine ⟨(c1, r), ⟨by simp only; omega, by simp only; omega, q3, Or.inr (leQ_mk hu hv hzx (by simp only; omega) (by simp only; omega)), q5⟩, by simp only; omega, Less.of rfl (by simp [go_sem]) (by simp [go_sem])⟩) | (have hzx : v.src < u.src := (by first | assumption | omega | (simp at hc; omega)); refine ⟨(st, c), ⟨q1, by simp only; omega, by simp only; omega, q4, Or.inr (ltQ_mk hu hv hzx)⟩, by simp only; omega, Less.of rfl (by simp [go_sem]) (by simp [go_sem])⟩))
         ·intro hc; try simp at hc
          all_goals try (exfalso; first | omega | contradiction; done)
          all_goals (
           refine rgKA ?_
           show ∃ _, _
           first | (have hzx : u.src ≤ v.src := (by first | assumption | omega | (simp at hc; omega)); refine ⟨(c1, r), ⟨by simp only; omega, by simp only; omega, q3, Or.inr (leQ_mk hu hv hzx (by simp only; omega) (by simp only; omega)), q5⟩, by simp only; omega, Less.of rfl (by simp [go_sem]) (by simp [go_sem])⟩) | (have hzx : v.src < u.src := (by first | assumption | omega | (simp at hc; omega)); refine ⟨(st, c), ⟨q1, by simp only; omega, by simp only; omega, q4, Or.inr (ltQ_mk hu hv hzx)⟩, by simp only; omega, Less.of rfl (by simp [go_sem]) (by simp [go_sem])⟩)))
       ·intro hc; try simp at hc
        all_goals try (exfalso; first | omega | contradiction; done)
        all_goals (
         refine AW.exitN (fun _ h => h) ?_
         obtain rfl : st = r := (by omega)
         obtain ⟨en, hen⟩ : ∃ en : Nat, en = n2 - st := ⟨_, rfl⟩
         have hw7 : IntKind.wrap .i64 ((n2 : Int) - (st : Int)) = ((en : Nat) : Int) := by rw [wrap64 (by omega) (by omega)]; omega
         obtain ⟨A1, A2, B1, B2, hAA, hBB, l1, l2, o1, o2⟩ := sym_end2 hA hB (a := a) (d := d) (st := st) (m := m) (b := b) (by omega) (by omega) (by omega) (by omega) hm hb hn2 k6 k7 q4 q5
         have hq : a ≤ st ∧ st ≤ m ∧ st ≤ d ∧ n2 ≤ st + b := by omega
         clear q1 q2 q3 q4 q5 k1 k2 k3 k4 k5 k6 k7 hw1 hw2 hw3 hfd e20 e21 hwA hwB hmd2
         have lA : A.length = A1.length + A2.length := by rw [hAA, List.length_append]
         have lB : B.length = B1.length + B2.length := by rw [hBB, List.length_append]
         have oA := hA
         have oB := hB
         rw [hAA] at oA
         rw [hBB] at oB
         have oA1 := (ord_app.1 oA).1
         have oA2 := (ord_app.1 oA).2.1
         have oB1 := (ord_app.1 oB).1
         have oB2 := (ord_app.1 oB).2.1
         have hsrt := srt_half oA oB o1 o2
         obtain ⟨D, hD⟩ : ∃ D, D = P ++ A1 ++ B1 ++ (A2 ++ B2 ++ Q) := ⟨_, rfl⟩
         obtain ⟨E, hE⟩ : ∃ E, E = P ++ srt VF.src (A1 ++ B1) ++ (A2 ++ B2 ++ Q) := ⟨_, rfl⟩
         have hDl : D.length = L.length := by rw [hD, hll]; simp; omega
         have hEl : E.length = L.length := by rw [hE, hll]; simp [srt_len]; omega
         have hc1 := sym_c1 (L := L) (D := D) (P := P) (Q := Q) (A1 := A1) (A2 := A2) (B1 := B1) (B2 := B2) (s1 := st) (m := m) (en := en) (by rw [hL, hAA, hBB]) hD (by omega) (by omega)
         have hc2 := sym_c2 (D := D) (E := E) (P := P) (R := A2 ++ B2 ++ Q) (A1 := A1) (B1 := B1) (a := a) (s1 := st) (d := d) hD hE oA1 oB1 (by omega) (by omega)
         have hc3 := sym_c2 (D := E) (E := M) (P := P ++ srt VF.src (A1 ++ B1)) (R := Q) (A1 := A2) (B1 := B2) (a := d) (s1 := en) (d := b) (by rw [hE]; simp) (by rw [hM, hAA, hBB, hsrt]; simp) oA2 oB2 (by omega) (by omega)
         refine rg [0,1,2,3,4,18,20,24] ?_
         intro k hk; simp -dsimp [go_sem, -decide_eq_true_eq, -decide_eq_false_iff_not, hw7]
         repeat' first | apply And.intro | refine hk _ ?_ | intro hg | omega | exact True.intro
         all_goals clear hk k
         refine AW.seq ?_
         rcases hc1 with ⟨j1, j2, x1, x2, x3⟩ | ⟨j1, j2, x1, x2, x3⟩ | ⟨j1, j2, x1, x2, x3⟩
         all_goals (
          refine rg [0,1,2,3,4,18,20,24,185] ?_
          intro k hk; simp -dsimp (maxSteps := 2000000) [go_sem, -decide_eq_true_eq, -decide_eq_false_iff_not, j1, j2]
          repeat' first | apply And.intro | refine hk _ ?_ | (intro hg; try simp only [decide_eq_true_eq, decide_eq_false_iff_not] at hg) | omega | exact True.intro
          all_goals clear hk k
          all_goals (
           refine AW.cond rfl ?_ ?_
           ·intro hc; try simp at hc
            all_goals try (exfalso; first | omega | contradiction; done)
            all_goals (
             refine AW.regN tiOk (fun _ => [0]) [0,1,3,4,18,20,24] (fun _ h => h) ?_
             intro k hk; simp -dsimp (maxSteps := 2000000) [go_sem, -decide_eq_true_eq, -decide_eq_false_iff_not, hDl, hEl, hMl]
             repeat' first | apply And.intro | refine hk _ ?_ | intro hg | (refine CallK.intro ((dc_rotate L D (P ++ A1) A2 B1 (B2 ++ Q) st m en (by rw [hL, hAA, hBB]; simp) (by rw [hD]; simp) x1 x2 (by rw [List.length_append]; omega) (by omega) (by omega) hn)) ?_; simp -dsimp (maxSteps := 2000000) [go_sem, -decide_eq_true_eq, -decide_eq_false_iff_not, hDl, hEl, hMl]) | omega | exact True.intro
             all_goals clear hk k
             refine AW.seq ?_
             rcases hc2 with ⟨j3, j4, y1, y2, y3⟩ | ⟨j3, j4, y1, y2, y3⟩ | ⟨j3, j4, y1, y2, y3⟩
             all_goals (
              try rw [x3]
              refine rg [0,1,3,4,18,20,24,199] ?_
              intro k hk; simp -dsimp (maxSteps := 2000000) [go_sem, -decide_eq_true_eq, -decide_eq_false_iff_not, j3, j4]
              repeat' first | apply And.intro | refine hk _ ?_ | (intro hg; try simp only [decide_eq_true_eq, decide_eq_false_iff_not] at hg) | omega | exact True.intro
              all_goals clear hk k
              all_goals (
               refine AW.cond rfl ?_ ?_
               ·intro hc; try simp at hc
                all_goals try (exfalso; first | omega | contradiction; done)
                all_goals (
                 refine AW.regN tiOk (fun _ => [0]) [0,3,4,18,24] (fun _ h => h) ?_
                 intro k hk; simp -dsimp (maxSteps := 2000000) [go_sem, -decide_eq_true_eq, -decide_eq_false_iff_not, hDl, hEl, hMl]
                 repeat' first | apply And.intro | refine hk _ ?_ | intro hg | (refine CallK.intro ((hS D E P A1 B1 (A2 ++ B2 ++ Q) a st d hD hE oA1 oB1 y1 y2 ha (by omega) (by omega) (by omega) (by omega))) ?_; simp -dsimp (maxSteps := 2000000) [go_sem, -decide_eq_true_eq, -decide_eq_false_iff_not, hDl, hEl, hMl]) | omega | exact True.intro
                 all_goals clear hk k
                 rcases hc3 with ⟨j5, j6, z1, z2, z3⟩ | ⟨j5, j6, z1, z2, z3⟩ | ⟨j5, j6, z1, z2, z3⟩
                 all_goals (
                  try rw [y3]
                  refine rg [0,3,4,18,24,213] ?_
                  intro k hk; simp -dsimp (maxSteps := 2000000) [go_sem, -decide_eq_true_eq, -decide_eq_false_iff_not, j5, j6]
                  repeat' first | apply And.intro | refine hk _ ?_ | (intro hg; try simp only [decide_eq_true_eq, decide_eq_false_iff_not] at hg) | omega | exact True.intro
                  all_goals clear hk k
                  all_goals (
                   refine AW.cond rfl ?_ ?_
                   ·intro hc; try simp at hc
                    all_goals try (exfalso; first | omega | contradiction; done)
                    all_goals (
                     refine rgE (fun _ => [0]) ?_
                     intro k hk; simp -dsimp (maxSteps := 2000000) [go_sem, -decide_eq_true_eq, -decide_eq_false_iff_not, hDl, hEl, hMl]
                     repeat' first | apply And.intro | refine hk _ ?_ | intro hg | (refine CallK.intro ((hS E M (P ++ srt VF.src (A1 ++ B1)) A2 B2 Q d en b (by rw [hE]; simp) (by rw [hM, hAA, hBB, hsrt]; simp) oA2 oB2 z1 z2 (by rw [List.length_append, srt_len, List.length_append]; omega) (by omega) (by omega) (by omega) (by omega))) ?_; simp -dsimp (maxSteps := 2000000) [go_sem, -decide_eq_true_eq, -decide_eq_false_iff_not, hDl, hEl, hMl]) | omega | exact True.intro
                     all_goals clear hk k
                     refine ⟨.intro, And.intro (.inl rfl) ?_⟩
                     try rw [z3]
                     simp [go_sem, Try.results118, hMl])
                   ·intro hc; try simp at hc
                    all_goals try (exfalso; first | omega | contradiction; done)
                    all_goals (
                     refine AW.skip ?_
                     refine And.intro (.inl rfl) ?_
                     try rw [z3]
                     simp [go_sem, Try.results118, hMl]))))
               ·intro hc; try simp at hc
                all_goals try (exfalso; first | omega | contradiction; done)
                all_goals (
                 refine AW.skipN (fun _ h => h) ?_
                 rcases hc3 with ⟨j5, j6, z1, z2, z3⟩ | ⟨j5, j6, z1, z2, z3⟩ | ⟨j5, j6, z1, z2, z3⟩
                 all_goals (
                  try rw [y3]
                  refine rg [0,3,4,18,24,213] ?_
                  intro k hk; simp -dsimp (maxSteps := 2000000) [go_sem, -decide_eq_true_eq, -decide_eq_false_iff_not, j5, j6]
                  repeat' first | apply And.intro | refine hk _ ?_ | (intro hg; try simp only [decide_eq_true_eq, decide_eq_false_iff_not] at hg) | omega | exact True.intro
                  all_goals clear hk k
                  all_goals (
                   refine AW.cond rfl ?_ ?_
                   ·intro hc; try simp at hc
                    all_goals try (exfalso; first | omega | contradiction; done)
                    all_goals (
                     refine rgE (fun _ => [0]) ?_
                     intro k hk; simp -dsimp (maxSteps := 2000000) [go_sem, -decide_eq_true_eq, -decide_eq_false_iff_not, hDl, hEl, hMl]
                     repeat' first | apply And.intro | refine hk _ ?_ | intro hg | (refine CallK.intro ((hS E M (P ++ srt VF.src (A1 ++ B1)) A2 B2 Q d en b (by rw [hE]; simp) (by rw [hM, hAA, hBB, hsrt]; simp) oA2 oB2 z1 z2 (by rw [List.length_append, srt_len, List.length_append]; omega) (by omega) (by omega) (by omega) (by omega))) ?_; simp -dsimp (maxSteps := 2000000) [go_sem, -decide_eq_true_eq, -decide_eq_false_iff_not, hDl, hEl, hMl]) | omega | exact True.intro
                     all_goals clear hk k
                     refine ⟨.intro, And.intro (.inl rfl) ?_⟩
                     try rw [z3]
                     simp [go_sem, Try.results118, hMl])
                   ·intro hc; try simp at hc
                    all_goals try (exfalso; first | omega | contradiction; done)
                    all_goals (
                     refine AW.skip ?_
                     refine And.intro (.inl rfl) ?_
                     try rw [z3]
                     simp [go_sem, Try.results118, hMl])))))))
           ·intro hc; try simp at hc
            all_goals try (exfalso; first | omega | contradiction; done)
            all_goals (
             refine AW.skipN (fun _ h => h) ?_
             refine AW.seq ?_
             rcases hc2 with ⟨j3, j4, y1, y2, y3⟩ | ⟨j3, j4, y1, y2, y3⟩ | ⟨j3, j4, y1, y2, y3⟩
             all_goals (
              try rw [x3]
              refine rg [0,1,3,4,18,20,24,199] ?_
              intro k hk; simp -dsimp (maxSteps := 2000000) [go_sem, -decide_eq_true_eq, -decide_eq_false_iff_not, j3, j4]
              repeat' first | apply And.intro | refine hk _ ?_ | (intro hg; try simp only [decide_eq_true_eq, decide_eq_false_iff_not] at hg) | omega | exact True.intro
              all_goals clear hk k
              all_goals (
               refine AW.cond rfl ?_ ?_
               ·intro hc; try simp at hc
                all_goals try (exfalso; first | omega | contradiction; done)
                all_goals (
                 refine AW.regN tiOk (fun _ => [0]) [0,3,4,18,24] (fun _ h => h) ?_
                 intro k hk; simp -dsimp (maxSteps := 2000000) [go_sem, -decide_eq_true_eq, -decide_eq_false_iff_not, hDl, hEl, hMl]
                 repeat' first | apply And.intro | refine hk _ ?_ | intro hg | (refine CallK.intro ((hS D E P A1 B1 (A2 ++ B2 ++ Q) a st d hD hE oA1 oB1 y1 y2 ha (by omega) (by omega) (by omega) (by omega))) ?_; simp -dsimp (maxSteps := 2000000) [go_sem, -decide_eq_true_eq, -decide_eq_false_iff_not, hDl, hEl, hMl]) | omega | exact True.intro
                 all_goals clear hk k
                 rcases hc3 with ⟨j5, j6, z1, z2, z3⟩ | ⟨j5, j6, z1, z2, z3⟩ | ⟨j5, j6, z1, z2, z3⟩
                 all_goals (
                  try rw [y3]
                  refine rg [0,3,4,18,24,213] ?_
                  intro k hk; simp -dsimp (maxSteps := 2000000) [go_sem, -decide_eq_true_eq, -decide_eq_false_iff_not, j5, j6]
                  repeat' first | apply And.intro | refine hk _ ?_ | (intro hg; try simp only [decide_eq_true_eq, decide_eq_false_iff_not] at hg) | omega | exact True.intro
                  all_goals clear hk k
                  all_goals (
                   refine AW.cond rfl ?_ ?_
                   ·intro hc; try simp at hc
                    all_goals try (exfalso; first | omega | contradiction; done)
                    all_goals (
                     refine rgE (fun _ => [0]) ?_
                     intro k hk; simp -dsimp (maxSteps := 2000000) [go_sem, -decide_eq_true_eq, -decide_eq_false_iff_not, hDl, hEl, hMl]
                     repeat' first | apply And.intro | refine hk _ ?_ | intro hg | (refine CallK.intro ((hS E M (P ++ srt VF.src (A1 ++ B1)) A2 B2 Q d en b (by rw [hE]; simp) (by rw [hM, hAA, hBB, hsrt]; simp) oA2 oB2 z1 z2 (by rw [List.length_append, srt_len, List.length_append]; omega) (by omega) (by omega) (by omega) (by omega))) ?_; simp -dsimp (maxSteps := 2000000) [go_sem, -decide_eq_true_eq, -decide_eq_false_iff_not, hDl, hEl, hMl]) | omega | exact True.intro
                     all_goals clear hk k
                     refine ⟨.intro, And.intro (.inl rfl) ?_⟩
                     try rw [z3]
                     simp [go_sem, Try.results118, hMl])
                   ·intro hc; try simp at hc
                    all_goals try (exfalso; first | omega | contradiction; done)
                    all_goals (
                     refine AW.skip ?_
                     refine And.intro (.inl rfl) ?_
                     try rw [z3]
                     simp [go_sem, Try.results118, hMl]))))
               ·intro hc; try simp at hc
                all_goals try (exfalso; first | omega | contradiction; done)
                all_goals (
                 refine AW.skipN (fun _ h => h) ?_
                 rcases hc3 with ⟨j5, j6, z1, z2, z3⟩ | ⟨j5, j6, z1, z2, z3⟩ | ⟨j5, j6, z1, z2, z3⟩
                 all_goals (
                  try rw [y3]
                  refine rg [0,3,4,18,24,213] ?_
                  intro k hk; simp -dsimp (maxSteps := 2000000) [go_sem, -decide_eq_true_eq, -decide_eq_false_iff_not, j5, j6]
                  repeat' first | apply And.intro | refine hk _ ?_ | (intro hg; try simp only [decide_eq_true_eq, decide_eq_false_iff_not] at hg) | omega | exact True.intro
                  all_goals clear hk k
                  all_goals (
                   refine AW.cond rfl ?_ ?_
                   ·intro hc; try simp at hc
                    all_goals try (exfalso; first | omega | contradiction; done)
                    all_goals (
                     refine rgE (fun _ => [0]) ?_
                     intro k hk; simp -dsimp (maxSteps := 2000000) [go_sem, -decide_eq_true_eq, -decide_eq_false_iff_not, hDl, hEl, hMl]
                     repeat' first | apply And.intro | refine hk _ ?_ | intro hg | (refine CallK.intro ((hS E M (P ++ srt VF.src (A1 ++ B1)) A2 B2 Q d en b (by rw [hE]; simp) (by rw [hM, hAA, hBB, hsrt]; simp) oA2 oB2 z1 z2 (by rw [List.length_append, srt_len, List.length_append]; omega) (by omega) (by omega) (by omega) (by omega))) ?_; simp -dsimp (maxSteps := 2000000) [go_sem, -decide_eq_true_eq, -decide_eq_false_iff_not, hDl, hEl, hMl]) | omega | exact True.intro
                     all_goals clear hk k
                     refine ⟨.intro, And.intro (.inl rfl) ?_⟩
                     try rw [z3]
                     simp [go_sem, Try.results118, hMl])
                   ·intro hc; try simp at hc
                    all_goals try (exfalso; first | omega | contradiction; done)
                    all_goals (
                     refine AW.skip ?_
                     refine And.intro (.inl rfl) ?_
                     try rw [z3]
                     simp [go_sem, Try.results118, hMl])))))))))))))

end Go.AM
