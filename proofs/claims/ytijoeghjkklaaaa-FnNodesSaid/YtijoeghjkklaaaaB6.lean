/- Joined texts: Db Dc Dd Am25 Am26 Am28 Am30 Am31 Am32 Am33 Pst Pz En2. -/
import Derived.Test.YtijoeghjkklaaaaB1
import Derived.Test.YtijoeghjkklaaaaB2
import Derived.Test.YtijoeghjkklaaaaB3
import Derived.Test.YtijoeghjkklaaaaB4
import Derived.Test.YtijoeghjkklaaaaB5
set_option linter.unusedVariables false
set_option linter.unusedSimpArgs false
set_option maxHeartbeats 600000
set_option maxRecDepth 100000
namespace Go.AM
open Go.Proofs
set_option maxHeartbeats 2000000 in
theorem dc_spec_l3Make_i0 (c : List UInt8) (hcl : c.length ≤ 1048576) (a : Int) (ha : 0 ≤ a ∧ a ≤ 8000000) (e : List TNode) (X : AV) (hX : (X = .osl 4 (e.map TNode.ro) ∧ ([] : List TNode).length = 0) ∨ (X = .nils ∧ e = [])) (he : e.length ≤ 1000) : DC Try.prog 62 [.op [.isl 1 (c.map B1), .int .i64 a], X, .int .i64 1, .int .i64 0] (.osl 4 ((e ++ (leE c a).1).map TNode.ro)) [(0, .op [.isl 1 (c.map B1), .int .i64 (leE c a).2])] := by
 have hs1 : a + 1 + 1 = a + 2 := by omega
 have hs2 : a + 2 + 1 = a + 3 := by omega
 have hs3 : a + 3 + 1 = a + 4 := by omega
 have hs4 : a + 1 + 2 = a + 3 := by omega
 have hs5 : a + 1 + 3 = a + 4 := by omega
 have htke : (e.map TNode.ro).take e.length = e.map TNode.ro := List.take_of_length_le (by rw [List.length_map]; exact Nat.le_refl _)
 rcases hX with ⟨rfl, hp0e⟩ | ⟨rfl, hp0e⟩
 all_goals (
 refine DC.intro tiOk Try.func62 rfl rfl rfl rfl rfl rfl rfl (by simp [noW, noWo]) [1000] ?_
 refine rg [0,1,2,3] ?_
 intro k hk; simp -dsimp [go_sem, -decide_eq_true_eq, -decide_eq_false_iff_not, hs1, hs2, htke, hp0e]
 repeat' first | apply And.intro | refine hk _ ?_ | intro hg | omega | exact True.intro
 all_goals clear hk k
 refine AW.seq ?_
 refine AW.reg tiOk (fun _ => [0]) [0,1,2,3,21] ?_
 intro k hk; simp -dsimp (maxSteps := 2000000) [go_sem, -decide_eq_true_eq, -decide_eq_false_iff_not, hs1, hs2, htke, hp0e]
 repeat' first | apply And.intro | refine hk _ ?_ | (intro hg; try simp only [decide_eq_true_eq, decide_eq_false_iff_not] at hg) | (refine CallK.intro (dc_spec_l1Chance c hcl a (by omega) 2 (by omega)) ?_; simp -dsimp (maxSteps := 2000000) [go_sem, -decide_eq_true_eq, -decide_eq_false_iff_not, hs1, hs2, htke, hp0e]) | omega | exact True.intro
 all_goals clear hk k
 all_goals (
 refine AW.cond rfl ?_ ?_
 ·intro hc; try simp at hc
  all_goals try (exfalso; contradiction; done)
  all_goals (
 refine AW.seq ?_
 refine AW.reg tiOk (fun _ => [0]) [0,1,23] ?_
 intro k hk; simp -dsimp (maxSteps := 2000000) [go_sem, -decide_eq_true_eq, -decide_eq_false_iff_not, hs1, hs2, htke, hp0e]
 repeat' first | apply And.intro | refine hk _ ?_ | intro hg | (refine CallK.intro (dc_spec_l1Chance c hcl a (by omega) 2 (by omega)) ?_; simp -dsimp (maxSteps := 2000000) [go_sem, -decide_eq_true_eq, -decide_eq_false_iff_not, hs1, hs2, htke, hp0e]) | omega | exact True.intro
 all_goals clear hk k
 refine AW.cond rfl ?_ ?_
 ·intro hc; try simp at hc
  all_goals try (exfalso; contradiction; done)
  all_goals (
 refine AW.reg tiOk (fun i => if i = 2 then [0] else []) [0,8] ?_
 intro k hk; simp -dsimp (maxSteps := 2000000) [go_sem, -decide_eq_true_eq, -decide_eq_false_iff_not, hs1, hs2, htke, hp0e]
 repeat' first | apply And.intro | refine hk _ ?_ | intro hg | ((first | refine CallK.intro (dc_spec_l1Next c hcl (a + 1) (by omega) 3 (by omega)) ?_ | refine CallK.intro (dc_spec_l1Next c hcl (a + 1) (by omega) 20 (by omega)) ?_); simp -dsimp (maxSteps := 2000000) [go_sem, -decide_eq_true_eq, -decide_eq_false_iff_not, hs1, hs2, htke, hp0e]) | omega | exact True.intro
 all_goals clear hk k
 refine rt ?_
 simp [go_sem, *, Try.results62, leE])
 ·intro hc; try simp at hc
  all_goals try (exfalso; contradiction; done)
  all_goals (
 refine AW.skipN (fun _ h => h) ?_
 refine AW.reg tiOk (fun i => if i = 3 then [0] else if i = 5 then [0, 1] else []) [0,8] ?_
 intro k hk; simp -dsimp (maxSteps := 2000000) [go_sem, -decide_eq_true_eq, -decide_eq_false_iff_not, hs1, hs2, htke, hp0e]
 repeat' first | apply And.intro | refine hk _ ?_ | intro hg | ((first | refine CallK.intro (dc_spec_l1Next c hcl (a + 1) (by omega) 3 (by omega)) ?_ | refine CallK.intro (dc_spec_l1Next c hcl (a + 1) (by omega) 20 (by omega)) ?_ | refine CallK.intro (dc_spec_l1Pick_o c hcl (a + 2) (by omega) [0, 1, 2, nx c (a + 1) 20, 9999] (by simp)) ?_); simp -dsimp (maxSteps := 2000000) [go_sem, -decide_eq_true_eq, -decide_eq_false_iff_not, hs1, hs2, htke, hp0e]) | omega | exact True.intro
 all_goals clear hk k
 refine rt ?_
 simp [go_sem, *, Try.results62, leE]))
 ·intro hc; try simp at hc
  all_goals try (exfalso; contradiction; done)
  all_goals (
 refine AW.skipN (fun _ h => h) ?_
 skip)))
set_option maxHeartbeats 4000000 in
theorem dc_spec_l3Make_i (c : List UInt8) (hcl : c.length ≤ 1048576) (d : Nat) (hd : d ≤ 10) (hI : ∀ (a : Int) (e : List TNode) (X : AV), (X = .osl 4 (e.map TNode.ro) ∧ ([] : List TNode).length = 0) ∨ (X = .nils ∧ e = []) → 0 ≤ a → a + 8 * 2 ^ d ≤ 8000000 → e.length + 2 ^ (d + 1) ≤ 1000 → DC Try.prog 62 [.op [.isl 1 (c.map B1), .int .i64 a], X, .int .i64 1, .int .i64 ((d : Nat) : Int)] (.osl 4 ((e ++ (mkI c d a e.length).1).map TNode.ro)) [(0, .op [.isl 1 (c.map B1), .int .i64 (mkI c d a e.length).2])]) (a : Int) (ha : 0 ≤ a ∧ a + 8 * 2 ^ (d + 1) ≤ 8000000) (e : List TNode) (X : AV) (hX : (X = .osl 4 (e.map TNode.ro) ∧ ([] : List TNode).length = 0) ∨ (X = .nils ∧ e = [])) (he : e.length + 2 ^ (d + 1 + 1) ≤ 1000) : DC Try.prog 62 [.op [.isl 1 (c.map B1), .int .i64 a], X, .int .i64 1, .int .i64 ((d : Int) + 1)] (.osl 4 ((e ++ (mkI c (d + 1) a e.length).1).map TNode.ro)) [(0, .op [.isl 1 (c.map B1), .int .i64 (mkI c (d + 1) a e.length).2])] := by
 have hs1 : a + 1 + 1 = a + 2 := by omega
 have hs2 : a + 2 + 1 = a + 3 := by omega
 have hs3 : a + 3 + 1 = a + 4 := by omega
 have hs4 : a + 1 + 2 = a + 3 := by omega
 have hs5 : a + 1 + 3 = a + 4 := by omega
 have htke : (e.map TNode.ro).take e.length = e.map TNode.ro := List.take_of_length_le (by rw [List.length_map]; exact Nat.le_refl _)
 have hp1 : 2 ^ (d + 1) = 2 * 2 ^ d := by rw [Nat.pow_succ]; omega
 have hp2 : 2 ^ (d + 1 + 1) = 2 * 2 ^ (d + 1) := by rw [Nat.pow_succ]; omega
 have hpi : ((2 : Int) ^ (d + 1)) = 2 * 2 ^ d := by rw [Int.pow_succ]; omega
 have hp0 : 1 ≤ 2 ^ d := Nat.one_le_two_pow
 have hpz : (1 : Int) ≤ 2 ^ d := by exact_mod_cast hp0
 have hm1 := mkI_len c d (a + 2) e.length
 have hcA := hI (a + 2) e X hX (by omega) (by omega) (by omega)
 obtain ⟨F, hF⟩ : ∃ Z, mkI c d (a + 2) e.length = Z := ⟨_, rfl⟩
 rw [hF] at hm1 hcA
 obtain ⟨E1, hE1⟩ : ∃ N, N = e ++ F.1 := ⟨_, rfl⟩
 rw [← hE1] at hcA
 have hl1 : E1.length = e.length + F.1.length := by rw [hE1]; exact List.length_append
 have hm2 := mkI_len c d F.2 (e.length + F.1.length)
 have hcB := hI F.2 E1 _ (Or.inl ⟨rfl, rfl⟩) (by omega) (by omega) (by omega)
 rw [hl1] at hcB
 obtain ⟨G, hG⟩ : ∃ Z, mkI c d F.2 (e.length + F.1.length) = Z := ⟨_, rfl⟩
 rw [hG] at hm2 hcB
 obtain ⟨E2, hE2⟩ : ∃ N, N = E1 ++ G.1 := ⟨_, rfl⟩
 rw [← hE2] at hcB
 have hl2 : E2.length = E1.length + G.1.length := by rw [hE2]; exact List.length_append
 have hw1 : IntKind.wrap .i64 ((E1.length : Int) - 1) = (E1.length : Int) - 1 := wrap64 (by omega) (by omega)
 have hw2 : IntKind.wrap .i64 ((E2.length : Int) - 1) = (E2.length : Int) - 1 := wrap64 (by omega) (by omega)
 have htkE1 : (E1.map TNode.ro).take E1.length = E1.map TNode.ro := List.take_of_length_le (by rw [List.length_map]; exact Nat.le_refl _)
 have htkE2 : (E2.map TNode.ro).take E2.length = E2.map TNode.ro := List.take_of_length_le (by rw [List.length_map]; exact Nat.le_refl _)
 have hb4 := (nx_bd c (a := a + 1) (n := 4) (by omega)); have hc4 := hb4.2 (by omega)
 have hd0 : ¬ ((d : Int) + 1 = 0) := by omega
 have hwk : IntKind.wrap .i64 (3 + nx c (a + 1) 4) = 3 + nx c (a + 1) 4 := wrap64 (by omega) (by omega)
 have hwd : IntKind.wrap .i64 (d : Int) = d := wrap64 (by omega) (by omega)
 rcases hX with ⟨rfl, hp0e⟩ | ⟨rfl, hp0e⟩
 all_goals (
 refine DC.intro tiOk Try.func62 rfl rfl rfl rfl rfl rfl rfl (by simp [noW, noWo]) [1000] ?_
 refine rg [0,1,2,3] ?_
 intro k hk; simp -dsimp [go_sem, -decide_eq_true_eq, -decide_eq_false_iff_not, hs1, hs2, hs3, hd0, hwk, hwd, htke, hp0e, htkE1, htkE2, hw1, hw2]
 repeat' first | apply And.intro | refine hk _ ?_ | intro hg | omega | exact True.intro
 all_goals clear hk k
 refine AW.seq ?_
 refine AW.reg tiOk (fun _ => [0]) [0,1,2,3,21] ?_
 intro k hk; simp +contextual -dsimp (maxSteps := 2000000) [go_sem, -decide_eq_true_eq, -decide_eq_false_iff_not, hs1, hs2, hs3, hd0, hwk, hwd, htke, hp0e, htkE1, htkE2, hw1, hw2]
 repeat' first | apply And.intro | refine hk _ ?_ | (intro hg; try simp only [decide_eq_true_eq, decide_eq_false_iff_not] at hg) | ((first | refine CallK.intro (dc_spec_l1Chance c hcl a (by omega) 3 (by omega)) ?_ | refine CallK.intro (dc_spec_l1Chance c hcl (a + 1) (by omega) 2 (by omega)) ?_); simp +contextual -dsimp (maxSteps := 2000000) [go_sem, -decide_eq_true_eq, -decide_eq_false_iff_not, hs1, hs2, hs3, hd0, hwk, hwd, htke, hp0e, htkE1, htkE2, hw1, hw2]) | omega | exact True.intro
 all_goals clear hk k
 all_goals (
 refine AW.cond rfl ?_ ?_
 ·intro hc; try simp at hc
  all_goals try (exfalso; first | contradiction | omega; done)
  all_goals (
 refine AW.seq ?_
 refine AW.reg tiOk (fun _ => [0]) [0,1,23] ?_
 intro k hk; simp -dsimp (maxSteps := 2000000) [go_sem, -decide_eq_true_eq, -decide_eq_false_iff_not, hs1, hs2, hs3, hd0, hwk, hwd, htke, hp0e, htkE1, htkE2, hw1, hw2]
 repeat' first | apply And.intro | refine hk _ ?_ | intro hg | ((first | refine CallK.intro (dc_spec_l1Chance c hcl a (by omega) 3 (by omega)) ?_ | refine CallK.intro (dc_spec_l1Chance c hcl (a + 1) (by omega) 2 (by omega)) ?_); simp -dsimp (maxSteps := 2000000) [go_sem, -decide_eq_true_eq, -decide_eq_false_iff_not, hs1, hs2, hs3, hd0, hwk, hwd, htke, hp0e, htkE1, htkE2, hw1, hw2]) | omega | exact True.intro
 all_goals clear hk k
 refine AW.cond rfl ?_ ?_
 ·intro hc; try simp at hc
  all_goals try (exfalso; first | contradiction | omega; done)
  all_goals (
 refine AW.reg tiOk (fun i => if i = 2 then [0] else []) [0,8] ?_
 intro k hk; simp -dsimp (maxSteps := 2000000) [go_sem, -decide_eq_true_eq, -decide_eq_false_iff_not, hs1, hs2, hs3, hd0, hwk, hwd, htke, hp0e, htkE1, htkE2, hw1, hw2]
 repeat' first | apply And.intro | refine hk _ ?_ | intro hg | ((first | refine CallK.intro (dc_spec_l1Next c hcl (a + 2) (by omega) 3 (by omega)) ?_ | refine CallK.intro (dc_spec_l1Next c hcl (a + 2) (by omega) 20 (by omega)) ?_ | refine CallK.intro (dc_spec_l1Next c hcl (a + 1) (by omega) 4 (by omega)) ?_); simp -dsimp (maxSteps := 2000000) [go_sem, -decide_eq_true_eq, -decide_eq_false_iff_not, hs1, hs2, hs3, hd0, hwk, hwd, htke, hp0e, htkE1, htkE2, hw1, hw2]) | omega | exact True.intro
 all_goals clear hk k
 refine rt ?_
 first | (clear hp0e; simp [go_sem, *, Try.results62, leE, mkI, mkB, twE]; done) | (clear hp0e; simp [go_sem, *, Try.results62, leE, mkI, mkB, twE] <;> omega) | (simp [go_sem, *, Try.results62, leE, mkI, mkB, twE]; done) | (simp [go_sem, *, Try.results62, leE, mkI, mkB, twE]; repeat' constructor <;> omega))
 ·intro hc; try simp at hc
  all_goals try (exfalso; first | contradiction | omega; done)
  all_goals (
 refine AW.skipN (fun _ h => h) ?_
 refine AW.reg tiOk (fun i => if i = 3 then [0] else if i = 5 then [0, 1] else []) [0,8] ?_
 intro k hk; simp -dsimp (maxSteps := 2000000) [go_sem, -decide_eq_true_eq, -decide_eq_false_iff_not, hs1, hs2, hs3, hd0, hwk, hwd, htke, hp0e, htkE1, htkE2, hw1, hw2]
 repeat' first | apply And.intro | refine hk _ ?_ | intro hg | ((first | refine CallK.intro (dc_spec_l1Next c hcl (a + 2) (by omega) 3 (by omega)) ?_ | refine CallK.intro (dc_spec_l1Next c hcl (a + 2) (by omega) 20 (by omega)) ?_ | refine CallK.intro (dc_spec_l1Next c hcl (a + 1) (by omega) 4 (by omega)) ?_ | refine CallK.intro (dc_spec_l1Pick_o c hcl (a + 3) (by omega) [0, 1, 2, nx c (a + 2) 20, 9999] (by simp)) ?_); simp -dsimp (maxSteps := 2000000) [go_sem, -decide_eq_true_eq, -decide_eq_false_iff_not, hs1, hs2, hs3, hd0, hwk, hwd, htke, hp0e, htkE1, htkE2, hw1, hw2]) | omega | exact True.intro
 all_goals clear hk k
 refine rt ?_
 first | (clear hp0e; simp [go_sem, *, Try.results62, leE, mkI, mkB, twE]; done) | (clear hp0e; simp [go_sem, *, Try.results62, leE, mkI, mkB, twE] <;> omega) | (simp [go_sem, *, Try.results62, leE, mkI, mkB, twE]; done) | (simp [go_sem, *, Try.results62, leE, mkI, mkB, twE]; repeat' constructor <;> omega)))
 ·intro hc; try simp at hc
  all_goals try (exfalso; first | contradiction | omega; done)
  all_goals (
 refine AW.skipN (fun _ h => h) ?_
 refine AW.reg tiOk (fun _ => [0]) [0,1,2,3,9] ?_
 intro k hk; simp -dsimp (maxSteps := 2000000) [go_sem, -decide_eq_true_eq, -decide_eq_false_iff_not, hs1, hs2, hs3, hd0, hwk, hwd, htke, hp0e, htkE1, htkE2, hw1, hw2]
 repeat' first | apply And.intro | refine hk _ ?_ | intro hg | ((first | refine CallK.intro (dc_spec_l1Next c hcl (a + 2) (by omega) 3 (by omega)) ?_ | refine CallK.intro (dc_spec_l1Next c hcl (a + 2) (by omega) 20 (by omega)) ?_ | refine CallK.intro (dc_spec_l1Next c hcl (a + 1) (by omega) 4 (by omega)) ?_); simp -dsimp (maxSteps := 2000000) [go_sem, -decide_eq_true_eq, -decide_eq_false_iff_not, hs1, hs2, hs3, hd0, hwk, hwd, htke, hp0e, htkE1, htkE2, hw1, hw2]) | omega | exact True.intro
 all_goals clear hk k
 refine rg [0,1,2,3,9,10] ?_
 intro k hk; simp -dsimp [go_sem, -decide_eq_true_eq, -decide_eq_false_iff_not, hs1, hs2, hs3, hd0, hwk, hwd, htke, hp0e, htkE1, htkE2, hw1, hw2]
 repeat' first | apply And.intro | refine hk _ ?_ | intro hg | omega | exact True.intro
 all_goals clear hk k
 refine AW.seq ?_
 refine rg [0,1,3,9,10,43] ?_
 intro k hk; simp -dsimp [go_sem, -decide_eq_true_eq, -decide_eq_false_iff_not, hs1, hs2, hs3, hd0, hwk, hwd, htke, hp0e, htkE1, htkE2, hw1, hw2]
 repeat' first | apply And.intro | refine hk _ ?_ | intro hg | omega | exact True.intro
 all_goals clear hk k
 refine AW.cond rfl ?_ ?_
 ·intro hc; try simp at hc
  all_goals try (exfalso; first | contradiction | omega; done)
  all_goals (
 refine AW.reg tiOk (fun _ => [0]) [0,1,3,9,10] ?_
 intro k hk; simp -dsimp (maxSteps := 2000000) [go_sem, -decide_eq_true_eq, -decide_eq_false_iff_not, hs1, hs2, hs3, hd0, hwk, hwd, htke, hp0e, htkE1, htkE2, hw1, hw2]
 repeat' first | apply And.intro | refine hk _ ?_ | intro hg | ((first | refine CallK.intro (dc_spec_l1Next c hcl (a + 2) (by omega) 3 (by omega)) ?_ | refine CallK.intro (dc_spec_l1Next c hcl (a + 2) (by omega) 20 (by omega)) ?_ | refine CallK.intro (dc_spec_l1Next c hcl (a + 1) (by omega) 4 (by omega)) ?_); simp -dsimp (maxSteps := 2000000) [go_sem, -decide_eq_true_eq, -decide_eq_false_iff_not, hs1, hs2, hs3, hd0, hwk, hwd, htke, hp0e, htkE1, htkE2, hw1, hw2]) | omega | exact True.intro
 all_goals clear hk k
 refine AW.reg tiOk (fun _ => [0]) [0,1,3,9,10,52] ?_
 intro k hk; simp +contextual -dsimp (maxSteps := 2000000) [go_sem, -decide_eq_true_eq, -decide_eq_false_iff_not, hs1, hs2, hs3, hd0, hwk, hwd, htke, hp0e, htkE1, htkE2, hw1, hw2]
 repeat' first | apply And.intro | refine hk _ ?_ | (intro hg; try simp only [decide_eq_true_eq, decide_eq_false_iff_not] at hg) | ((first | refine CallK.intro (dc_spec_l1Chance c hcl a (by omega) 3 (by omega)) ?_ | refine CallK.intro (dc_spec_l1Chance c hcl (a + 1) (by omega) 2 (by omega)) ?_); simp +contextual -dsimp (maxSteps := 2000000) [go_sem, -decide_eq_true_eq, -decide_eq_false_iff_not, hs1, hs2, hs3, hd0, hwk, hwd, htke, hp0e, htkE1, htkE2, hw1, hw2]) | omega | exact True.intro
 all_goals clear hk k
 all_goals (
 refine AW.cond rfl ?_ ?_
 ·intro hc; try simp at hc
  all_goals try (exfalso; first | contradiction | omega; done)
  all_goals (
 refine AW.reg tiOk (fun _ => [0]) [0,1,3,9] ?_
 intro k hk; simp -dsimp (maxSteps := 2000000) [go_sem, -decide_eq_true_eq, -decide_eq_false_iff_not, hs1, hs2, hs3, hd0, hwk, hwd, htke, hp0e, htkE1, htkE2, hw1, hw2]
 repeat' first | apply And.intro | refine hk _ ?_ | intro hg | ((first | refine CallK.intro (dc_spec_l1Next c hcl (a + 2) (by omega) 3 (by omega)) ?_ | refine CallK.intro (dc_spec_l1Next c hcl (a + 2) (by omega) 20 (by omega)) ?_ | refine CallK.intro (dc_spec_l1Next c hcl (a + 1) (by omega) 4 (by omega)) ?_); simp -dsimp (maxSteps := 2000000) [go_sem, -decide_eq_true_eq, -decide_eq_false_iff_not, hs1, hs2, hs3, hd0, hwk, hwd, htke, hp0e, htkE1, htkE2, hw1, hw2]) | omega | exact True.intro
 all_goals clear hk k
 refine rgN [0,1,3,9,10] (fun _ h => h) ?_
 intro k hk; simp -dsimp [go_sem, -decide_eq_true_eq, -decide_eq_false_iff_not, hs1, hs2, hs3, hd0, hwk, hwd, htke, hp0e, htkE1, htkE2, hw1, hw2]
 repeat' first | apply And.intro | refine hk _ ?_ | intro hg | omega | exact True.intro
 all_goals clear hk k
 refine AW.reg tiOk (fun i => if i = 6 then [0, 1] else []) [0,1,3,9,10] ?_
 intro k hk; simp -dsimp (maxSteps := 2000000) [go_sem, -decide_eq_true_eq, -decide_eq_false_iff_not, hs1, hs2, hs3, hd0, hwk, hwd, htke, hp0e, htkE1, htkE2, hw1, hw2]
 repeat' first | apply And.intro | refine hk _ ?_ | intro hg | ((first | refine CallK.intro (dc_spec_l1Max_p d (by omega)) ?_ | refine CallK.intro (hcA) ?_); simp -dsimp (maxSteps := 2000000) [go_sem, -decide_eq_true_eq, -decide_eq_false_iff_not, hs1, hs2, hs3, hd0, hwk, hwd, htke, hp0e, htkE1, htkE2, hw1, hw2]) | omega | exact True.intro
 all_goals clear hk k
 refine rg [0,1,3,9,10,11] ?_
 intro k hk; simp -dsimp [go_sem, -decide_eq_true_eq, -decide_eq_false_iff_not, hs1, hs2, hs3, hd0, hwk, hwd, htke, hp0e, htkE1, htkE2, hw1, hw2]
 repeat' first | apply And.intro | refine hk _ ?_ | intro hg | omega | exact True.intro
 all_goals clear hk k
 refine AW.seq ?_
 refine rg [0,1,3,9,10,11,67] ?_
 intro k hk; simp -dsimp [go_sem, -decide_eq_true_eq, -decide_eq_false_iff_not, hs1, hs2, hs3, hd0, hwk, hwd, htke, hp0e, htkE1, htkE2, hw1, hw2]
 repeat' first | apply And.intro | refine hk _ ?_ | intro hg | omega | exact True.intro
 all_goals clear hk k
 refine AW.cond rfl ?_ ?_
 ·intro hc; try simp at hc
  all_goals try (exfalso; first | contradiction | omega; done)
  all_goals (
 refine rg [0,8] ?_
 intro k hk; simp -dsimp (maxSteps := 2000000) [go_sem, -decide_eq_true_eq, -decide_eq_false_iff_not, hs1, hs2, hs3, hd0, hwk, hwd, htke, hp0e, htkE1, htkE2, hw1, hw2]
 repeat' first | apply And.intro | refine hk _ ?_ | intro hg | omega | exact True.intro
 all_goals clear hk k
 refine rt ?_
 first | (clear hp0e; simp [go_sem, *, Try.results62, leE, mkI, mkB, twE]; done) | (clear hp0e; simp [go_sem, *, Try.results62, leE, mkI, mkB, twE] <;> omega) | (simp [go_sem, *, Try.results62, leE, mkI, mkB, twE]; done) | (simp [go_sem, *, Try.results62, leE, mkI, mkB, twE]; repeat' constructor <;> omega))
 ·intro hc; try simp at hc
  all_goals try (exfalso; first | contradiction | omega; done)
  all_goals (
 refine AW.skipN (fun _ h => h) ?_
 refine AW.reg tiOk (fun i => if i = 6 then [0, 1] else []) [0,1,9,11] ?_
 intro k hk; simp -dsimp (maxSteps := 2000000) [go_sem, -decide_eq_true_eq, -decide_eq_false_iff_not, hs1, hs2, hs3, hd0, hwk, hwd, htke, hp0e, htkE1, htkE2, hw1, hw2]
 repeat' first | apply And.intro | refine hk _ ?_ | intro hg | ((first | refine CallK.intro (dc_spec_l1Max_p d (by omega)) ?_ | refine CallK.intro (hcB) ?_); simp -dsimp (maxSteps := 2000000) [go_sem, -decide_eq_true_eq, -decide_eq_false_iff_not, hs1, hs2, hs3, hd0, hwk, hwd, htke, hp0e, htkE1, htkE2, hw1, hw2]) | omega | exact True.intro
 all_goals clear hk k
 refine rg [0,8] ?_
 intro k hk; simp -dsimp (maxSteps := 2000000) [go_sem, -decide_eq_true_eq, -decide_eq_false_iff_not, hs1, hs2, hs3, hd0, hwk, hwd, htke, hp0e, htkE1, htkE2, hw1, hw2]
 repeat' first | apply And.intro | refine hk _ ?_ | intro hg | omega | exact True.intro
 all_goals clear hk k
 refine rt ?_
 first | (clear hp0e; simp [go_sem, *, Try.results62, leE, mkI, mkB, twE]; done) | (clear hp0e; simp [go_sem, *, Try.results62, leE, mkI, mkB, twE] <;> omega) | (simp [go_sem, *, Try.results62, leE, mkI, mkB, twE]; done) | (simp [go_sem, *, Try.results62, leE, mkI, mkB, twE]; repeat' constructor <;> omega)))
 ·intro hc; try simp at hc
  all_goals try (exfalso; first | contradiction | omega; done)
  all_goals (
 refine AW.skipN (fun _ h => h) ?_
 refine AW.reg tiOk (fun i => if i = 6 then [0, 1] else []) [0,1,3,9,10] ?_
 intro k hk; simp -dsimp (maxSteps := 2000000) [go_sem, -decide_eq_true_eq, -decide_eq_false_iff_not, hs1, hs2, hs3, hd0, hwk, hwd, htke, hp0e, htkE1, htkE2, hw1, hw2]
 repeat' first | apply And.intro | refine hk _ ?_ | intro hg | ((first | refine CallK.intro (dc_spec_l1Max_p d (by omega)) ?_ | refine CallK.intro (hcA) ?_); simp -dsimp (maxSteps := 2000000) [go_sem, -decide_eq_true_eq, -decide_eq_false_iff_not, hs1, hs2, hs3, hd0, hwk, hwd, htke, hp0e, htkE1, htkE2, hw1, hw2]) | omega | exact True.intro
 all_goals clear hk k
 refine rg [0,1,3,9,10,11] ?_
 intro k hk; simp -dsimp [go_sem, -decide_eq_true_eq, -decide_eq_false_iff_not, hs1, hs2, hs3, hd0, hwk, hwd, htke, hp0e, htkE1, htkE2, hw1, hw2]
 repeat' first | apply And.intro | refine hk _ ?_ | intro hg | omega | exact True.intro
 all_goals clear hk k
 refine AW.seq ?_
 refine rg [0,1,3,9,10,11,67] ?_
 intro k hk; simp -dsimp [go_sem, -decide_eq_true_eq, -decide_eq_false_iff_not, hs1, hs2, hs3, hd0, hwk, hwd, htke, hp0e, htkE1, htkE2, hw1, hw2]
 repeat' first | apply And.intro | refine hk _ ?_ | intro hg | omega | exact True.intro
 all_goals clear hk k
 refine AW.cond rfl ?_ ?_
 ·intro hc; try simp at hc
  all_goals try (exfalso; first | contradiction | omega; done)
  all_goals (
 refine rg [0,8] ?_
 intro k hk; simp -dsimp (maxSteps := 2000000) [go_sem, -decide_eq_true_eq, -decide_eq_false_iff_not, hs1, hs2, hs3, hd0, hwk, hwd, htke, hp0e, htkE1, htkE2, hw1, hw2]
 repeat' first | apply And.intro | refine hk _ ?_ | intro hg | omega | exact True.intro
 all_goals clear hk k
 refine rt ?_
 first | (clear hp0e; simp [go_sem, *, Try.results62, leE, mkI, mkB, twE]; done) | (clear hp0e; simp [go_sem, *, Try.results62, leE, mkI, mkB, twE] <;> omega) | (simp [go_sem, *, Try.results62, leE, mkI, mkB, twE]; done) | (simp [go_sem, *, Try.results62, leE, mkI, mkB, twE]; repeat' constructor <;> omega))
 ·intro hc; try simp at hc
  all_goals try (exfalso; first | contradiction | omega; done)
  all_goals (
 refine AW.skipN (fun _ h => h) ?_
 refine AW.reg tiOk (fun i => if i = 6 then [0, 1] else []) [0,1,9,11] ?_
 intro k hk; simp -dsimp (maxSteps := 2000000) [go_sem, -decide_eq_true_eq, -decide_eq_false_iff_not, hs1, hs2, hs3, hd0, hwk, hwd, htke, hp0e, htkE1, htkE2, hw1, hw2]
 repeat' first | apply And.intro | refine hk _ ?_ | intro hg | ((first | refine CallK.intro (dc_spec_l1Max_p d (by omega)) ?_ | refine CallK.intro (hcB) ?_); simp -dsimp (maxSteps := 2000000) [go_sem, -decide_eq_true_eq, -decide_eq_false_iff_not, hs1, hs2, hs3, hd0, hwk, hwd, htke, hp0e, htkE1, htkE2, hw1, hw2]) | omega | exact True.intro
 all_goals clear hk k
 refine rg [0,8] ?_
 intro k hk; simp -dsimp (maxSteps := 2000000) [go_sem, -decide_eq_true_eq, -decide_eq_false_iff_not, hs1, hs2, hs3, hd0, hwk, hwd, htke, hp0e, htkE1, htkE2, hw1, hw2]
 repeat' first | apply And.intro | refine hk _ ?_ | intro hg | omega | exact True.intro
 all_goals clear hk k
 refine rt ?_
 first | (clear hp0e; simp [go_sem, *, Try.results62, leE, mkI, mkB, twE]; done) | (clear hp0e; simp [go_sem, *, Try.results62, leE, mkI, mkB, twE] <;> omega) | (simp [go_sem, *, Try.results62, leE, mkI, mkB, twE]; done) | (simp [go_sem, *, Try.results62, leE, mkI, mkB, twE]; repeat' constructor <;> omega)))))
 ·intro hc; try simp at hc
  all_goals try (exfalso; first | contradiction | omega; done)
  all_goals (
 refine AW.skipN (fun _ h => h) ?_
 refine AW.reg tiOk (fun i => if i = 6 then [0, 1] else []) [0,1,3,9,10] ?_
 intro k hk; simp -dsimp (maxSteps := 2000000) [go_sem, -decide_eq_true_eq, -decide_eq_false_iff_not, hs1, hs2, hs3, hd0, hwk, hwd, htke, hp0e, htkE1, htkE2, hw1, hw2]
 repeat' first | apply And.intro | refine hk _ ?_ | intro hg | ((first | refine CallK.intro (dc_spec_l1Max_p d (by omega)) ?_ | refine CallK.intro (hcA) ?_); simp -dsimp (maxSteps := 2000000) [go_sem, -decide_eq_true_eq, -decide_eq_false_iff_not, hs1, hs2, hs3, hd0, hwk, hwd, htke, hp0e, htkE1, htkE2, hw1, hw2]) | omega | exact True.intro
 all_goals clear hk k
 refine rg [0,1,3,9,10,11] ?_
 intro k hk; simp -dsimp [go_sem, -decide_eq_true_eq, -decide_eq_false_iff_not, hs1, hs2, hs3, hd0, hwk, hwd, htke, hp0e, htkE1, htkE2, hw1, hw2]
 repeat' first | apply And.intro | refine hk _ ?_ | intro hg | omega | exact True.intro
 all_goals clear hk k
 refine AW.seq ?_
 refine rg [0,1,3,9,10,11,67] ?_
 intro k hk; simp -dsimp [go_sem, -decide_eq_true_eq, -decide_eq_false_iff_not, hs1, hs2, hs3, hd0, hwk, hwd, htke, hp0e, htkE1, htkE2, hw1, hw2]
 repeat' first | apply And.intro | refine hk _ ?_ | intro hg | omega | exact True.intro
 all_goals clear hk k
 refine AW.cond rfl ?_ ?_
 ·intro hc; try simp at hc
  all_goals try (exfalso; first | contradiction | omega; done)
  all_goals (
 refine rg [0,8] ?_
 intro k hk; simp -dsimp (maxSteps := 2000000) [go_sem, -decide_eq_true_eq, -decide_eq_false_iff_not, hs1, hs2, hs3, hd0, hwk, hwd, htke, hp0e, htkE1, htkE2, hw1, hw2]
 repeat' first | apply And.intro | refine hk _ ?_ | intro hg | omega | exact True.intro
 all_goals clear hk k
 refine rt ?_
 first | (clear hp0e; simp [go_sem, *, Try.results62, leE, mkI, mkB, twE]; done) | (clear hp0e; simp [go_sem, *, Try.results62, leE, mkI, mkB, twE] <;> omega) | (simp [go_sem, *, Try.results62, leE, mkI, mkB, twE]; done) | (simp [go_sem, *, Try.results62, leE, mkI, mkB, twE]; repeat' constructor <;> omega))
 ·intro hc; try simp at hc
  all_goals try (exfalso; first | contradiction | omega; done)
  all_goals (
 refine AW.skipN (fun _ h => h) ?_
 refine AW.reg tiOk (fun i => if i = 6 then [0, 1] else []) [0,1,9,11] ?_
 intro k hk; simp -dsimp (maxSteps := 2000000) [go_sem, -decide_eq_true_eq, -decide_eq_false_iff_not, hs1, hs2, hs3, hd0, hwk, hwd, htke, hp0e, htkE1, htkE2, hw1, hw2]
 repeat' first | apply And.intro | refine hk _ ?_ | intro hg | ((first | refine CallK.intro (dc_spec_l1Max_p d (by omega)) ?_ | refine CallK.intro (hcB) ?_); simp -dsimp (maxSteps := 2000000) [go_sem, -decide_eq_true_eq, -decide_eq_false_iff_not, hs1, hs2, hs3, hd0, hwk, hwd, htke, hp0e, htkE1, htkE2, hw1, hw2]) | omega | exact True.intro
 all_goals clear hk k
 refine rg [0,8] ?_
 intro k hk; simp -dsimp (maxSteps := 2000000) [go_sem, -decide_eq_true_eq, -decide_eq_false_iff_not, hs1, hs2, hs3, hd0, hwk, hwd, htke, hp0e, htkE1, htkE2, hw1, hw2]
 repeat' first | apply And.intro | refine hk _ ?_ | intro hg | omega | exact True.intro
 all_goals clear hk k
 refine rt ?_
 first | (clear hp0e; simp [go_sem, *, Try.results62, leE, mkI, mkB, twE]; done) | (clear hp0e; simp [go_sem, *, Try.results62, leE, mkI, mkB, twE] <;> omega) | (simp [go_sem, *, Try.results62, leE, mkI, mkB, twE]; done) | (simp [go_sem, *, Try.results62, leE, mkI, mkB, twE]; repeat' constructor <;> omega))))))
theorem dc_mkI (c : List UInt8) (hcl : c.length ≤ 1048576) : ∀ d : Nat, d ≤ 10 → ∀ (a : Int) (e : List TNode) (X : AV), (X = .osl 4 (e.map TNode.ro) ∧ ([] : List TNode).length = 0) ∨ (X = .nils ∧ e = []) → 0 ≤ a → a + 8 * 2 ^ d ≤ 8000000 → e.length + 2 ^ (d + 1) ≤ 1000 → DC Try.prog 62 [.op [.isl 1 (c.map B1), .int .i64 a], X, .int .i64 1, .int .i64 ((d : Nat) : Int)] (.osl 4 ((e ++ (mkI c d a e.length).1).map TNode.ro)) [(0, .op [.isl 1 (c.map B1), .int .i64 (mkI c d a e.length).2])] := by
 intro d
 induction d with
 | zero => intro _ a e X hX h1 h2 h3; exact dc_spec_l3Make_i0 c hcl a (by omega) e X hX (by omega)
 | succ d ih => intro hd a e X hX h1 h2 h3; exact dc_spec_l3Make_i c hcl d (by omega) (ih (by omega)) a ⟨h1, h2⟩ e X hX h3
end Go.AM
namespace Go.AM
open Go.Proofs
theorem mkB_1 (c : List UInt8) (a : Int) (e : Nat) : mkB c 1 a e = twE (7 + nx c (a + 1) 2) e (mkI c 0 (a + 2) e) (mkI c 0 (mkI c 0 (a + 2) e).2 (e + (mkI c 0 (a + 2) e).1.length)) := by
 rw [mkB, if_neg (by omega), if_neg (by omega)]
theorem mkB_2 (c : List UInt8) (a : Int) (e : Nat) : mkB c 2 a e = if nx c (a + 2) 3 = 0 then (if 9 + nx c (a + 3) 2 = 10 then ((mkB c 1 (a + 4) e).1 ++ [⟨10, 0, (e : Int) + (mkB c 1 (a + 4) e).1.length - 1, 0⟩], (mkB c 1 (a + 4) e).2) else twE (9 + nx c (a + 3) 2) e (mkB c 1 (a + 4) e) (mkB c 1 (mkB c 1 (a + 4) e).2 (e + (mkB c 1 (a + 4) e).1.length)))
  else twE (7 + nx c (a + 1) 2) e (mkI c 1 (a + 3) e) (mkI c 1 (mkI c 1 (a + 3) e).2 (e + (mkI c 1 (a + 3) e).1.length)) := by
 by_cases h : nx c (a + 2) 3 = 0
 · rw [mkB, if_pos ⟨by omega, h⟩, if_pos h]
 · rw [mkB, if_neg (fun h2 => h h2.2), if_neg h, if_pos (by omega)]
set_option maxHeartbeats 4000000 in
theorem dc_spec_l3Make_b1 (c : List UInt8) (hcl : c.length ≤ 1048576) (a : Int) (e : List TNode) (X : AV) (hX : (X = .osl 4 (e.map TNode.ro) ∧ ([] : List TNode).length = 0) ∨ (X = .nils ∧ e = [])) (ha0 : 0 ≤ a) (ha : a ≤ 7000000) (he : e.length + 8 ≤ 1000) : DC Try.prog 62 [.op [.isl 1 (c.map B1), .int .i64 a], X, .int .i64 2, .int .i64 1] (.osl 4 ((e ++ (mkB c 1 a e.length).1).map TNode.ro)) [(0, .op [.isl 1 (c.map B1), .int .i64 (mkB c 1 a e.length).2])] := by
 have hs1 : a + 1 + 1 = a + 2 := by omega
 have hs2 : a + 2 + 1 = a + 3 := by omega
 have hs3 : a + 3 + 1 = a + 4 := by omega
 have hs4 : a + 1 + 2 = a + 3 := by omega
 have hs5 : a + 1 + 3 = a + 4 := by omega
 have htke : (e.map TNode.ro).take e.length = e.map TNode.ro := List.take_of_length_le (by rw [List.length_map]; exact Nat.le_refl _)
 have hm1 := mkI_len c 0 (a + 2) e.length
 have hcA := (dc_mkI c hcl 0 (by omega)) (a + 2) e X hX (by omega) (by omega) (by omega)
 obtain ⟨F, hF⟩ : ∃ Z, mkI c 0 (a + 2) e.length = Z := ⟨_, rfl⟩
 rw [hF] at hm1 hcA
 obtain ⟨E1, hE1⟩ : ∃ N, N = e ++ F.1 := ⟨_, rfl⟩
 rw [← hE1] at hcA
 have hl1 : E1.length = e.length + F.1.length := by rw [hE1]; exact List.length_append
 have hm2 := mkI_len c 0 F.2 (e.length + F.1.length)
 have hcB := (dc_mkI c hcl 0 (by omega)) F.2 E1 _ (Or.inl ⟨rfl, rfl⟩) (by omega) (by omega) (by omega)
 rw [hl1] at hcB
 obtain ⟨G, hG⟩ : ∃ Z, mkI c 0 F.2 (e.length + F.1.length) = Z := ⟨_, rfl⟩
 rw [hG] at hm2 hcB
 obtain ⟨E2, hE2⟩ : ∃ N, N = E1 ++ G.1 := ⟨_, rfl⟩
 rw [← hE2] at hcB
 have hl2 : E2.length = E1.length + G.1.length := by rw [hE2]; exact List.length_append
 have hw1 : IntKind.wrap .i64 ((E1.length : Int) - 1) = (E1.length : Int) - 1 := wrap64 (by omega) (by omega)
 have hw2 : IntKind.wrap .i64 ((E2.length : Int) - 1) = (E2.length : Int) - 1 := wrap64 (by omega) (by omega)
 have htkE1 : (E1.map TNode.ro).take E1.length = E1.map TNode.ro := List.take_of_length_le (by rw [List.length_map]; exact Nat.le_refl _)
 have htkE2 : (E2.map TNode.ro).take E2.length = E2.map TNode.ro := List.take_of_length_le (by rw [List.length_map]; exact Nat.le_refl _)
 have hb2 := (nx_bd c (a := a + 1) (n := 2) (by omega)); have hc2 := hb2.2 (by omega)
 have hb1 := (nx_bd c (a := a) (n := 4) (by omega)); have hc1 := hb1.2 (by omega)
 have hwq : IntKind.wrap .i64 (3 + nx c a 4) = 3 + nx c a 4 := wrap64 (by omega) (by omega)
 have hwk2 : IntKind.wrap .i64 (7 + nx c (a + 1) 2) = 7 + nx c (a + 1) 2 := wrap64 (by omega) (by omega)
 rcases hX with ⟨rfl, hp0e⟩ | ⟨rfl, hp0e⟩
 all_goals (
 refine DC.intro tiOk Try.func62 rfl rfl rfl rfl rfl rfl rfl (by simp [noW, noWo]) [1000] ?_
 refine rg [0,1,2,3] ?_
 intro k hk; simp -dsimp [go_sem, -decide_eq_true_eq, -decide_eq_false_iff_not, hs1, hs2, hs3, hwq, hwk2, htke, hp0e, htkE1, htkE2, hw1, hw2]
 repeat' first | apply And.intro | refine hk _ ?_ | intro hg | omega | exact True.intro
 all_goals clear hk k
 refine AW.seq ?_
 refine AW.reg tiOk (fun _ => [0]) [0,1,2,3,21] ?_
 intro k hk; simp -dsimp (maxSteps := 2000000) [go_sem, -decide_eq_true_eq, -decide_eq_false_iff_not, hs1, hs2, hs3, hwq, hwk2, htke, hp0e, htkE1, htkE2, hw1, hw2]
 repeat' first | apply And.intro | refine hk _ ?_ | (intro hg; try simp only [decide_eq_true_eq, decide_eq_false_iff_not] at hg) | (refine CallK.intro (dc_spec_l1Chance _) ?_; simp -dsimp (maxSteps := 2000000) [go_sem, -decide_eq_true_eq, -decide_eq_false_iff_not, hs1, hs2, hs3, hwq, hwk2, htke, hp0e, htkE1, htkE2, hw1, hw2]) | omega | exact True.intro
 all_goals clear hk k
 all_goals (
 refine AW.cond rfl ?_ ?_
 ·intro hc; try simp at hc
  all_goals try (exfalso; first | contradiction | omega; done)
  all_goals (
 refine AW.seq ?_
 refine AW.reg tiOk (fun _ => [0]) [0,1,23] ?_
 intro k hk; simp -dsimp (maxSteps := 2000000) [go_sem, -decide_eq_true_eq, -decide_eq_false_iff_not, hs1, hs2, hs3, hwq, hwk2, htke, hp0e, htkE1, htkE2, hw1, hw2]
 repeat' first | apply And.intro | refine hk _ ?_ | intro hg | (refine CallK.intro (dc_spec_l1Chance _) ?_; simp -dsimp (maxSteps := 2000000) [go_sem, -decide_eq_true_eq, -decide_eq_false_iff_not, hs1, hs2, hs3, hwq, hwk2, htke, hp0e, htkE1, htkE2, hw1, hw2]) | omega | exact True.intro
 all_goals clear hk k
 refine AW.cond rfl ?_ ?_
 ·intro hc; try simp at hc
  all_goals try (exfalso; first | contradiction | omega; done)
  all_goals (
 refine AW.reg tiOk (fun i => if i = 2 then [0] else []) [0,8] ?_
 intro k hk; simp -dsimp (maxSteps := 2000000) [go_sem, -decide_eq_true_eq, -decide_eq_false_iff_not, hs1, hs2, hs3, hwq, hwk2, htke, hp0e, htkE1, htkE2, hw1, hw2]
 repeat' first | apply And.intro | refine hk _ ?_ | intro hg | ((first | refine CallK.intro (dc_spec_l1Next c hcl a (by omega) 4 (by omega)) ?_ | refine CallK.intro (dc_spec_l1Next c hcl (a + 1) (by omega) 2 (by omega)) ?_); simp -dsimp (maxSteps := 2000000) [go_sem, -decide_eq_true_eq, -decide_eq_false_iff_not, hs1, hs2, hs3, hwq, hwk2, htke, hp0e, htkE1, htkE2, hw1, hw2]) | omega | exact True.intro
 all_goals clear hk k
 refine rt ?_
 first | (clear hp0e; simp [go_sem, *, Try.results62, mkB_1, twE]; done) | (clear hp0e; simp [go_sem, *, Try.results62, mkB_1, twE] <;> omega))
 ·intro hc; try simp at hc
  all_goals try (exfalso; first | contradiction | omega; done)
  all_goals (
 refine AW.skipN (fun _ h => h) ?_
 refine AW.reg tiOk (fun i => if i = 3 then [0] else if i = 5 then [0, 1] else []) [0,8] ?_
 intro k hk; simp -dsimp (maxSteps := 2000000) [go_sem, -decide_eq_true_eq, -decide_eq_false_iff_not, hs1, hs2, hs3, hwq, hwk2, htke, hp0e, htkE1, htkE2, hw1, hw2]
 repeat' first | apply And.intro | refine hk _ ?_ | intro hg | ((first | refine CallK.intro (dc_spec_l1Next c hcl a (by omega) 4 (by omega)) ?_ | refine CallK.intro (dc_spec_l1Next c hcl (a + 1) (by omega) 2 (by omega)) ?_ | refine CallK.intro (dc_spec_l1Pick _) ?_); simp -dsimp (maxSteps := 2000000) [go_sem, -decide_eq_true_eq, -decide_eq_false_iff_not, hs1, hs2, hs3, hwq, hwk2, htke, hp0e, htkE1, htkE2, hw1, hw2]) | omega | exact True.intro
 all_goals clear hk k
 refine rt ?_
 first | (clear hp0e; simp [go_sem, *, Try.results62, mkB_1, twE]; done) | (clear hp0e; simp [go_sem, *, Try.results62, mkB_1, twE] <;> omega)))
 ·intro hc; try simp at hc
  all_goals try (exfalso; first | contradiction | omega; done)
  all_goals (
 refine AW.skipN (fun _ h => h) ?_
 refine AW.reg tiOk (fun _ => [0]) [0,1,2,3,9] ?_
 intro k hk; simp -dsimp (maxSteps := 2000000) [go_sem, -decide_eq_true_eq, -decide_eq_false_iff_not, hs1, hs2, hs3, hwq, hwk2, htke, hp0e, htkE1, htkE2, hw1, hw2]
 repeat' first | apply And.intro | refine hk _ ?_ | intro hg | ((first | refine CallK.intro (dc_spec_l1Next c hcl a (by omega) 4 (by omega)) ?_ | refine CallK.intro (dc_spec_l1Next c hcl (a + 1) (by omega) 2 (by omega)) ?_); simp -dsimp (maxSteps := 2000000) [go_sem, -decide_eq_true_eq, -decide_eq_false_iff_not, hs1, hs2, hs3, hwq, hwk2, htke, hp0e, htkE1, htkE2, hw1, hw2]) | omega | exact True.intro
 all_goals clear hk k
 refine rg [0,1,2,3,9,10] ?_
 intro k hk; simp -dsimp [go_sem, -decide_eq_true_eq, -decide_eq_false_iff_not, hs1, hs2, hs3, hwq, hwk2, htke, hp0e, htkE1, htkE2, hw1, hw2]
 repeat' first | apply And.intro | refine hk _ ?_ | intro hg | omega | exact True.intro
 all_goals clear hk k
 refine AW.seq ?_
 refine rg [0,1,3,9,10,43] ?_
 intro k hk; simp -dsimp [go_sem, -decide_eq_true_eq, -decide_eq_false_iff_not, hs1, hs2, hs3, hwq, hwk2, htke, hp0e, htkE1, htkE2, hw1, hw2]
 repeat' first | apply And.intro | refine hk _ ?_ | intro hg | omega | exact True.intro
 all_goals clear hk k
 refine AW.cond rfl ?_ ?_
 ·intro hc; try simp at hc
  all_goals try (exfalso; first | contradiction | omega; done)
  all_goals (
 refine AW.reg tiOk (fun _ => [0]) [0,1,3,9,10] ?_
 intro k hk; simp -dsimp (maxSteps := 2000000) [go_sem, -decide_eq_true_eq, -decide_eq_false_iff_not, hs1, hs2, hs3, hwq, hwk2, htke, hp0e, htkE1, htkE2, hw1, hw2]
 repeat' first | apply And.intro | refine hk _ ?_ | intro hg | ((first | refine CallK.intro (dc_spec_l1Next c hcl a (by omega) 4 (by omega)) ?_ | refine CallK.intro (dc_spec_l1Next c hcl (a + 1) (by omega) 2 (by omega)) ?_); simp -dsimp (maxSteps := 2000000) [go_sem, -decide_eq_true_eq, -decide_eq_false_iff_not, hs1, hs2, hs3, hwq, hwk2, htke, hp0e, htkE1, htkE2, hw1, hw2]) | omega | exact True.intro
 all_goals clear hk k
 refine AW.reg tiOk (fun _ => [0]) [0,1,3,9,10,52] ?_
 intro k hk; simp -dsimp (maxSteps := 2000000) [go_sem, -decide_eq_true_eq, -decide_eq_false_iff_not, hs1, hs2, hs3, hwq, hwk2, htke, hp0e, htkE1, htkE2, hw1, hw2]
 repeat' first | apply And.intro | refine hk _ ?_ | (intro hg; try simp only [decide_eq_true_eq, decide_eq_false_iff_not] at hg) | (refine CallK.intro (dc_spec_l1Chance _) ?_; simp -dsimp (maxSteps := 2000000) [go_sem, -decide_eq_true_eq, -decide_eq_false_iff_not, hs1, hs2, hs3, hwq, hwk2, htke, hp0e, htkE1, htkE2, hw1, hw2]) | omega | exact True.intro
 all_goals clear hk k
 all_goals (
 refine AW.cond rfl ?_ ?_
 ·intro hc; try simp at hc
  all_goals try (exfalso; first | contradiction | omega; done)
  all_goals (
 refine AW.reg tiOk (fun _ => [0]) [0,1,3,9] ?_
 intro k hk; simp -dsimp (maxSteps := 2000000) [go_sem, -decide_eq_true_eq, -decide_eq_false_iff_not, hs1, hs2, hs3, hwq, hwk2, htke, hp0e, htkE1, htkE2, hw1, hw2]
 repeat' first | apply And.intro | refine hk _ ?_ | intro hg | ((first | refine CallK.intro (dc_spec_l1Next c hcl a (by omega) 4 (by omega)) ?_ | refine CallK.intro (dc_spec_l1Next c hcl (a + 1) (by omega) 2 (by omega)) ?_); simp -dsimp (maxSteps := 2000000) [go_sem, -decide_eq_true_eq, -decide_eq_false_iff_not, hs1, hs2, hs3, hwq, hwk2, htke, hp0e, htkE1, htkE2, hw1, hw2]) | omega | exact True.intro
 all_goals clear hk k
 refine rgN [0,1,3,9,10] (fun _ h => h) ?_
 intro k hk; simp -dsimp [go_sem, -decide_eq_true_eq, -decide_eq_false_iff_not, hs1, hs2, hs3, hwq, hwk2, htke, hp0e, htkE1, htkE2, hw1, hw2]
 repeat' first | apply And.intro | refine hk _ ?_ | intro hg | omega | exact True.intro
 all_goals clear hk k
 refine AW.reg tiOk (fun i => if i = 6 then [0, 1] else []) [0,1,3,9,10] ?_
 intro k hk; simp -dsimp (maxSteps := 2000000) [go_sem, -decide_eq_true_eq, -decide_eq_false_iff_not, hs1, hs2, hs3, hwq, hwk2, htke, hp0e, htkE1, htkE2, hw1, hw2]
 repeat' first | apply And.intro | refine hk _ ?_ | intro hg | ((first | refine CallK.intro (dc_spec_l1Max_p 0 (by omega)) ?_ | refine CallK.intro (hcA) ?_); simp -dsimp (maxSteps := 2000000) [go_sem, -decide_eq_true_eq, -decide_eq_false_iff_not, hs1, hs2, hs3, hwq, hwk2, htke, hp0e, htkE1, htkE2, hw1, hw2]) | omega | exact True.intro
 all_goals clear hk k
 refine rg [0,1,3,9,10,11] ?_
 intro k hk; simp -dsimp [go_sem, -decide_eq_true_eq, -decide_eq_false_iff_not, hs1, hs2, hs3, hwq, hwk2, htke, hp0e, htkE1, htkE2, hw1, hw2]
 repeat' first | apply And.intro | refine hk _ ?_ | intro hg | omega | exact True.intro
 all_goals clear hk k
 refine AW.seq ?_
 refine rg [0,1,3,9,10,11,67] ?_
 intro k hk; simp -dsimp [go_sem, -decide_eq_true_eq, -decide_eq_false_iff_not, hs1, hs2, hs3, hwq, hwk2, htke, hp0e, htkE1, htkE2, hw1, hw2]
 repeat' first | apply And.intro | refine hk _ ?_ | intro hg | omega | exact True.intro
 all_goals clear hk k
 refine AW.cond rfl ?_ ?_
 ·intro hc; try simp at hc
  all_goals try (exfalso; first | contradiction | omega; done)
  all_goals (
 refine rg [0,8] ?_
 intro k hk; simp -dsimp (maxSteps := 2000000) [go_sem, -decide_eq_true_eq, -decide_eq_false_iff_not, hs1, hs2, hs3, hwq, hwk2, htke, hp0e, htkE1, htkE2, hw1, hw2]
 repeat' first | apply And.intro | refine hk _ ?_ | intro hg | omega | exact True.intro
 all_goals clear hk k
 refine rt ?_
 first | (clear hp0e; simp [go_sem, *, Try.results62, mkB_1, twE]; done) | (clear hp0e; simp [go_sem, *, Try.results62, mkB_1, twE] <;> omega))
 ·intro hc; try simp at hc
  all_goals try (exfalso; first | contradiction | omega; done)
  all_goals (
 refine AW.skipN (fun _ h => h) ?_
 refine AW.reg tiOk (fun i => if i = 6 then [0, 1] else []) [0,1,9,11] ?_
 intro k hk; simp -dsimp (maxSteps := 2000000) [go_sem, -decide_eq_true_eq, -decide_eq_false_iff_not, hs1, hs2, hs3, hwq, hwk2, htke, hp0e, htkE1, htkE2, hw1, hw2]
 repeat' first | apply And.intro | refine hk _ ?_ | intro hg | ((first | refine CallK.intro (dc_spec_l1Max_p 0 (by omega)) ?_ | refine CallK.intro (hcB) ?_); simp -dsimp (maxSteps := 2000000) [go_sem, -decide_eq_true_eq, -decide_eq_false_iff_not, hs1, hs2, hs3, hwq, hwk2, htke, hp0e, htkE1, htkE2, hw1, hw2]) | omega | exact True.intro
 all_goals clear hk k
 refine rg [0,8] ?_
 intro k hk; simp -dsimp (maxSteps := 2000000) [go_sem, -decide_eq_true_eq, -decide_eq_false_iff_not, hs1, hs2, hs3, hwq, hwk2, htke, hp0e, htkE1, htkE2, hw1, hw2]
 repeat' first | apply And.intro | refine hk _ ?_ | intro hg | omega | exact True.intro
 all_goals clear hk k
 refine rt ?_
 first | (clear hp0e; simp [go_sem, *, Try.results62, mkB_1, twE]; done) | (clear hp0e; simp [go_sem, *, Try.results62, mkB_1, twE] <;> omega)))
 ·intro hc; try simp at hc
  all_goals try (exfalso; first | contradiction | omega; done)
  all_goals (
 refine AW.skipN (fun _ h => h) ?_
 refine AW.reg tiOk (fun i => if i = 6 then [0, 1] else []) [0,1,3,9,10] ?_
 intro k hk; simp -dsimp (maxSteps := 2000000) [go_sem, -decide_eq_true_eq, -decide_eq_false_iff_not, hs1, hs2, hs3, hwq, hwk2, htke, hp0e, htkE1, htkE2, hw1, hw2]
 repeat' first | apply And.intro | refine hk _ ?_ | intro hg | ((first | refine CallK.intro (dc_spec_l1Max_p 0 (by omega)) ?_ | refine CallK.intro (hcA) ?_); simp -dsimp (maxSteps := 2000000) [go_sem, -decide_eq_true_eq, -decide_eq_false_iff_not, hs1, hs2, hs3, hwq, hwk2, htke, hp0e, htkE1, htkE2, hw1, hw2]) | omega | exact True.intro
 all_goals clear hk k
 refine rg [0,1,3,9,10,11] ?_
 intro k hk; simp -dsimp [go_sem, -decide_eq_true_eq, -decide_eq_false_iff_not, hs1, hs2, hs3, hwq, hwk2, htke, hp0e, htkE1, htkE2, hw1, hw2]
 repeat' first | apply And.intro | refine hk _ ?_ | intro hg | omega | exact True.intro
 all_goals clear hk k
 refine AW.seq ?_
 refine rg [0,1,3,9,10,11,67] ?_
 intro k hk; simp -dsimp [go_sem, -decide_eq_true_eq, -decide_eq_false_iff_not, hs1, hs2, hs3, hwq, hwk2, htke, hp0e, htkE1, htkE2, hw1, hw2]
 repeat' first | apply And.intro | refine hk _ ?_ | intro hg | omega | exact True.intro
 all_goals clear hk k
 refine AW.cond rfl ?_ ?_
 ·intro hc; try simp at hc
  all_goals try (exfalso; first | contradiction | omega; done)
  all_goals (
 refine rg [0,8] ?_
 intro k hk; simp -dsimp (maxSteps := 2000000) [go_sem, -decide_eq_true_eq, -decide_eq_false_iff_not, hs1, hs2, hs3, hwq, hwk2, htke, hp0e, htkE1, htkE2, hw1, hw2]
 repeat' first | apply And.intro | refine hk _ ?_ | intro hg | omega | exact True.intro
 all_goals clear hk k
 refine rt ?_
 first | (clear hp0e; simp [go_sem, *, Try.results62, mkB_1, twE]; done) | (clear hp0e; simp [go_sem, *, Try.results62, mkB_1, twE] <;> omega))
 ·intro hc; try simp at hc
  all_goals try (exfalso; first | contradiction | omega; done)
  all_goals (
 refine AW.skipN (fun _ h => h) ?_
 refine AW.reg tiOk (fun i => if i = 6 then [0, 1] else []) [0,1,9,11] ?_
 intro k hk; simp -dsimp (maxSteps := 2000000) [go_sem, -decide_eq_true_eq, -decide_eq_false_iff_not, hs1, hs2, hs3, hwq, hwk2, htke, hp0e, htkE1, htkE2, hw1, hw2]
 repeat' first | apply And.intro | refine hk _ ?_ | intro hg | ((first | refine CallK.intro (dc_spec_l1Max_p 0 (by omega)) ?_ | refine CallK.intro (hcB) ?_); simp -dsimp (maxSteps := 2000000) [go_sem, -decide_eq_true_eq, -decide_eq_false_iff_not, hs1, hs2, hs3, hwq, hwk2, htke, hp0e, htkE1, htkE2, hw1, hw2]) | omega | exact True.intro
 all_goals clear hk k
 refine rg [0,8] ?_
 intro k hk; simp -dsimp (maxSteps := 2000000) [go_sem, -decide_eq_true_eq, -decide_eq_false_iff_not, hs1, hs2, hs3, hwq, hwk2, htke, hp0e, htkE1, htkE2, hw1, hw2]
 repeat' first | apply And.intro | refine hk _ ?_ | intro hg | omega | exact True.intro
 all_goals clear hk k
 refine rt ?_
 first | (clear hp0e; simp [go_sem, *, Try.results62, mkB_1, twE]; done) | (clear hp0e; simp [go_sem, *, Try.results62, mkB_1, twE] <;> omega)))))
 ·intro hc; try simp at hc
  all_goals try (exfalso; first | contradiction | omega; done)
  all_goals (
 refine AW.skipN (fun _ h => h) ?_
 refine AW.reg tiOk (fun i => if i = 6 then [0, 1] else []) [0,1,3,9,10] ?_
 intro k hk; simp -dsimp (maxSteps := 2000000) [go_sem, -decide_eq_true_eq, -decide_eq_false_iff_not, hs1, hs2, hs3, hwq, hwk2, htke, hp0e, htkE1, htkE2, hw1, hw2]
 repeat' first | apply And.intro | refine hk _ ?_ | intro hg | ((first | refine CallK.intro (dc_spec_l1Max_p 0 (by omega)) ?_ | refine CallK.intro (hcA) ?_); simp -dsimp (maxSteps := 2000000) [go_sem, -decide_eq_true_eq, -decide_eq_false_iff_not, hs1, hs2, hs3, hwq, hwk2, htke, hp0e, htkE1, htkE2, hw1, hw2]) | omega | exact True.intro
 all_goals clear hk k
 refine rg [0,1,3,9,10,11] ?_
 intro k hk; simp -dsimp [go_sem, -decide_eq_true_eq, -decide_eq_false_iff_not, hs1, hs2, hs3, hwq, hwk2, htke, hp0e, htkE1, htkE2, hw1, hw2]
 repeat' first | apply And.intro | refine hk _ ?_ | intro hg | omega | exact True.intro
 all_goals clear hk k
 refine AW.seq ?_
 refine rg [0,1,3,9,10,11,67] ?_
 intro k hk; simp -dsimp [go_sem, -decide_eq_true_eq, -decide_eq_false_iff_not, hs1, hs2, hs3, hwq, hwk2, htke, hp0e, htkE1, htkE2, hw1, hw2]
 repeat' first | apply And.intro | refine hk _ ?_ | intro hg | omega | exact True.intro
 all_goals clear hk k
 refine AW.cond rfl ?_ ?_
 ·intro hc; try simp at hc
  all_goals try (exfalso; first | contradiction | omega; done)
  all_goals (
 refine rg [0,8] ?_
 intro k hk; simp -dsimp (maxSteps := 2000000) [go_sem, -decide_eq_true_eq, -decide_eq_false_iff_not, hs1, hs2, hs3, hwq, hwk2, htke, hp0e, htkE1, htkE2, hw1, hw2]
 repeat' first | apply And.intro | refine hk _ ?_ | intro hg | omega | exact True.intro
 all_goals clear hk k
 refine rt ?_
 first | (clear hp0e; simp [go_sem, *, Try.results62, mkB_1, twE]; done) | (clear hp0e; simp [go_sem, *, Try.results62, mkB_1, twE] <;> omega))
 ·intro hc; try simp at hc
  all_goals try (exfalso; first | contradiction | omega; done)
  all_goals (
 refine AW.skipN (fun _ h => h) ?_
 refine AW.reg tiOk (fun i => if i = 6 then [0, 1] else []) [0,1,9,11] ?_
 intro k hk; simp -dsimp (maxSteps := 2000000) [go_sem, -decide_eq_true_eq, -decide_eq_false_iff_not, hs1, hs2, hs3, hwq, hwk2, htke, hp0e, htkE1, htkE2, hw1, hw2]
 repeat' first | apply And.intro | refine hk _ ?_ | intro hg | ((first | refine CallK.intro (dc_spec_l1Max_p 0 (by omega)) ?_ | refine CallK.intro (hcB) ?_); simp -dsimp (maxSteps := 2000000) [go_sem, -decide_eq_true_eq, -decide_eq_false_iff_not, hs1, hs2, hs3, hwq, hwk2, htke, hp0e, htkE1, htkE2, hw1, hw2]) | omega | exact True.intro
 all_goals clear hk k
 refine rg [0,8] ?_
 intro k hk; simp -dsimp (maxSteps := 2000000) [go_sem, -decide_eq_true_eq, -decide_eq_false_iff_not, hs1, hs2, hs3, hwq, hwk2, htke, hp0e, htkE1, htkE2, hw1, hw2]
 repeat' first | apply And.intro | refine hk _ ?_ | intro hg | omega | exact True.intro
 all_goals clear hk k
 refine rt ?_
 first | (clear hp0e; simp [go_sem, *, Try.results62, mkB_1, twE]; done) | (clear hp0e; simp [go_sem, *, Try.results62, mkB_1, twE] <;> omega))))))
end Go.AM
namespace Go.AM
open Go.Proofs
set_option maxHeartbeats 8000000 in
theorem dc_spec_l3Make_b2 (c : List UInt8) (hcl : c.length ≤ 1048576) (a : Int) (e : List TNode) (X : AV) (hX : (X = .osl 4 (e.map TNode.ro) ∧ ([] : List TNode).length = 0) ∨ (X = .nils ∧ e = [])) (ha0 : 0 ≤ a) (ha : a ≤ 6000000) (he : e.length + 16 ≤ 1000) : DC Try.prog 62 [.op [.isl 1 (c.map B1), .int .i64 a], X, .int .i64 2, .int .i64 2] (.osl 4 ((e ++ (mkB c 2 a e.length).1).map TNode.ro)) [(0, .op [.isl 1 (c.map B1), .int .i64 (mkB c 2 a e.length).2])] := by
 have hs1 : a + 1 + 1 = a + 2 := by omega
 have hs2 : a + 2 + 1 = a + 3 := by omega
 have hs3 : a + 3 + 1 = a + 4 := by omega
 have hs4 : a + 1 + 2 = a + 3 := by omega
 have hs5 : a + 1 + 3 = a + 4 := by omega
 have htke : (e.map TNode.ro).take e.length = e.map TNode.ro := List.take_of_length_le (by rw [List.length_map]; exact Nat.le_refl _)
 have hm1 := mkI_len c 1 (a + 3) e.length
 have hcA := (dc_mkI c hcl 1 (by omega)) (a + 3) e X hX (by omega) (by omega) (by omega)
 obtain ⟨F, hF⟩ : ∃ Z, mkI c 1 (a + 3) e.length = Z := ⟨_, rfl⟩
 rw [hF] at hm1 hcA
 obtain ⟨E1, hE1⟩ : ∃ N, N = e ++ F.1 := ⟨_, rfl⟩
 rw [← hE1] at hcA
 have hl1 : E1.length = e.length + F.1.length := by rw [hE1]; exact List.length_append
 have hm2 := mkI_len c 1 F.2 (e.length + F.1.length)
 have hcB := (dc_mkI c hcl 1 (by omega)) F.2 E1 _ (Or.inl ⟨rfl, rfl⟩) (by omega) (by omega) (by omega)
 rw [hl1] at hcB
 obtain ⟨G, hG⟩ : ∃ Z, mkI c 1 F.2 (e.length + F.1.length) = Z := ⟨_, rfl⟩
 rw [hG] at hm2 hcB
 obtain ⟨E2, hE2⟩ : ∃ N, N = E1 ++ G.1 := ⟨_, rfl⟩
 rw [← hE2] at hcB
 have hl2 : E2.length = E1.length + G.1.length := by rw [hE2]; exact List.length_append
 have hw1 : IntKind.wrap .i64 ((E1.length : Int) - 1) = (E1.length : Int) - 1 := wrap64 (by omega) (by omega)
 have hw2 : IntKind.wrap .i64 ((E2.length : Int) - 1) = (E2.length : Int) - 1 := wrap64 (by omega) (by omega)
 have htkE1 : (E1.map TNode.ro).take E1.length = E1.map TNode.ro := List.take_of_length_le (by rw [List.length_map]; exact Nat.le_refl _)
 have htkE2 : (E2.map TNode.ro).take E2.length = E2.map TNode.ro := List.take_of_length_le (by rw [List.length_map]; exact Nat.le_refl _)
 have hm1b := mkB_len c 1 (a + 4) e.length
 have hcAb := dc_spec_l3Make_b1 c hcl (a + 4) e X hX (by omega) (by omega) (by omega)
 obtain ⟨Fb, hFb⟩ : ∃ Z, mkB c 1 (a + 4) e.length = Z := ⟨_, rfl⟩
 rw [hFb] at hm1b hcAb
 obtain ⟨E1b, hE1b⟩ : ∃ N, N = e ++ Fb.1 := ⟨_, rfl⟩
 rw [← hE1b] at hcAb
 have hl1b : E1b.length = e.length + Fb.1.length := by rw [hE1b]; exact List.length_append
 have hm2b := mkB_len c 1 Fb.2 (e.length + Fb.1.length)
 have hcBb := dc_spec_l3Make_b1 c hcl Fb.2 E1b _ (Or.inl ⟨rfl, rfl⟩) (by omega) (by omega) (by omega)
 rw [hl1b] at hcBb
 obtain ⟨Gb, hGb⟩ : ∃ Z, mkB c 1 Fb.2 (e.length + Fb.1.length) = Z := ⟨_, rfl⟩
 rw [hGb] at hm2b hcBb
 obtain ⟨E2b, hE2b⟩ : ∃ N, N = E1b ++ Gb.1 := ⟨_, rfl⟩
 rw [← hE2b] at hcBb
 have hl2b : E2b.length = E1b.length + Gb.1.length := by rw [hE2b]; exact List.length_append
 have hw1b : IntKind.wrap .i64 ((E1b.length : Int) - 1) = (E1b.length : Int) - 1 := wrap64 (by omega) (by omega)
 have hw2b : IntKind.wrap .i64 ((E2b.length : Int) - 1) = (E2b.length : Int) - 1 := wrap64 (by omega) (by omega)
 have htkE1b : (E1b.map TNode.ro).take E1b.length = E1b.map TNode.ro := List.take_of_length_le (by rw [List.length_map]; exact Nat.le_refl _)
 have htkE2b : (E2b.map TNode.ro).take E2b.length = E2b.map TNode.ro := List.take_of_length_le (by rw [List.length_map]; exact Nat.le_refl _)
 have hb2 := (nx_bd c (a := a + 1) (n := 2) (by omega)); have hc2 := hb2.2 (by omega)
 have hb3 := (nx_bd c (a := a + 3) (n := 2) (by omega)); have hc3 := hb3.2 (by omega)
 have hb1 := (nx_bd c (a := a) (n := 4) (by omega)); have hc1 := hb1.2 (by omega)
 have hwk1 : IntKind.wrap .i64 (3 + nx c a 4) = 3 + nx c a 4 := wrap64 (by omega) (by omega)
 have hwk2 : IntKind.wrap .i64 (7 + nx c (a + 1) 2) = 7 + nx c (a + 1) 2 := wrap64 (by omega) (by omega)
 have hwk3 : IntKind.wrap .i64 (9 + nx c (a + 3) 2) = 9 + nx c (a + 3) 2 := wrap64 (by omega) (by omega)
 rcases hX with ⟨rfl, hp0e⟩ | ⟨rfl, hp0e⟩
 all_goals (
 refine DC.intro tiOk Try.func62 rfl rfl rfl rfl rfl rfl rfl (by simp [noW, noWo]) [1000] ?_
 refine rg [0,1,2,3] ?_
 intro k hk; simp -dsimp [go_sem, -decide_eq_true_eq, -decide_eq_false_iff_not, hs1, hs2, hs3, hwk1, hwk2, hwk3, htke, hp0e, htkE1, htkE2, hw1, hw2, htkE1b, htkE2b, hw1b, hw2b]
 repeat' first | apply And.intro | refine hk _ ?_ | intro hg | omega | exact True.intro
 all_goals clear hk k
 refine AW.seq ?_
 refine AW.reg tiOk (fun _ => [0]) [0,1,2,3,21] ?_
 intro k hk; simp -dsimp (maxSteps := 2000000) [go_sem, -decide_eq_true_eq, -decide_eq_false_iff_not, hs1, hs2, hs3, hwk1, hwk2, hwk3, htke, hp0e, htkE1, htkE2, hw1, hw2, htkE1b, htkE2b, hw1b, hw2b]
 repeat' first | apply And.intro | refine hk _ ?_ | (intro hg; try simp only [decide_eq_true_eq, decide_eq_false_iff_not] at hg) | (refine CallK.intro (dc_spec_l1Chance c hcl (a + 2) (by omega) 3 (by omega)) ?_; simp -dsimp (maxSteps := 2000000) [go_sem, -decide_eq_true_eq, -decide_eq_false_iff_not, hs1, hs2, hs3, hwk1, hwk2, hwk3, htke, hp0e, htkE1, htkE2, hw1, hw2, htkE1b, htkE2b, hw1b, hw2b]) | omega | exact True.intro
 all_goals clear hk k
 all_goals (
 refine AW.cond rfl ?_ ?_
 ·intro hc; try simp at hc
  all_goals try (exfalso; first | contradiction | omega; done)
  all_goals (
 refine AW.seq ?_
 refine AW.reg tiOk (fun _ => [0]) [0,1,23] ?_
 intro k hk; simp -dsimp (maxSteps := 2000000) [go_sem, -decide_eq_true_eq, -decide_eq_false_iff_not, hs1, hs2, hs3, hwk1, hwk2, hwk3, htke, hp0e, htkE1, htkE2, hw1, hw2, htkE1b, htkE2b, hw1b, hw2b]
 repeat' first | apply And.intro | refine hk _ ?_ | intro hg | (refine CallK.intro (dc_spec_l1Chance c hcl (a + 2) (by omega) 3 (by omega)) ?_; simp -dsimp (maxSteps := 2000000) [go_sem, -decide_eq_true_eq, -decide_eq_false_iff_not, hs1, hs2, hs3, hwk1, hwk2, hwk3, htke, hp0e, htkE1, htkE2, hw1, hw2, htkE1b, htkE2b, hw1b, hw2b]) | omega | exact True.intro
 all_goals clear hk k
 refine AW.cond rfl ?_ ?_
 ·intro hc; try simp at hc
  all_goals try (exfalso; first | contradiction | omega; done)
  all_goals (
 refine AW.reg tiOk (fun i => if i = 2 then [0] else []) [0,8] ?_
 intro k hk; simp -dsimp (maxSteps := 2000000) [go_sem, -decide_eq_true_eq, -decide_eq_false_iff_not, hs1, hs2, hs3, hwk1, hwk2, hwk3, htke, hp0e, htkE1, htkE2, hw1, hw2, htkE1b, htkE2b, hw1b, hw2b]
 repeat' first | apply And.intro | refine hk _ ?_ | intro hg | ((first | refine CallK.intro (dc_spec_l1Next c hcl a (by omega) 4 (by omega)) ?_ | refine CallK.intro (dc_spec_l1Next c hcl (a + 1) (by omega) 2 (by omega)) ?_ | refine CallK.intro (dc_spec_l1Next c hcl (a + 3) (by omega) 2 (by omega)) ?_); simp -dsimp (maxSteps := 2000000) [go_sem, -decide_eq_true_eq, -decide_eq_false_iff_not, hs1, hs2, hs3, hwk1, hwk2, hwk3, htke, hp0e, htkE1, htkE2, hw1, hw2, htkE1b, htkE2b, hw1b, hw2b]) | omega | exact True.intro
 all_goals clear hk k
 refine rt ?_
 first | (clear hp0e; simp [go_sem, *, Try.results62, mkB_2, twE]; done) | (clear hp0e; simp [go_sem, *, Try.results62, mkB_2, twE] <;> omega))
 ·intro hc; try simp at hc
  all_goals try (exfalso; first | contradiction | omega; done)
  all_goals (
 refine AW.skipN (fun _ h => h) ?_
 refine AW.reg tiOk (fun i => if i = 3 then [0] else if i = 5 then [0, 1] else []) [0,8] ?_
 intro k hk; simp -dsimp (maxSteps := 2000000) [go_sem, -decide_eq_true_eq, -decide_eq_false_iff_not, hs1, hs2, hs3, hwk1, hwk2, hwk3, htke, hp0e, htkE1, htkE2, hw1, hw2, htkE1b, htkE2b, hw1b, hw2b]
 repeat' first | apply And.intro | refine hk _ ?_ | intro hg | ((first | refine CallK.intro (dc_spec_l1Next c hcl a (by omega) 4 (by omega)) ?_ | refine CallK.intro (dc_spec_l1Next c hcl (a + 1) (by omega) 2 (by omega)) ?_ | refine CallK.intro (dc_spec_l1Next c hcl (a + 3) (by omega) 2 (by omega)) ?_ | refine CallK.intro (dc_spec_l1Pick _) ?_); simp -dsimp (maxSteps := 2000000) [go_sem, -decide_eq_true_eq, -decide_eq_false_iff_not, hs1, hs2, hs3, hwk1, hwk2, hwk3, htke, hp0e, htkE1, htkE2, hw1, hw2, htkE1b, htkE2b, hw1b, hw2b]) | omega | exact True.intro
 all_goals clear hk k
 refine rt ?_
 first | (clear hp0e; simp [go_sem, *, Try.results62, mkB_2, twE]; done) | (clear hp0e; simp [go_sem, *, Try.results62, mkB_2, twE] <;> omega)))
 ·intro hc; try simp at hc
  all_goals try (exfalso; first | contradiction | omega; done)
  all_goals (
 refine AW.skipN (fun _ h => h) ?_
 refine AW.reg tiOk (fun _ => [0]) [0,1,2,3,9] ?_
 intro k hk; simp -dsimp (maxSteps := 2000000) [go_sem, -decide_eq_true_eq, -decide_eq_false_iff_not, hs1, hs2, hs3, hwk1, hwk2, hwk3, htke, hp0e, htkE1, htkE2, hw1, hw2, htkE1b, htkE2b, hw1b, hw2b]
 repeat' first | apply And.intro | refine hk _ ?_ | intro hg | ((first | refine CallK.intro (dc_spec_l1Next c hcl a (by omega) 4 (by omega)) ?_ | refine CallK.intro (dc_spec_l1Next c hcl (a + 1) (by omega) 2 (by omega)) ?_ | refine CallK.intro (dc_spec_l1Next c hcl (a + 3) (by omega) 2 (by omega)) ?_); simp -dsimp (maxSteps := 2000000) [go_sem, -decide_eq_true_eq, -decide_eq_false_iff_not, hs1, hs2, hs3, hwk1, hwk2, hwk3, htke, hp0e, htkE1, htkE2, hw1, hw2, htkE1b, htkE2b, hw1b, hw2b]) | omega | exact True.intro
 all_goals clear hk k
 refine rg [0,1,2,3,9,10] ?_
 intro k hk; simp -dsimp [go_sem, -decide_eq_true_eq, -decide_eq_false_iff_not, hs1, hs2, hs3, hwk1, hwk2, hwk3, htke, hp0e, htkE1, htkE2, hw1, hw2, htkE1b, htkE2b, hw1b, hw2b]
 repeat' first | apply And.intro | refine hk _ ?_ | intro hg | omega | exact True.intro
 all_goals clear hk k
 refine AW.seq ?_
 refine rg [0,1,3,9,10,43] ?_
 intro k hk; simp -dsimp [go_sem, -decide_eq_true_eq, -decide_eq_false_iff_not, hs1, hs2, hs3, hwk1, hwk2, hwk3, htke, hp0e, htkE1, htkE2, hw1, hw2, htkE1b, htkE2b, hw1b, hw2b]
 repeat' first | apply And.intro | refine hk _ ?_ | intro hg | omega | exact True.intro
 all_goals clear hk k
 refine AW.cond rfl ?_ ?_
 ·intro hc; try simp at hc
  all_goals try (exfalso; first | contradiction | omega; done)
  all_goals (
 refine AW.reg tiOk (fun _ => [0]) [0,1,3,9,10] ?_
 intro k hk; simp -dsimp (maxSteps := 2000000) [go_sem, -decide_eq_true_eq, -decide_eq_false_iff_not, hs1, hs2, hs3, hwk1, hwk2, hwk3, htke, hp0e, htkE1, htkE2, hw1, hw2, htkE1b, htkE2b, hw1b, hw2b]
 repeat' first | apply And.intro | refine hk _ ?_ | intro hg | ((first | refine CallK.intro (dc_spec_l1Next c hcl a (by omega) 4 (by omega)) ?_ | refine CallK.intro (dc_spec_l1Next c hcl (a + 1) (by omega) 2 (by omega)) ?_ | refine CallK.intro (dc_spec_l1Next c hcl (a + 3) (by omega) 2 (by omega)) ?_); simp -dsimp (maxSteps := 2000000) [go_sem, -decide_eq_true_eq, -decide_eq_false_iff_not, hs1, hs2, hs3, hwk1, hwk2, hwk3, htke, hp0e, htkE1, htkE2, hw1, hw2, htkE1b, htkE2b, hw1b, hw2b]) | omega | exact True.intro
 all_goals clear hk k
 refine AW.reg tiOk (fun _ => [0]) [0,1,3,9,10,52] ?_
 intro k hk; simp +contextual -dsimp (maxSteps := 2000000) [go_sem, -decide_eq_true_eq, -decide_eq_false_iff_not, hs1, hs2, hs3, hwk1, hwk2, hwk3, htke, hp0e, htkE1, htkE2, hw1, hw2, htkE1b, htkE2b, hw1b, hw2b]
 repeat' first | apply And.intro | refine hk _ ?_ | (intro hg; try simp only [decide_eq_true_eq, decide_eq_false_iff_not] at hg) | (refine CallK.intro (dc_spec_l1Chance c hcl (a + 2) (by omega) 3 (by omega)) ?_; simp +contextual -dsimp (maxSteps := 2000000) [go_sem, -decide_eq_true_eq, -decide_eq_false_iff_not, hs1, hs2, hs3, hwk1, hwk2, hwk3, htke, hp0e, htkE1, htkE2, hw1, hw2, htkE1b, htkE2b, hw1b, hw2b]) | omega | exact True.intro
 all_goals clear hk k
 all_goals (
 refine AW.cond rfl ?_ ?_
 ·intro hc; try simp at hc
  all_goals try (exfalso; first | contradiction | omega; done)
  all_goals (
 refine AW.reg tiOk (fun _ => [0]) [0,1,3,9] ?_
 intro k hk; simp -dsimp (maxSteps := 2000000) [go_sem, -decide_eq_true_eq, -decide_eq_false_iff_not, hs1, hs2, hs3, hwk1, hwk2, hwk3, htke, hp0e, htkE1, htkE2, hw1, hw2, htkE1b, htkE2b, hw1b, hw2b]
 repeat' first | apply And.intro | refine hk _ ?_ | intro hg | ((first | refine CallK.intro (dc_spec_l1Next c hcl a (by omega) 4 (by omega)) ?_ | refine CallK.intro (dc_spec_l1Next c hcl (a + 1) (by omega) 2 (by omega)) ?_ | refine CallK.intro (dc_spec_l1Next c hcl (a + 3) (by omega) 2 (by omega)) ?_); simp -dsimp (maxSteps := 2000000) [go_sem, -decide_eq_true_eq, -decide_eq_false_iff_not, hs1, hs2, hs3, hwk1, hwk2, hwk3, htke, hp0e, htkE1, htkE2, hw1, hw2, htkE1b, htkE2b, hw1b, hw2b]) | omega | exact True.intro
 all_goals clear hk k
 refine rgN [0,1,3,9,10] (fun _ h => h) ?_
 intro k hk; simp -dsimp [go_sem, -decide_eq_true_eq, -decide_eq_false_iff_not, hs1, hs2, hs3, hwk1, hwk2, hwk3, htke, hp0e, htkE1, htkE2, hw1, hw2, htkE1b, htkE2b, hw1b, hw2b]
 repeat' first | apply And.intro | refine hk _ ?_ | intro hg | omega | exact True.intro
 all_goals clear hk k
 refine AW.reg tiOk (fun i => if i = 6 then [0, 1] else []) [0,1,3,9,10] ?_
 intro k hk; simp -dsimp (maxSteps := 2000000) [go_sem, -decide_eq_true_eq, -decide_eq_false_iff_not, hs1, hs2, hs3, hwk1, hwk2, hwk3, htke, hp0e, htkE1, htkE2, hw1, hw2, htkE1b, htkE2b, hw1b, hw2b]
 repeat' first | apply And.intro | refine hk _ ?_ | intro hg | ((first | refine CallK.intro (dc_spec_l1Max_p 1 (by omega)) ?_ | refine CallK.intro (hcA) ?_ | refine CallK.intro (hcAb) ?_); simp -dsimp (maxSteps := 2000000) [go_sem, -decide_eq_true_eq, -decide_eq_false_iff_not, hs1, hs2, hs3, hwk1, hwk2, hwk3, htke, hp0e, htkE1, htkE2, hw1, hw2, htkE1b, htkE2b, hw1b, hw2b]) | omega | exact True.intro
 all_goals clear hk k
 refine rg [0,1,3,9,10,11] ?_
 intro k hk; simp -dsimp [go_sem, -decide_eq_true_eq, -decide_eq_false_iff_not, hs1, hs2, hs3, hwk1, hwk2, hwk3, htke, hp0e, htkE1, htkE2, hw1, hw2, htkE1b, htkE2b, hw1b, hw2b]
 repeat' first | apply And.intro | refine hk _ ?_ | intro hg | omega | exact True.intro
 all_goals clear hk k
 refine AW.seq ?_
 refine rg [0,1,3,9,10,11,67] ?_
 intro k hk; simp -dsimp [go_sem, -decide_eq_true_eq, -decide_eq_false_iff_not, hs1, hs2, hs3, hwk1, hwk2, hwk3, htke, hp0e, htkE1, htkE2, hw1, hw2, htkE1b, htkE2b, hw1b, hw2b]
 repeat' first | apply And.intro | refine hk _ ?_ | intro hg | omega | exact True.intro
 all_goals clear hk k
 refine AW.cond rfl ?_ ?_
 ·intro hc; try simp at hc
  all_goals try (exfalso; first | contradiction | omega; done)
  all_goals (
 refine rg [0,8] ?_
 intro k hk; simp -dsimp (maxSteps := 2000000) [go_sem, -decide_eq_true_eq, -decide_eq_false_iff_not, hs1, hs2, hs3, hwk1, hwk2, hwk3, htke, hp0e, htkE1, htkE2, hw1, hw2, htkE1b, htkE2b, hw1b, hw2b]
 repeat' first | apply And.intro | refine hk _ ?_ | intro hg | omega | exact True.intro
 all_goals clear hk k
 refine rt ?_
 first | (clear hp0e; simp [go_sem, *, Try.results62, mkB_2, twE]; done) | (clear hp0e; simp [go_sem, *, Try.results62, mkB_2, twE] <;> omega))
 ·intro hc; try simp at hc
  all_goals try (exfalso; first | contradiction | omega; done)
  all_goals (
 refine AW.skipN (fun _ h => h) ?_
 refine AW.reg tiOk (fun i => if i = 6 then [0, 1] else []) [0,1,9,11] ?_
 intro k hk; simp -dsimp (maxSteps := 2000000) [go_sem, -decide_eq_true_eq, -decide_eq_false_iff_not, hs1, hs2, hs3, hwk1, hwk2, hwk3, htke, hp0e, htkE1, htkE2, hw1, hw2, htkE1b, htkE2b, hw1b, hw2b]
 repeat' first | apply And.intro | refine hk _ ?_ | intro hg | ((first | refine CallK.intro (dc_spec_l1Max_p 1 (by omega)) ?_ | refine CallK.intro (hcB) ?_ | refine CallK.intro (hcBb) ?_); simp -dsimp (maxSteps := 2000000) [go_sem, -decide_eq_true_eq, -decide_eq_false_iff_not, hs1, hs2, hs3, hwk1, hwk2, hwk3, htke, hp0e, htkE1, htkE2, hw1, hw2, htkE1b, htkE2b, hw1b, hw2b]) | omega | exact True.intro
 all_goals clear hk k
 refine rg [0,8] ?_
 intro k hk; simp -dsimp (maxSteps := 2000000) [go_sem, -decide_eq_true_eq, -decide_eq_false_iff_not, hs1, hs2, hs3, hwk1, hwk2, hwk3, htke, hp0e, htkE1, htkE2, hw1, hw2, htkE1b, htkE2b, hw1b, hw2b]
 repeat' first | apply And.intro | refine hk _ ?_ | intro hg | omega | exact True.intro
 all_goals clear hk k
 refine rt ?_
 first | (clear hp0e; simp [go_sem, *, Try.results62, mkB_2, twE]; done) | (clear hp0e; simp [go_sem, *, Try.results62, mkB_2, twE] <;> omega)))
 ·intro hc; try simp at hc
  all_goals try (exfalso; first | contradiction | omega; done)
  all_goals (
 refine AW.skipN (fun _ h => h) ?_
 refine AW.reg tiOk (fun i => if i = 6 then [0, 1] else []) [0,1,3,9,10] ?_
 intro k hk; simp -dsimp (maxSteps := 2000000) [go_sem, -decide_eq_true_eq, -decide_eq_false_iff_not, hs1, hs2, hs3, hwk1, hwk2, hwk3, htke, hp0e, htkE1, htkE2, hw1, hw2, htkE1b, htkE2b, hw1b, hw2b]
 repeat' first | apply And.intro | refine hk _ ?_ | intro hg | ((first | refine CallK.intro (dc_spec_l1Max_p 1 (by omega)) ?_ | refine CallK.intro (hcA) ?_ | refine CallK.intro (hcAb) ?_); simp -dsimp (maxSteps := 2000000) [go_sem, -decide_eq_true_eq, -decide_eq_false_iff_not, hs1, hs2, hs3, hwk1, hwk2, hwk3, htke, hp0e, htkE1, htkE2, hw1, hw2, htkE1b, htkE2b, hw1b, hw2b]) | omega | exact True.intro
 all_goals clear hk k
 refine rg [0,1,3,9,10,11] ?_
 intro k hk; simp -dsimp [go_sem, -decide_eq_true_eq, -decide_eq_false_iff_not, hs1, hs2, hs3, hwk1, hwk2, hwk3, htke, hp0e, htkE1, htkE2, hw1, hw2, htkE1b, htkE2b, hw1b, hw2b]
 repeat' first | apply And.intro | refine hk _ ?_ | intro hg | omega | exact True.intro
 all_goals clear hk k
 refine AW.seq ?_
 refine rg [0,1,3,9,10,11,67] ?_
 intro k hk; simp -dsimp [go_sem, -decide_eq_true_eq, -decide_eq_false_iff_not, hs1, hs2, hs3, hwk1, hwk2, hwk3, htke, hp0e, htkE1, htkE2, hw1, hw2, htkE1b, htkE2b, hw1b, hw2b]
 repeat' first | apply And.intro | refine hk _ ?_ | intro hg | omega | exact True.intro
 all_goals clear hk k
 refine AW.cond rfl ?_ ?_
 ·intro hc; try simp at hc
  all_goals try (exfalso; first | contradiction | omega; done)
  all_goals (
 refine rg [0,8] ?_
 intro k hk; simp -dsimp (maxSteps := 2000000) [go_sem, -decide_eq_true_eq, -decide_eq_false_iff_not, hs1, hs2, hs3, hwk1, hwk2, hwk3, htke, hp0e, htkE1, htkE2, hw1, hw2, htkE1b, htkE2b, hw1b, hw2b]
 repeat' first | apply And.intro | refine hk _ ?_ | intro hg | omega | exact True.intro
 all_goals clear hk k
 refine rt ?_
 first | (clear hp0e; simp [go_sem, *, Try.results62, mkB_2, twE]; done) | (clear hp0e; simp [go_sem, *, Try.results62, mkB_2, twE] <;> omega))
 ·intro hc; try simp at hc
  all_goals try (exfalso; first | contradiction | omega; done)
  all_goals (
 refine AW.skipN (fun _ h => h) ?_
 refine AW.reg tiOk (fun i => if i = 6 then [0, 1] else []) [0,1,9,11] ?_
 intro k hk; simp -dsimp (maxSteps := 2000000) [go_sem, -decide_eq_true_eq, -decide_eq_false_iff_not, hs1, hs2, hs3, hwk1, hwk2, hwk3, htke, hp0e, htkE1, htkE2, hw1, hw2, htkE1b, htkE2b, hw1b, hw2b]
 repeat' first | apply And.intro | refine hk _ ?_ | intro hg | ((first | refine CallK.intro (dc_spec_l1Max_p 1 (by omega)) ?_ | refine CallK.intro (hcB) ?_ | refine CallK.intro (hcBb) ?_); simp -dsimp (maxSteps := 2000000) [go_sem, -decide_eq_true_eq, -decide_eq_false_iff_not, hs1, hs2, hs3, hwk1, hwk2, hwk3, htke, hp0e, htkE1, htkE2, hw1, hw2, htkE1b, htkE2b, hw1b, hw2b]) | omega | exact True.intro
 all_goals clear hk k
 refine rg [0,8] ?_
 intro k hk; simp -dsimp (maxSteps := 2000000) [go_sem, -decide_eq_true_eq, -decide_eq_false_iff_not, hs1, hs2, hs3, hwk1, hwk2, hwk3, htke, hp0e, htkE1, htkE2, hw1, hw2, htkE1b, htkE2b, hw1b, hw2b]
 repeat' first | apply And.intro | refine hk _ ?_ | intro hg | omega | exact True.intro
 all_goals clear hk k
 refine rt ?_
 first | (clear hp0e; simp [go_sem, *, Try.results62, mkB_2, twE]; done) | (clear hp0e; simp [go_sem, *, Try.results62, mkB_2, twE] <;> omega)))))
 ·intro hc; try simp at hc
  all_goals try (exfalso; first | contradiction | omega; done)
  all_goals (
 refine AW.skipN (fun _ h => h) ?_
 refine AW.reg tiOk (fun i => if i = 6 then [0, 1] else []) [0,1,3,9,10] ?_
 intro k hk; simp -dsimp (maxSteps := 2000000) [go_sem, -decide_eq_true_eq, -decide_eq_false_iff_not, hs1, hs2, hs3, hwk1, hwk2, hwk3, htke, hp0e, htkE1, htkE2, hw1, hw2, htkE1b, htkE2b, hw1b, hw2b]
 repeat' first | apply And.intro | refine hk _ ?_ | intro hg | ((first | refine CallK.intro (dc_spec_l1Max_p 1 (by omega)) ?_ | refine CallK.intro (hcA) ?_ | refine CallK.intro (hcAb) ?_); simp -dsimp (maxSteps := 2000000) [go_sem, -decide_eq_true_eq, -decide_eq_false_iff_not, hs1, hs2, hs3, hwk1, hwk2, hwk3, htke, hp0e, htkE1, htkE2, hw1, hw2, htkE1b, htkE2b, hw1b, hw2b]) | omega | exact True.intro
 all_goals clear hk k
 refine rg [0,1,3,9,10,11] ?_
 intro k hk; simp -dsimp [go_sem, -decide_eq_true_eq, -decide_eq_false_iff_not, hs1, hs2, hs3, hwk1, hwk2, hwk3, htke, hp0e, htkE1, htkE2, hw1, hw2, htkE1b, htkE2b, hw1b, hw2b]
 repeat' first | apply And.intro | refine hk _ ?_ | intro hg | omega | exact True.intro
 all_goals clear hk k
 refine AW.seq ?_
 refine rg [0,1,3,9,10,11,67] ?_
 intro k hk; simp -dsimp [go_sem, -decide_eq_true_eq, -decide_eq_false_iff_not, hs1, hs2, hs3, hwk1, hwk2, hwk3, htke, hp0e, htkE1, htkE2, hw1, hw2, htkE1b, htkE2b, hw1b, hw2b]
 repeat' first | apply And.intro | refine hk _ ?_ | intro hg | omega | exact True.intro
 all_goals clear hk k
 refine AW.cond rfl ?_ ?_
 ·intro hc; try simp at hc
  all_goals try (exfalso; first | contradiction | omega; done)
  all_goals (
 refine rg [0,8] ?_
 intro k hk; simp -dsimp (maxSteps := 2000000) [go_sem, -decide_eq_true_eq, -decide_eq_false_iff_not, hs1, hs2, hs3, hwk1, hwk2, hwk3, htke, hp0e, htkE1, htkE2, hw1, hw2, htkE1b, htkE2b, hw1b, hw2b]
 repeat' first | apply And.intro | refine hk _ ?_ | intro hg | omega | exact True.intro
 all_goals clear hk k
 refine rt ?_
 first | (clear hp0e; simp [go_sem, *, Try.results62, mkB_2, twE]; done) | (clear hp0e; simp [go_sem, *, Try.results62, mkB_2, twE] <;> omega))
 ·intro hc; try simp at hc
  all_goals try (exfalso; first | contradiction | omega; done)
  all_goals (
 refine AW.skipN (fun _ h => h) ?_
 refine AW.reg tiOk (fun i => if i = 6 then [0, 1] else []) [0,1,9,11] ?_
 intro k hk; simp -dsimp (maxSteps := 2000000) [go_sem, -decide_eq_true_eq, -decide_eq_false_iff_not, hs1, hs2, hs3, hwk1, hwk2, hwk3, htke, hp0e, htkE1, htkE2, hw1, hw2, htkE1b, htkE2b, hw1b, hw2b]
 repeat' first | apply And.intro | refine hk _ ?_ | intro hg | ((first | refine CallK.intro (dc_spec_l1Max_p 1 (by omega)) ?_ | refine CallK.intro (hcB) ?_ | refine CallK.intro (hcBb) ?_); simp -dsimp (maxSteps := 2000000) [go_sem, -decide_eq_true_eq, -decide_eq_false_iff_not, hs1, hs2, hs3, hwk1, hwk2, hwk3, htke, hp0e, htkE1, htkE2, hw1, hw2, htkE1b, htkE2b, hw1b, hw2b]) | omega | exact True.intro
 all_goals clear hk k
 refine rg [0,8] ?_
 intro k hk; simp -dsimp (maxSteps := 2000000) [go_sem, -decide_eq_true_eq, -decide_eq_false_iff_not, hs1, hs2, hs3, hwk1, hwk2, hwk3, htke, hp0e, htkE1, htkE2, hw1, hw2, htkE1b, htkE2b, hw1b, hw2b]
 repeat' first | apply And.intro | refine hk _ ?_ | intro hg | omega | exact True.intro
 all_goals clear hk k
 refine rt ?_
 first | (clear hp0e; simp [go_sem, *, Try.results62, mkB_2, twE]; done) | (clear hp0e; simp [go_sem, *, Try.results62, mkB_2, twE] <;> omega))))))
end Go.AM
namespace Go.AM
def labFz (lab : Labs) (id : Nat) : Labs := fun b => match lab b with
 | some (.obj k, p) => if k = id then none else some (.obj k, p)
 | l => l
theorem labFz_hit {lab : Labs} {id b : Nat} {q : List (Nat × Nat)} (h : lab b = some (.obj id, q)) : labFz lab id b = none := by simp [labFz, h]
theorem labFz_none {lab : Labs} {id b : Nat} (h : lab b = none) : labFz lab id b = none := by simp [labFz, h]
theorem labFz_other {lab : Labs} {id k b : Nat} {q : List (Nat × Nat)} (h : lab b = some (.obj k, q)) (hk : k ≠ id) : labFz lab id b = some (.obj k, q) := by simp [labFz, h, hk]
theorem labFz_still {lab : Labs} {id b : Nat} (h : still (lab b)) : labFz lab id b = lab b := by
 unfold labFz
 split
 ·rename_i h2; rw [h2] at h; exact h.elim
 ·rfl
theorem labFz_live {lab : Labs} {id b : Nat} (h : labFz lab id b ≠ none) : lab b ≠ none := by
 intro e; exact h (labFz_none e)
section
variable {P : Program} {st : St} {K : Exit → St → Prop}
theorem RepL.freeze {w0 : World} {lab0 : Labs} {a : Act} {w : World} {lab : Labs} {loc : Locs} {s id es i len : Nat} {nd : Node} (hR : RepL w0 lab0 st a w lab loc) (h1 : st.obj id = some nd) (h2 : st.slot s = some (.sl id es i len))
  (hes : nd.es = es) (hb : i + len ≤ nd.l.length) (ht : ∀ c ∈ nd.l, ∀ x ∈ c, AV.tree x = true) :
  RepL w0 lab0 ⟨st.n, (s, .isl es (((nd.l.drop i).take len).map (·.map unown))) :: st.slots, (id, none) :: st.objs⟩ a w (labFz lab id) (fun k => if k = id then none else loc k) := by
 have hloc : ∀ k b base, (fun k => if k = id then none else loc k) k = some (b, base) → loc k = some (b, base) := by
  intro k b base h
  simp only at h
  split at h
  ·cases h
  ·exact h
 have hV : ∀ x v, V w lab loc x v → V w (labFz lab id) (fun k => if k = id then none else loc k) x v := fun x v hv =>
  hv.mono (fun b _ h => ⟨labFz_none h, rfl⟩) (Nat.le_refl _) fun k _ b base h => ⟨hloc k b base h, fun _ h => h⟩
 refine ⟨hR.size, hR.defers, ?_, ?_, ?_, fun b h => hR.fresh b (labFz_live h), ?_⟩
 ·intro s' x hx
  simp only [St.slot, look] at hx
  split at hx
  ·rename_i e; subst e
   cases hx
   obtain ⟨b, base, hl, ho⟩ := hR.objs id nd h1
   obtain ⟨c, cap, hv, k1, k2, k3⟩ := (hR.slots _ _ h2).inv_sl hl
   refine .imm _ _ ?_
   rw [hv]
   have hll : ((nd.l.drop i).take len).length = len := by simp; omega
   by_cases hz : len = 0
   ·subst hz
    simp only [List.take_zero, List.map_nil]
    exact .esl _ _ _
   have hc : c = ⟨b, base + i * es, none⟩ := by rcases k2 with h | h; omega; exact h
   subst hc
   have hres := I.isl (w := w) (lab := labFz lab id) es (((nd.l.drop i).take len).map (·.map unown)) b (base + i * es) cap
    (fun i' j => (w.cell? ⟨b, base + i * es + i' * es + j, none⟩).getD undef) (labFz_hit ho.hlab) ho.blk.lt (by rw [List.length_map, hll]; exact k1)
    (by
     intro c hc
     obtain ⟨c', hc', rfl⟩ := List.mem_map.1 hc
     rw [List.length_map, ← hes]
     exact ho.es c' (List.mem_of_mem_drop (List.mem_of_mem_take hc')))
    (by
     intro c hc x hx
     obtain ⟨c', hc', rfl⟩ := List.mem_map.1 hc
     obtain ⟨y, hy, rfl⟩ := List.mem_map.1 hx
     exact unown_plain (ht c' (List.mem_of_mem_drop (List.mem_of_mem_take hc')) y hy))
    ?_ ?_
   ·rw [List.length_map, hll] at hres; exact hres
   ·intro i' j hi hj
    rw [List.length_map, hll] at hi
    have hi2 : i + i' < nd.l.length := by omega
    have hc : nd.l[i + i']? = some nd.l[i + i'] := List.getElem?_eq_getElem hi2
    have hcl := ho.es _ (List.mem_of_getElem? hc)
    obtain ⟨v, hv, _⟩ := ho.cells (i + i') _ j _ hc (List.getElem?_eq_getElem (by omega))
    rw [hes, Nat.add_mul, ← Nat.add_assoc] at hv
    rw [hv]; rfl
   ·intro i' c j x hi hj
    simp only [List.getElem?_map, Option.map_eq_some_iff] at hi
    obtain ⟨c', hc', rfl⟩ := hi
    simp only [List.getElem?_map, Option.map_eq_some_iff] at hj
    obtain ⟨y, hy, rfl⟩ := hj
    have hc2 : nd.l[i + i']? = some c' := by
     rw [List.getElem?_take] at hc'
     split at hc'
     ·rwa [List.getElem?_drop] at hc'
     ·cases hc'
    obtain ⟨v, hv, hcv⟩ := ho.cells (i + i') c' j y hc2 hy
    rw [hes, Nat.add_mul, ← Nat.add_assoc] at hv
    simp only [hv, Option.getD_some]
    refine (Cell.tree hcv (ht c' (List.mem_of_getElem? hc2) y (List.mem_of_getElem? hy))).unown (fun b h => labFz_none h) ?_
    intro b' q hq
    exact labFz_hit (by rw [hq]; rfl)
  ·exact hV _ _ (hR.slots s' x hx)
 ·intro k nk hk
  simp only [St.obj, look] at hk
  split at hk
  ·simp at hk
  ·rename_i hne
   have hne' : k ≠ id := fun e => hne e
   obtain ⟨b, base, hl, ho⟩ := hR.objs k nk hk
   refine ⟨b, base, by rw [if_neg hne']; exact hl, labFz_other ho.hlab hne', ho.blk, ho.es, ?_⟩
   intro i2 c2 j2 z hi hj
   obtain ⟨v, hv, hcv⟩ := ho.cells i2 c2 j2 z hi hj
   refine ⟨v, hv, hcv.imp (hV _ _) fun hT => hT.move (fun b _ h => ⟨labFz_none h, rfl⟩) ?_ (Nat.le_refl _)⟩
   intro b' q _ hq
   exact ⟨by rw [labFz_other (k := k) (q := (Lab.app (.obj k, [(i2, j2)]) q).2) (by rw [hq]; rfl) hne']; rfl, rfl⟩
 ·intro k hk
  simp only [St.obj, look] at hk
  split at hk
  ·rename_i e; simp [e]
  ·have := hR.dead k hk
   split
   ·rfl
   ·exact this
 ·have e := hR.ext
  refine ⟨e.size, e.os, e.out, ?_, e.blk⟩
  intro b hb hs
  obtain ⟨k1, k2⟩ := e.kept b hb hs
  exact ⟨by rw [labFz_still (by rw [k1]; exact hs), k1], k2⟩
theorem AW.freeze {code : Code} (s id : Nat) {es i len : Nat} {nd : Node} {l' : List (List AV)} (h1 : st.obj id = some nd) (h2 : st.slot s = some (.sl id es i len)) (hes : nd.es = es) (hb : i + len ≤ nd.l.length) (ht : ∀ c ∈ nd.l, ∀ x ∈ c, AV.tree x = true)
  (hl : ((nd.l.drop i).take len).map (·.map unown) = l')
  (h : AW P code ⟨st.n, (s, .isl es l') :: st.slots, (id, none) :: st.objs⟩ K) : AW P code st K := by
 subst hl
 exact AW.ghost (fun _ _ _ _ ⟨_, _, hR⟩ => ⟨_, _, hR.freeze h1 h2 hes hb ht⟩) h
end
end Go.AM
namespace Go.AM
section
variable {P : Program} {st : St} {K : Exit → St → Prop}
end
end Go.AM
namespace Go.AM
def Gh (s : St) (Q : St → Prop) : Prop := ∃ s', (∀ w0 lab0 a w, Rep w0 lab0 s a w → Rep w0 lab0 s' a w) ∧ Q s'
theorem Gh.done {s : St} {Q : St → Prop} (h : Q s) : Gh s Q := ⟨s, fun _ _ _ _ h => h, h⟩
theorem Gh.ghost {s s' : St} {Q : St → Prop} (hr : ∀ w0 lab0 a w, Rep w0 lab0 s a w → Rep w0 lab0 s' a w) (h : Gh s' Q) : Gh s Q := by
 obtain ⟨s2, h1, h2⟩ := h
 exact ⟨s2, fun w0 lab0 a w h => h1 w0 lab0 a w (hr w0 lab0 a w h), h2⟩
theorem Gh.fold {st : St} {Q : St → Prop} (id i j id' : Nat) {es n : Nat} {nd : Node} {c : List AV} {l : List (List AV)} (h1 : st.obj id = some nd) (h2 : nd.l[i]? = some c)
  (h4 : st.obj id' = some ⟨es, l⟩) (h3 : c[j]? = some (.sl id' es 0 n)) (hn : n = l.length) (h5 : id ≠ id') (h6 : ∀ c ∈ l, ∀ x ∈ c, AV.tree x = true)
  (h : Gh ⟨st.n, st.slots, (id', none) :: (id, some ⟨nd.es, nd.l.set i (c.set j (.osl es l))⟩) :: st.objs⟩ Q) : Gh st Q :=
 Gh.ghost (fun _ _ _ _ hR => hR.fold h1 h2 (by rw [h3, hn]) h4 h5 h6) h
theorem AW.ghostK {P : Program} {c : Code} {st : St} {A : Exit → Prop} {Q : St → Prop} (h : AW P c st fun e s => A e ∧ Gh s Q) : AW P c st fun e s => A e ∧ Q s := by
 refine ⟨fun w0 lab0 a w hR => wp_mono (h.go w0 lab0 a w hR) ?_⟩
 rintro e a' w' ⟨⟨s, ⟨h1, s2, h2, h3⟩, h4⟩, h5⟩
 exact ⟨⟨s2, ⟨h1, h3⟩, h2 _ _ _ _ h4⟩, h5⟩
theorem DC.introG {P : Program} {ti : TI} (hT : TOk P ti) {f : FuncId} {fn : Func} {c : Code} {args xs0 : List AV} {po : PlanO} {res : AV} {muts : List (Nat × AV)} (hfn : P.funcs[f]? = some fn) (hb : fn.body = some c) (hname : (fn.name == "runtime.NumGoroutine") = false)
  {rs : List ResultVar} (hrs : fn.results.toList = rs) {n : Nat} (hn' : fn.ntmps = n) (hn : (decide (args.length ≤ n)) = true) (h0 : argsIn 0 args = some (xs0, po)) (hc : (apart po && decide (po.map (·.2.1)).Nodup && po.all (fun e => !decide (e.1.1 = .tmp))) = true)
  (hm : (muts.all fun q => noW q.1 c && decide (q.1 < 900) && decide (q.1 < args.length)) = true) (ow : List Nat)
  (h : AW P c ⟨n, enumFrom 0 xs0, po.map fun e => (e.2.1, some e.2.2)⟩ fun e s => (e = .normal ∨ e = .ret) ∧ Gh s fun s => (muts.all fun q => match s.slot q.1 with | some x => !isFn x | none => true) = true ∧ finOk ti rs ow muts s res) : DC P f args res muts :=
 DC.intro hT hfn hb hname hrs hn' hn h0 hc hm ow (AW.ghostK h)
end Go.AM
namespace Go.AM
section
variable {P : Program} {st : St} {K : Exit → St → Prop}
end
end Go.AM
namespace Go.AM
structure VF where
 src : Int
 to : Int
 v : Value
def VF.row (x : VF) : List AV := [.int .i64 x.src, .int .i64 x.to, .val x.v]
@[go_sem] theorem VF_row_eq (x : VF) : x.row = [.int .i64 x.src, .int .i64 x.to, .val x.v] := rfl
theorem VF_row_un (x : VF) : x.row.map unown = x.row := by simp [VF.row, go_sem, unown]
@[go_sem high] theorem VF_row_unL (l : List _) : unownLL (l.map VF.row) = l.map VF.row := unownLL_map VF_row_un l
@[go_sem high] theorem VF_row_unM (l : List _) : (l.map VF.row).map (List.map unown) = l.map VF.row := mapun VF_row_un l
@[go_sem] theorem VF_row_ids (x) : idsL (VF.row x) = [] := by simp [VF.row, go_sem, AV.ids]
@[go_sem high] theorem VF_row_idsL (l : List _) : (l.map VF.row).flatMap idsL = [] := flatids VF_row_ids l
theorem VF_row_tree (a) : ∀ x ∈ VF.row a, x.tree = true := by simp [VF.row, go_sem]
@[go_sem high] theorem VF_row_treeL (l : List _) : (∀ c ∈ l.map VF.row, ∀ x ∈ c, AV.tree x = true) ↔ True := maptree VF_row_tree l
def labOpT (lab : Labs) : Labs := fun b => match lab b with
 | some (.arg 0, _ :: _) => some (.tmp, [])
 | l => l
theorem labOpT_none {lab : Labs} {b : Nat} (h : lab b = none) : labOpT lab b = none := by simp [labOpT, h]
theorem labOpT_in {lab : Labs} {b : Nat} {p : Nat × Nat} {q : List (Nat × Nat)} (h : lab b = some (.arg 0, p :: q)) : labOpT lab b = some (.tmp, []) := by simp [labOpT, h]
theorem labOpT_out {lab : Labs} {b : Nat} (h : ∀ p q, lab b ≠ some (.arg 0, p :: q)) : labOpT lab b = lab b := by
 unfold labOpT
 split
 ·rename_i p q e; exact absurd e (h p q)
 ·rfl
def labOpB (lab lab' : Labs) (g : Nat → Nat) (n : Nat) : Labs := fun b => if b < n then (match lab b with
 | some (.arg 0, (i, j) :: q) => some (.arg 0, (g i, j) :: q)
 | _ => lab' b) else lab' b
theorem labOpB_in {lab lab' : Labs} {g : Nat → Nat} {n b i j : Nat} {q : List (Nat × Nat)} (hb : b < n) (h : lab b = some (.arg 0, (i, j) :: q)) : labOpB lab lab' g n b = some (.arg 0, (g i, j) :: q) := by simp [labOpB, h, hb]
theorem labOpB_out {lab lab' : Labs} {g : Nat → Nat} {n b : Nat} (h : ∀ p q, lab b ≠ some (.arg 0, p :: q)) : labOpB lab lab' g n b = lab' b := by
 unfold labOpB
 split
 ·split
  ·rename_i i j q e; exact absurd e (h _ _)
  ·rfl
 ·rfl
theorem labOpB_ge {lab lab' : Labs} {g : Nat → Nat} {n b : Nat} (h : ¬ b < n) : labOpB lab lab' g n b = lab' b := by simp [labOpB, h]
theorem DC.unseen {P : Program} {f : FuncId} {rest : List AV} {α : Type} (fr ft : α → Int) (fc : α → AV) (hfc : ∀ x, (fc x).tree = true) (l : List α) (σ : List Nat) (hσ : σ.Nodup) (hσl : ∀ i ∈ σ, i < l.length)
  (hv : ∀ x w lab p v, T w lab p (fc x) v → ∃ a n cap, v = .slice a n cap)
  (h : ∀ vs : List Value, vs.length = l.length → (∀ v ∈ vs, ∃ a n cap, v = .slice a n cap) →
   DC P f (.osl 3 ((List.range l.length).map fun i => [.int .i64 ((l.map fr).getD i 0), .int .i64 ((l.map ft).getD i 0), .val (vs.getD i default)]) :: rest) (.tup [])
    [(0, .osl 3 (σ.map fun i => [.int .i64 ((l.map fr).getD i 0), .int .i64 ((l.map ft).getD i 0), .val (vs.getD i default)]))]) :
  DC P f (.osl 3 (l.map fun x => [.int .i64 (fr x), .int .i64 (ft x), fc x]) :: rest) (.tup []) [(0, .osl 3 (σ.map fun i => [.int .i64 ((l.map fr).getD i 0), .int .i64 ((l.map ft).getD i 0), (l.map fc).getD i .nils]))] := by
 have hb := (h (List.replicate l.length (.slice none 0 0)) (by simp) (by intro v hv; rw [(List.mem_replicate.1 hv).2]; exact ⟨_, _, _, rfl⟩)).body
 refine ⟨hb, ?_⟩
 intro w lab vals hl hvs hfr
 obtain ⟨v0, vr, rfl⟩ : ∃ v0 vr, vals = v0 :: vr := by
  cases vals with
  | nil => simp at hl
  | cons a b => exact ⟨a, b, rfl⟩
 have h0 := hvs 0 _ _ rfl rfl
 obtain ⟨b, off, cap, cv, hb0, hk0, hc0, hcv, hr0, hv0⟩ : ∃ b off cap, ∃ cv : Nat → Nat → Value, lab b = some (.arg 0, []) ∧ Blk w b (off + cap * 3) ∧ l.length ≤ cap ∧ (∀ i j, i < l.length → j < 3 → w.cell? ⟨b, off + i * 3 + j, none⟩ = some (cv i j)) ∧
   (∀ i j x, i < l.length → (l.map fun x => [AV.int .i64 (fr x), .int .i64 (ft x), fc x])[i]?.bind (·[j]?) = some x → T w lab (.arg 0, [(i, j)]) x (cv i j)) ∧ v0 = .slice (some ⟨b, off, none⟩) l.length cap := by
  generalize hL : (l.map fun x => [AV.int .i64 (fr x), .int .i64 (ft x), fc x]) = L at h0
  have hLl : L.length = l.length := by rw [← hL, List.length_map]
  cases h0 with
  | imm _ _ _ hI => cases hI
  | osl _ _ _ b off cap cv hb hk hc hes hp hv hr =>
   refine ⟨b, off, cap, cv, hb, hk, by omega, fun i j hi hj => hv i j (by omega) hj, ?_, by rw [hLl]⟩
   intro i j x hi hx
   cases hc : L[i]? with
   | none => rw [hc] at hx; cases hx
   | some c => rw [hc] at hx; exact hr i c j x hc hx
 let vs : List Value := (List.range l.length).map fun i => cv i 2
 have hvsl : vs.length = l.length := by simp [vs]
 have hvsg : ∀ i, i < l.length → vs.getD i default = cv i 2 := by
  intro i hi
  simp [vs, List.getD_eq_getElem?_getD, List.getElem?_range hi]
 have hfcT : ∀ i (hi : i < l.length), T w lab (.arg 0, [(i, 2)]) (fc l[i]) (cv i 2) := by
  intro i hi
  exact hr0 i 2 _ hi (by simp [List.getElem?_eq_getElem hi])
 have hsl : ∀ i, i < l.length → ∃ a n cap, cv i 2 = .slice a n cap := fun i hi => hv _ _ _ _ _ (hfcT i hi)
 have hD := h vs hvsl (by
  intro v hv
  simp only [vs, List.mem_map, List.mem_range] at hv
  obtain ⟨i, hi, rfl⟩ := hv
  exact hsl i hi)
 have hdown : ∀ b p q, lab b = some (.arg 0, p :: q) → b < w.heap.size := fun b p q e => hfr b (by rw [e]; simp)
 have hcall := hD.calls w (labOpT lab) (v0 :: vr) (by simpa using hl) (by
  intro k x v hx hvv
  cases k with
  | zero =>
   simp only [List.getElem?_cons_zero, Option.some.injEq] at hx hvv
   subst hx; subst hvv
   have e := T.osl (w := w) (lab := labOpT lab) (.arg 0, []) 3 ((List.range l.length).map fun i => [.int .i64 ((l.map fr).getD i 0), .int .i64 ((l.map ft).getD i 0), .val (vs.getD i default)]) b off cap cv
    (by rw [labOpT_out (by intro p q e; rw [hb0] at e; cases e), hb0]) hk0 (by simpa using hc0)
    (by intro c hc; obtain ⟨i, _, rfl⟩ := List.mem_map.1 hc; rfl) (by intro c hc x hx; obtain ⟨i, _, rfl⟩ := List.mem_map.1 hc; simp at hx; rcases hx with rfl | rfl | rfl <;> rfl)
    (by intro i j hi hj; exact hcv i j (by simpa using hi) hj)
    (by
     intro i c j x hi hj
     rw [List.getElem?_map] at hi
     have hil : i < l.length := by
      rcases Nat.lt_or_ge i l.length with h | h
      ·exact h
      ·rw [List.getElem?_eq_none (by simpa using h)] at hi; cases hi
     rw [List.getElem?_range hil] at hi
     cases hi
     have g : ∀ {β : Type} (g : α → β) (d : β), (l.map g).getD i d = g l[i] := by intro β g d; simp [List.getD_eq_getElem?_getD, List.getElem?_eq_getElem hil]
     have old := fun j x h => hr0 i j x hil h
     match j with
     | 0 =>
      cases hj
      have := old 0 (.int .i64 (fr l[i])) (by simp [List.getElem?_eq_getElem hil])
      rw [g]
      generalize cv i 0 = u at this ⊢
      cases this with
      | imm _ _ _ hI => cases hI; exact .imm _ _ _ (.int _ _)
     | 1 =>
      cases hj
      have := old 1 (.int .i64 (ft l[i])) (by simp [List.getElem?_eq_getElem hil])
      rw [g]
      generalize cv i 1 = u at this ⊢
      cases this with
      | imm _ _ _ hI => cases hI; exact .imm _ _ _ (.int _ _)
     | 2 =>
      cases hj
      rw [hvsg i hil]
      obtain ⟨a, n, cp, e⟩ := hsl i hil
      rw [e]
      exact .imm _ _ _ (.val _ _ _)
     | j + 3 => simp at hj)
   rw [hv0]
   simp only [List.length_map, List.length_range] at e
   exact e
  | succ k =>
   have := hvs (k + 1) x v (by simpa using hx) (by simpa using hvv)
   refine this.move (fun b _ h => ⟨labOpT_none h, rfl⟩) ?_ (Nat.le_refl _)
   intro b q _ e
   refine ⟨?_, rfl⟩
   rw [labOpT_out (by intro p q2 e2; rw [e2] at e; simp [Lab.app] at e), e])
  (by
   intro b hb
   apply hfr
   intro e; exact hb (labOpT_none e))
 refine hcall.mono fun e w' he => ?_
 obtain ⟨v, lab1, rfl, hT, hm, hE, hfr1⟩ := he
 let g : Nat → Nat := fun i => σ.idxOf i
 have hkept : ∀ b p q, lab b = some (.arg 0, p :: q) → lab1 b = some (.tmp, []) ∧ w'.heap[b]? = w.heap[b]? := by
  intro b p q e
  have := hE.kept b (hdown b p q e) (by rw [labOpT_in e]; trivial)
  rw [labOpT_in e] at this; exact this
 have hout : ∀ b, lab1 b ≠ some (.tmp, []) → ∀ p q, lab b ≠ some (.arg 0, p :: q) := by
  intro b hb p q e; exact hb (hkept b p q e).1
 have hnone : ∀ b, b < w.heap.size → lab b = none → labOpB lab lab1 g w.heap.size b = none ∧ w'.heap[b]? = w.heap[b]? := by
  intro b hb e
  have := hE.kept b hb (by rw [labOpT_none e]; trivial)
  refine ⟨?_, this.2⟩
  rw [labOpB_out (by intro p q e2; rw [e] at e2; cases e2), this.1, labOpT_none e]
 refine ⟨v, labOpB lab lab1 g w.heap.size, rfl, ?_, ?_, ?_, ?_⟩
 ·cases hT with
  | imm _ _ _ hI => cases hI with
   | tup _ vs hlen hx => exact .imm _ _ _ (.tup [] vs hlen (by intro j x y hx; simp at hx))
  | tup _ _ vs hlen hx => exact .tup _ [] vs hlen (by intro j x y hx; simp at hx)
 ·intro p hp v hv
  simp only [List.mem_singleton] at hp
  subst hp
  simp only [List.getElem?_cons_zero, Option.some.injEq] at hv
  subst hv
  have h1 := hm _ (List.mem_singleton.2 rfl) v0 rfl
  simp only at h1
  generalize hL : (σ.map fun i => [AV.int .i64 ((l.map fr).getD i 0), .int .i64 ((l.map ft).getD i 0), .val (vs.getD i default)]) = L at h1
  have hLl : L.length = σ.length := by rw [← hL, List.length_map]
  have hLi : ∀ i (hi : i < σ.length), L[i]? = some [AV.int .i64 ((l.map fr).getD σ[i] 0), .int .i64 ((l.map ft).getD σ[i] 0), .val (vs.getD σ[i] default)] := by
   intro i hi; rw [← hL, List.getElem?_map, List.getElem?_eq_getElem hi]; rfl
  generalize hv0' : v0 = v0' at h1
  cases h1 with
  | imm _ _ _ hI => cases hI
  | osl _ _ _ b' off' cap' cv' hb' hk' hc' hes' hp' hv' hr' =>
   have e := T.osl (w := w') (lab := labOpB lab lab1 g w.heap.size) (.arg 0, []) 3 (σ.map fun i => [.int .i64 ((l.map fr).getD i 0), .int .i64 ((l.map ft).getD i 0), (l.map fc).getD i .nils]) b' off' cap' cv'
    (by rw [labOpB_out (hout b' (by rw [hb']; simp)), hb']) hk' (by rw [List.length_map]; omega)
    (by intro c hc; obtain ⟨i, _, rfl⟩ := List.mem_map.1 hc; rfl)
    (by
     intro c hc x hx
     obtain ⟨i, hi, rfl⟩ := List.mem_map.1 hc
     have hil := hσl i hi
     simp at hx
     rcases hx with rfl | rfl | rfl
     ·rfl
     ·rfl
     ·simp [List.getElem?_eq_getElem hil, hfc])
    (by intro i j hi hj; exact hv' i j (by rw [hLl]; simpa using hi) hj)
    (by
     intro i c j x hi hj
     have hil : i < σ.length := by
      rcases Nat.lt_or_ge i σ.length with h | h
      ·exact h
      ·rw [List.getElem?_eq_none (by simpa using h)] at hi; cases hi
     rw [List.getElem?_map, List.getElem?_eq_getElem hil] at hi
     cases hi
     have hsi := hσl _ (List.getElem_mem hil)
     match j with
     | 0 =>
      cases hj
      have := hr' i _ 0 _ (hLi i hil) rfl
      generalize cv' i 0 = u at this ⊢
      cases this with
      | imm _ _ _ hI => cases hI; exact .imm _ _ _ (.int _ _)
     | 1 =>
      cases hj
      have := hr' i _ 1 _ (hLi i hil) rfl
      generalize cv' i 1 = u at this ⊢
      cases this with
      | imm _ _ _ hI => cases hI; exact .imm _ _ _ (.int _ _)
     | 2 =>
      cases hj
      have h2 := hr' i _ 2 _ (hLi i hil) rfl
      rw [hvsg _ hsi] at h2
      have h3 : cv' i 2 = cv σ[i] 2 := by
       generalize cv' i 2 = u at h2
       generalize cv σ[i] 2 = u2 at h2
       cases h2 with
       | imm _ _ _ hI => cases hI; rfl
      rw [h3]
      have h4 := hfcT _ hsi
      have e5 : (l.map fc).getD σ[i] .nils = fc l[σ[i]] := by simp [List.getD_eq_getElem?_getD, List.getElem?_eq_getElem hsi]
      rw [e5]
      refine h4.move hnone ?_ hE.size
      intro b2 q hb2 e2
      have e3 : lab b2 = some (.arg 0, (σ[i], 2) :: q) := by rw [e2]; rfl
      refine ⟨?_, (hkept b2 _ q e3).2⟩
      rw [labOpB_in hb2 e3]
      have : g σ[i] = i := hσ.idxOf_getElem i hil
      rw [this]; rfl
     | j + 3 => simp at hj)
   rw [hLl]
   simpa using e
 ·refine ⟨hE.size, hE.os, hE.out, ?_, hE.blk⟩
  intro b2 hb2 hst
  have hno : ∀ p q, lab b2 ≠ some (.arg 0, p :: q) := by intro p q e; rw [e] at hst; exact hst
  have := hE.kept b2 hb2 (by rw [labOpT_out hno]; exact hst)
  exact ⟨by rw [labOpB_out hno, this.1, labOpT_out hno], this.2⟩
 ·intro b2 hb2
  by_cases hin : b2 < w.heap.size
  ·exact Nat.lt_of_lt_of_le hin hE.size
  ·rw [labOpB_ge hin] at hb2; exact hfr1 b2 hb2
end Go.AM
namespace Go.AM
def labP (lab : Labs) : Labs := fun b => match lab b with
 | some (.arg 0, (0, 1) :: _ :: _) => some (.tmp, [])
 | l => l
theorem labP_none {lab : Labs} {b : Nat} (h : lab b = none) : labP lab b = none := by simp [labP, h]
theorem labP_in {lab : Labs} {b : Nat} {p : Nat × Nat} {q : List (Nat × Nat)} (h : lab b = some (.arg 0, (0, 1) :: p :: q)) : labP lab b = some (.tmp, []) := by simp [labP, h]
theorem labP_out {lab : Labs} {b : Nat} (h : ∀ p q, lab b ≠ some (.arg 0, (0, 1) :: p :: q)) : labP lab b = lab b := by
 unfold labP
 split
 ·rename_i p q e; exact absurd e (h p q)
 ·rfl
def labQ (lab lab' : Labs) (g : Nat → Nat) (n : Nat) : Labs := fun b => if b < n then (match lab b with
 | some (.arg 0, (0, 1) :: (i, j) :: q) => some (.arg 0, (0, 1) :: (g i, j) :: q)
 | _ => lab' b) else lab' b
theorem labQ_in {lab lab' : Labs} {g : Nat → Nat} {n b i j : Nat} {q : List (Nat × Nat)} (hb : b < n) (h : lab b = some (.arg 0, (0, 1) :: (i, j) :: q)) : labQ lab lab' g n b = some (.arg 0, (0, 1) :: (g i, j) :: q) := by simp [labQ, h, hb]
theorem labQ_out {lab lab' : Labs} {g : Nat → Nat} {n b : Nat} (h : ∀ p q, lab b ≠ some (.arg 0, (0, 1) :: p :: q)) : labQ lab lab' g n b = lab' b := by
 unfold labQ
 split
 ·split
  ·rename_i i j q e; exact absurd e (h _ _)
  ·rfl
 ·rfl
theorem labQ_ge {lab lab' : Labs} {g : Nat → Nat} {n b : Nat} (h : ¬ b < n) : labQ lab lab' g n b = lab' b := by simp [labQ, h]
theorem T.inv_osl {w : World} {lab : Labs} {p : Lab} {l : List (List AV)} {v : Value} (h : T w lab p (.osl 3 l) v) :
  ∃ b off cap, ∃ cv : Nat → Nat → Value, lab b = some p ∧ Blk w b (off + cap * 3) ∧ l.length ≤ cap ∧ (∀ i j, i < l.length → j < 3 → w.cell? ⟨b, off + i * 3 + j, none⟩ = some (cv i j)) ∧
   (∀ (i : Nat) c (j : Nat) x, l[i]? = some c → c[j]? = some x → T w lab (p.down i j) x (cv i j)) ∧ v = .slice (some ⟨b, off, none⟩) l.length cap := by
 cases h with
 | imm _ _ _ hI => cases hI
 | osl _ _ _ b off cap cv hb hk hc hes hp hv hr => exact ⟨b, off, cap, cv, hb, hk, hc, hv, hr, rfl⟩
theorem T.inv_op {w : World} {lab : Labs} {p : Lab} {l : List AV} {v : Value} (h : T w lab p (.op l) v) :
  ∃ b off, ∃ cv : Nat → Value, lab b = some p ∧ Blk w b (off + l.length) ∧ (∀ j, j < l.length → w.cell? ⟨b, off + j, none⟩ = some (cv j)) ∧ (∀ (j : Nat) x, l[j]? = some x → T w lab (p.down 0 j) x (cv j)) ∧ v = .pointer (some ⟨b, off, none⟩) := by
 cases h with
 | imm _ _ _ hI => cases hI
 | op _ _ b off cv hb hk hp hv hr => exact ⟨b, off, cv, hb, hk, hv, hr, rfl⟩
theorem T.inv_int {w : World} {lab : Labs} {p : Lab} {k : IntKind} {n : Int} {v : Value} (h : T w lab p (.int k n) v) : v = .int k n := by
 cases h with
 | imm _ _ _ hI => cases hI; rfl
theorem T.inv_val {w : World} {lab : Labs} {p : Lab} {u v : Value} (h : T w lab p (.val u) v) : v = u := by
 cases h with
 | imm _ _ _ hI => cases hI; rfl
theorem ins_at {β : Type} {L : List β} {c : β} {a i : Nat} {x : β} (ha : a ≤ L.length) (h : (L.take a ++ c :: L.drop a)[i]? = some x) : (i < a ∧ L[i]? = some x) ∨ (i = a ∧ x = c) ∨ (a < i ∧ L[i - 1]? = some x) := by
 have ht : (L.take a).length = a := by rw [List.length_take]; omega
 rcases Nat.lt_trichotomy i a with h1 | h1 | h1
 ·left
  rw [List.getElem?_append_left (by omega), List.getElem?_take, if_pos h1] at h
  exact ⟨h1, h⟩
 ·right; left
  subst h1
  rw [List.getElem?_append_right (by omega), ht, Nat.sub_self] at h
  simp at h; exact ⟨rfl, h.symm⟩
 ·right; right
  rw [List.getElem?_append_right (by omega), ht] at h
  obtain ⟨d, hd⟩ : ∃ d, i - a = d + 1 := ⟨i - a - 1, by omega⟩
  rw [hd, List.getElem?_cons_succ, List.getElem?_drop] at h
  refine ⟨h1, ?_⟩
  rw [← h]; congr 1; omega
theorem DC.unseenIns {P : Program} {f : FuncId} {rest : List AV} {α : Type} (fr ft : α → Int) (fc : α → AV) (hfc : ∀ x, (fc x).tree = true) (l : List α) (at' : Nat) (hat : at' ≤ l.length) (c0 c1 : AV) (h0t : c0.tree = true) (h1t : c1.tree = true) (c : List AV) (hcl : c.length = 3) (hct : ∀ x ∈ c, AV.tree x = true)
  (hv : ∀ x w lab p v, T w lab p (fc x) v → ∃ a n cap, v = .slice a n cap)
  (h : ∀ vs : List VF, vs.length = l.length → (∀ (i : Nat) x, l[i]? = some x → ∃ u, vs[i]? = some (⟨fr x, ft x, u⟩ : VF)) →
   DC P f (.op [c0, .osl 3 (vs.map VF.row)] :: rest) (.tup []) [(0, .op [c1, .osl 3 ((vs.map VF.row).take at' ++ c :: (vs.map VF.row).drop at')])]) :
  DC P f (.op [c0, .osl 3 (l.map fun x => [.int .i64 (fr x), .int .i64 (ft x), fc x])] :: rest) (.tup []) [(0, .op [c1, .osl 3 ((l.map fun x => [.int .i64 (fr x), .int .i64 (ft x), fc x]).take at' ++ c :: (l.map fun x => [.int .i64 (fr x), .int .i64 (ft x), fc x]).drop at')])] := by
 have hb := (h (l.map fun x => (⟨fr x, ft x, .slice none 0 0⟩ : VF)) (by simp) (by intro i x hx; exact ⟨_, by rw [List.getElem?_map, hx]; rfl⟩)).body
 refine ⟨hb, ?_⟩
 intro w lab vals hl hvs hfr
 obtain ⟨v0, vr, rfl⟩ : ∃ v0 vr, vals = v0 :: vr := by
  cases vals with
  | nil => simp at hl
  | cons a b => exact ⟨a, b, rfl⟩
 obtain ⟨b, off, cv, hb0, hk0, hcv, hr0, rfl⟩ := (hvs 0 _ _ rfl rfl).inv_op
 have hF := hr0 1 _ rfl
 generalize hLf : (l.map fun x => [AV.int .i64 (fr x), .int .i64 (ft x), fc x]) = LF at hF ⊢
 have hLfl : LF.length = l.length := by rw [← hLf, List.length_map]
 have hLfi : ∀ (i : Nat) x, l[i]? = some x → LF[i]? = some [.int .i64 (fr x), .int .i64 (ft x), fc x] := by intro i x hx; rw [← hLf, List.getElem?_map, hx]; rfl
 obtain ⟨b2, off2, cap2, cw, hb2, hk2, hc2, hcw, hrw, hcv1⟩ := hF.inv_osl
 rw [hLfl] at hc2 hcw hcv1
 let vs : List VF := (List.range l.length).map fun i => ⟨(l.map fr).getD i 0, (l.map ft).getD i 0, cw i 2⟩
 have hvsl : vs.length = l.length := by simp [vs]
 have hvsi : ∀ (i : Nat) x, l[i]? = some x → vs[i]? = some (⟨fr x, ft x, cw i 2⟩ : VF) := by
  intro i x hx
  obtain ⟨hi, rfl⟩ := List.getElem?_eq_some_iff.1 hx
  simp [vs, List.getElem?_range hi, List.getD_eq_getElem?_getD, List.getElem?_eq_getElem hi]
 have hD := h vs hvsl (fun i x hx => ⟨_, hvsi i x hx⟩)
 have hdown : ∀ b p q, lab b = some (.arg 0, (0, 1) :: p :: q) → b < w.heap.size := fun b p q e => hfr b (by rw [e]; simp)
 have hrow : ∀ (w' : World) (lab' : Labs), ∀ (i : Nat) cc (j : Nat) x, (vs.map VF.row)[i]? = some cc → cc[j]? = some x → ∃ y, l[i]? = some y ∧ ((j = 0 ∧ x = .int .i64 (fr y)) ∨ (j = 1 ∧ x = .int .i64 (ft y)) ∨ (j = 2 ∧ x = .val (cw i 2))) := by
  intro w' lab' i cc j x hi hj
  have hil : i < l.length := by
   rcases Nat.lt_or_ge i l.length with h | h
   ·exact h
   ·rw [List.getElem?_eq_none (by simpa [hvsl] using h)] at hi; cases hi
  refine ⟨l[i], List.getElem?_eq_getElem hil, ?_⟩
  rw [List.getElem?_map, hvsi i _ (List.getElem?_eq_getElem hil)] at hi
  cases hi
  match j with
  | 0 => cases hj; exact Or.inl ⟨rfl, rfl⟩
  | 1 => cases hj; exact Or.inr (Or.inl ⟨rfl, rfl⟩)
  | 2 => cases hj; exact Or.inr (Or.inr ⟨rfl, rfl⟩)
  | j + 3 => simp [VF.row] at hj
 have hcall := hD.calls w (labP lab) (.pointer (some ⟨b, off, none⟩) :: vr) (by simpa using hl) (by
  intro k x v hx hvv
  cases k with
  | zero =>
   simp only [List.getElem?_cons_zero, Option.some.injEq] at hx hvv
   subst hx; subst hvv
   refine T.op (.arg 0, []) [c0, .osl 3 (vs.map VF.row)] b off cv (by rw [labP_out (by intro p q e; rw [hb0] at e; cases e), hb0]) hk0 ?_ hcv ?_
   ·intro x hx; simp at hx; rcases hx with rfl | rfl
    ·exact h0t
    ·rfl
   ·intro j x hj
    match j with
    | 0 =>
     cases hj
     refine (hr0 0 _ rfl).move (fun b _ h => ⟨labP_none h, rfl⟩) ?_ (Nat.le_refl _)
     intro b3 q _ e
     refine ⟨?_, rfl⟩
     rw [labP_out (by intro p q2 e2; rw [e2] at e; simp [Lab.app, Lab.down] at e), e]
    | 1 =>
     cases hj
     rw [hcv1]
     have e := T.osl (w := w) (lab := labP lab) (Lab.down (.arg 0, []) 0 1) 3 (vs.map VF.row) b2 off2 cap2 cw (by rw [labP_out (by intro p q e; rw [hb2] at e; simp [Lab.down] at e), hb2]) hk2 (by simpa [hvsl] using hc2)
      (by intro c hc; obtain ⟨y, _, rfl⟩ := List.mem_map.1 hc; rfl) (by intro c hc x hx; obtain ⟨y, _, rfl⟩ := List.mem_map.1 hc; exact VF_row_tree y x hx)
      (by intro i j hi hj; exact hcw i j (by simpa [hvsl] using hi) hj)
      (by
       intro i cc j x hi hj
       obtain ⟨y, hy, hx⟩ := hrow w lab i cc j x hi hj
       rcases hx with ⟨rfl, rfl⟩ | ⟨rfl, rfl⟩ | ⟨rfl, rfl⟩
       ·rw [(hrw i _ 0 _ (hLfi i y hy) rfl).inv_int]; exact .imm _ _ _ (.int _ _)
       ·rw [(hrw i _ 1 _ (hLfi i y hy) rfl).inv_int]; exact .imm _ _ _ (.int _ _)
       ·obtain ⟨a, n, cp, e⟩ := hv _ _ _ _ _ (hrw i _ 2 _ (hLfi i y hy) rfl)
        rw [e]; exact .imm _ _ _ (.val _ _ _))
     simp only [List.length_map, hvsl] at e
     exact e
    | j + 2 => simp at hj
  | succ k =>
   have := hvs (k + 1) x v (by simpa using hx) (by simpa using hvv)
   refine this.move (fun b _ h => ⟨labP_none h, rfl⟩) ?_ (Nat.le_refl _)
   intro b q _ e
   refine ⟨?_, rfl⟩
   rw [labP_out (by intro p q2 e2; rw [e2] at e; simp [Lab.app] at e), e])
  (by
   intro b hb
   apply hfr
   intro e; exact hb (labP_none e))
 refine hcall.mono fun e w' he => ?_
 obtain ⟨v, lab1, rfl, hT, hm, hE, hfr1⟩ := he
 let g : Nat → Nat := fun i => if i < at' then i else i + 1
 have hkept : ∀ b p q, lab b = some (.arg 0, (0, 1) :: p :: q) → lab1 b = some (.tmp, []) ∧ w'.heap[b]? = w.heap[b]? := by
  intro b p q e
  have := hE.kept b (hdown b p q e) (by rw [labP_in e]; trivial)
  rw [labP_in e] at this; exact this
 have hout : ∀ b, lab1 b ≠ some (.tmp, []) → ∀ p q, lab b ≠ some (.arg 0, (0, 1) :: p :: q) := by
  intro b hb p q e; exact hb (hkept b p q e).1
 have hnone : ∀ b, b < w.heap.size → lab b = none → labQ lab lab1 g w.heap.size b = none ∧ w'.heap[b]? = w.heap[b]? := by
  intro b hb e
  have := hE.kept b hb (by rw [labP_none e]; trivial)
  refine ⟨?_, this.2⟩
  rw [labQ_out (by intro p q e2; rw [e] at e2; cases e2), this.1, labP_none e]
 have hstay : ∀ {p : Lab} {x : AV} {v : Value}, p.1 = .arg 0 → T w' lab1 p x v → T w' (labQ lab lab1 g w.heap.size) p x v := by
  intro p x v hp1 ht
  refine ht.move ?_ ?_ (Nat.le_refl _)
  ·intro b _ e
   exact ⟨by rw [labQ_out (hout b (by rw [e]; simp))]; exact e, rfl⟩
  ·intro b q _ e
   refine ⟨by rw [labQ_out (hout b (by rw [e]; intro h; have := congrArg Prod.fst (Option.some.inj h); change p.1 = Root.tmp at this; rw [hp1] at this; cases this))]; exact e, rfl⟩
 refine ⟨v, labQ lab lab1 g w.heap.size, rfl, ?_, ?_, ?_, ?_⟩
 ·cases hT with
  | imm _ _ _ hI => cases hI with
   | tup _ vs hlen hx => exact .imm _ _ _ (.tup [] vs hlen (by intro j x y hx; simp at hx))
  | tup _ _ vs hlen hx => exact .tup _ [] vs hlen (by intro j x y hx; simp at hx)
 ·intro p hp v hv'
  simp only [List.mem_singleton] at hp
  subst hp
  simp only [List.getElem?_cons_zero, Option.some.injEq] at hv'
  subst hv'
  obtain ⟨b', off', cv', hb', hk', hcv', hr', e0⟩ := (hm _ (List.mem_singleton.2 rfl) _ rfl).inv_op
  rw [e0]
  refine T.op (.arg 0, []) [c1, .osl 3 (LF.take at' ++ c :: LF.drop at')] b' off' cv' (by rw [labQ_out (hout b' (by rw [hb']; simp)), hb']) hk' ?_ hcv' ?_
  ·intro x hx; simp at hx; rcases hx with rfl | rfl
   ·exact h1t
   ·rfl
  ·intro j x hj
   match j with
   | 0 => cases hj; exact hstay rfl (hr' 0 _ rfl)
   | 1 =>
    cases hj
    obtain ⟨b3, off3, cap3, cu, hb3, hk3, hc3, hcu, hru, hcv3⟩ := (hr' 1 _ rfl).inv_osl
    have hlen : (LF.take at' ++ c :: LF.drop at').length = l.length + 1 := by simp [hLfl]; omega
    have hlen2 : ((vs.map VF.row).take at' ++ c :: (vs.map VF.row).drop at').length = l.length + 1 := by simp [hvsl]; omega
    rw [hlen2] at hc3 hcu hcv3
    rw [hcv3]
    have e := T.osl (w := w') (lab := labQ lab lab1 g w.heap.size) (Lab.down (.arg 0, []) 0 1) 3 (LF.take at' ++ c :: LF.drop at') b3 off3 cap3 cu
     (by rw [labQ_out (hout b3 (by rw [hb3]; simp [Lab.down])), hb3]) hk3 (by rw [hlen]; exact hc3)
     (by
      intro cc hc
      rcases List.mem_append.1 hc with h | h
      ·have h := List.mem_of_mem_take h; rw [← hLf] at h; obtain ⟨y, _, rfl⟩ := List.mem_map.1 h; rfl
      ·rcases List.mem_cons.1 h with rfl | h
       ·exact hcl
       ·have h := List.mem_of_mem_drop h; rw [← hLf] at h; obtain ⟨y, _, rfl⟩ := List.mem_map.1 h; rfl)
     (by
      have key : ∀ cc ∈ LF, ∀ x ∈ cc, AV.tree x = true := by
       intro cc h x hx
       rw [← hLf] at h; obtain ⟨y, _, rfl⟩ := List.mem_map.1 h
       simp at hx
       rcases hx with rfl | rfl | rfl
       ·rfl
       ·rfl
       ·exact hfc y
      intro cc hc x hx
      rcases List.mem_append.1 hc with h | h
      ·exact key cc (List.mem_of_mem_take h) x hx
      ·rcases List.mem_cons.1 h with rfl | h
       ·exact hct x hx
       ·exact key cc (List.mem_of_mem_drop h) x hx)
     (by intro i j hi hj; exact hcu i j (by rw [hlen] at hi; exact hi) hj)
     (by
      have key : ∀ (i i0 : Nat) y, l[i0]? = some y → ((vs.map VF.row).take at' ++ c :: (vs.map VF.row).drop at')[i]? = (vs.map VF.row)[i0]? → g i0 = i → ∀ (j : Nat) x, [AV.int .i64 (fr y), .int .i64 (ft y), fc y][j]? = some x → T w' (labQ lab lab1 g w.heap.size) (Lab.down (Lab.down (.arg 0, []) 0 1) i j) x (cu i j) := by
       intro i i0 y hy hi hg j x hj
       rw [List.getElem?_map, hvsi i0 y hy] at hi
       match j with
       | 0 => cases hj; exact hstay rfl (hru i _ 0 _ hi rfl)
       | 1 => cases hj; exact hstay rfl (hru i _ 1 _ hi rfl)
       | 2 =>
        cases hj
        rw [(hru i _ 2 _ hi rfl).inv_val]
        refine (hrw i0 _ 2 _ (hLfi i0 y hy) rfl).move hnone ?_ hE.size
        intro b4 q hb4 e2
        have e3 : lab b4 = some (.arg 0, (0, 1) :: (i0, 2) :: q) := by rw [e2]; rfl
        refine ⟨?_, (hkept b4 _ q e3).2⟩
        rw [labQ_in hb4 e3, hg]; rfl
       | j + 3 => simp at hj
      have hsame : ∀ (i : Nat) cc, LF[i]? = some cc → ∃ y, l[i]? = some y ∧ cc = [.int .i64 (fr y), .int .i64 (ft y), fc y] := by
       intro i cc hi
       rw [← hLf, List.getElem?_map] at hi
       cases hy : l[i]? with
       | none => rw [hy] at hi; cases hi
       | some y => rw [hy] at hi; cases hi; exact ⟨y, rfl, rfl⟩
      have hvl : (vs.map VF.row).length = l.length := by rw [List.length_map, hvsl]
      have htl : ((vs.map VF.row).take at').length = at' := by rw [List.length_take]; omega
      intro i cc j x hi hj
      rcases ins_at (by omega) hi with ⟨h1, h2⟩ | ⟨h1, h2⟩ | ⟨h1, h2⟩
      ·obtain ⟨y, hy, rfl⟩ := hsame i cc h2
       refine key i i y hy ?_ (by simp [g, h1]) j x hj
       rw [List.getElem?_append_left (by omega), List.getElem?_take, if_pos h1]
      ·subst h1; subst h2
       refine hstay rfl (hru i cc j x ?_ hj)
       rw [List.getElem?_append_right (by omega), htl, Nat.sub_self]; rfl
      ·obtain ⟨y, hy, rfl⟩ := hsame (i - 1) cc h2
       refine key i (i - 1) y hy ?_ (by simp only [g]; rw [if_neg (by omega)]; omega) j x hj
       rw [List.getElem?_append_right (by omega), htl]
       obtain ⟨d, hd⟩ : ∃ d, i - at' = d + 1 := ⟨i - at' - 1, by omega⟩
       rw [hd, List.getElem?_cons_succ, List.getElem?_drop]
       congr 1; omega)
    rw [hlen] at e
    exact e
   | j + 2 => simp at hj
 ·refine ⟨hE.size, hE.os, hE.out, ?_, hE.blk⟩
  intro b2 hb2 hst
  have hno : ∀ p q, lab b2 ≠ some (.arg 0, (0, 1) :: p :: q) := by intro p q e; rw [e] at hst; exact hst
  have := hE.kept b2 hb2 (by rw [labP_out hno]; exact hst)
  exact ⟨by rw [labQ_out hno, this.1, labP_out hno], this.2⟩
 ·intro b2 hb2
  by_cases hin : b2 < w.heap.size
  ·exact Nat.lt_of_lt_of_le hin hE.size
  ·rw [labQ_ge hin] at hb2; exact hfr1 b2 hb2
theorem Gh.cellLe {st : St} {Q : St → Prop} (id i j : Nat) {nd : Node} {c : List AV} {x : AV} (y : AV) (h1 : st.obj id = some nd) (h2 : nd.l[i]? = some c) (h3 : c[j]? = some x) (h4 : leA0 x y)
  (h : Gh ⟨st.n, st.slots, (id, some ⟨nd.es, nd.l.set i (c.set j y)⟩) :: st.objs⟩ Q) : Gh st Q :=
 Gh.ghost (fun _ _ _ _ hR => hR.cellLe h1 h2 h3 h4) h
end Go.AM
namespace Go.AM
theorem AW.ghostN {P : Program} {c : Code} {st : St} {Q : St → Prop} {K : Exit → St → Prop} (h : AW P c st (thenK (fun s => Gh s Q) K)) : AW P c st (thenK Q K) := by
 refine ⟨fun w0 lab0 a w hR => wp_mono (h.go w0 lab0 a w hR) ?_⟩
 rintro e a' w' ⟨⟨s, h1, h4⟩, h5⟩
 cases e with
 | normal =>
  obtain ⟨s2, h2, h3⟩ := h1
  exact ⟨⟨s2, h3, h2 _ _ _ _ h4⟩, h5⟩
 | _ => exact ⟨⟨s, h1, h4⟩, h5⟩
theorem AW.cutG {P : Program} {x y : Code} {st : St} {K : Exit → St → Prop} (st1 : St) (h : AW P x st (thenK (fun s => Gh s fun s => St.Less s st1) K)) (h2 : AW P y st1 K) : AW P (.seq x y) st K := AW.cut st1 (AW.ghostN h) h2
theorem Gh.rename {st : St} {Q : St → Prop} (a b : Nat) {nd : Node} (h1 : st.obj a = some nd) (h2 : st.obj b = none ∧ b ∉ st.ids) (h4 : a ∉ objIds st.objs)
  (h : Gh ⟨st.n, renS a b st.slots, (b, some nd) :: (a, none) :: st.objs⟩ Q) : Gh st Q :=
 Gh.ghost (fun _ _ _ _ hR => hR.rename h1 h2.1 h2.2 h4) h
theorem Gh.slotLe {st : St} {Q : St → Prop} (s : Nat) {x : AV} (y : AV) (h1 : st.slot s = some x) (h2 : leA x y) (h : Gh ⟨st.n, (s, y) :: st.slots, st.objs⟩ Q) : Gh st Q :=
 Gh.ghost (fun _ _ _ _ hR => hR.slotLe h1 h2) h
theorem Gh.thaw {st : St} {Q : St → Prop} (id i j id' : Nat) {es : Nat} {nd : Node} {c : List AV} {l : List (List AV)} (h1 : st.obj id = some nd) (h2 : nd.l[i]? = some c)
  (h3 : c[j]? = some (.osl es l)) (h45 : st.obj id' = none ∧ id' ∉ st.ids) (h : Gh ⟨st.n, st.slots, (id', some ⟨es, l⟩) :: (id, some ⟨nd.es, nd.l.set i (c.set j (.sl id' es 0 l.length))⟩) :: st.objs⟩ Q) : Gh st Q :=
 Gh.ghost (fun _ _ _ _ hR => hR.thaw h1 h2 h3 h45.1 h45.2) h
theorem leL_at : ∀ {c d : List AV}, leL c d → d.length = c.length ∧ ∀ (j : Nat) z, d[j]? = some z → ∃ x, c[j]? = some x ∧ leA0 x z
 | [], d, h => by simp only [leL] at h; subst h; exact ⟨rfl, fun j z hz => by simp at hz⟩
 | x :: xs, [], h => by simp [leL] at h
 | x :: xs, y :: ys, h => by
  simp only [leL] at h
  obtain ⟨h1, h2⟩ := leL_at h.2
  refine ⟨by simp [h1], fun j z hz => ?_⟩
  cases j with
  | zero => simp at hz; subst hz; exact ⟨x, rfl, h.1⟩
  | succ j => exact h2 j z (by simpa using hz)
theorem Rep.repLe {st : St} {w0 : World} {lab0 : Labs} {ac : Act} {w : World} (h : Rep w0 lab0 st ac w) {id es n : Nat} {c d : List AV} (h1 : st.obj id = some ⟨es, List.replicate n c⟩) (h2 : leL c d) :
  Rep w0 lab0 ⟨st.n, st.slots, (id, some ⟨es, List.replicate n d⟩) :: st.objs⟩ ac w := by
 obtain ⟨hl2, hd⟩ := leL_at h2
 obtain ⟨lab, loc, hR⟩ := h
 refine ⟨lab, loc, hR.size, hR.defers, hR.slots, ?_, ?_, hR.fresh, hR.ext⟩
 ·intro k nk hk
  simp only [St.obj, look] at hk
  split at hk
  ·rename_i e; subst e
   simp at hk; subst hk
   obtain ⟨b, base, hl, ho⟩ := hR.objs k _ h1
   refine ⟨b, base, hl, ho.hlab, by simpa using ho.blk, ?_, ?_⟩
   ·intro z hz
    obtain ⟨hn, rfl⟩ := List.mem_replicate.1 hz
    rw [hl2]; exact ho.es c (List.mem_replicate.2 ⟨hn, rfl⟩)
   ·intro i2 c2 j2 z hi hj
    have hlt := (List.getElem?_eq_some_iff.1 hi).1
    rw [List.length_replicate] at hlt
    rw [List.getElem?_replicate, if_pos hlt] at hi
    cases hi
    obtain ⟨x, hx, hle⟩ := hd j2 z hj
    obtain ⟨v, hv, hx⟩ := ho.cells i2 c j2 x (by rw [List.getElem?_replicate, if_pos hlt]) hx
    exact ⟨v, hv, hx.imp (fun h => h.le0 hle) (fun h => h.le0 hle)⟩
  ·exact hR.objs k nk hk
 ·intro k hk
  simp only [St.obj, look] at hk
  split at hk
  ·simp at hk
  ·exact hR.dead k hk
theorem AW.repLe {P : Program} {K : Exit → St → Prop} {st : St} {code : Code} (id : Nat) {es n : Nat} {c : List AV} (d : List AV) (h1 : st.obj id = some ⟨es, List.replicate n c⟩) (h2 : leL c d)
  (h : AW P code ⟨st.n, st.slots, (id, some ⟨es, List.replicate n d⟩) :: st.objs⟩ K) : AW P code st K :=
 AW.ghost (fun _ _ _ _ hR => hR.repLe h1 h2) h
end Go.AM
namespace Go.AM
section
variable {α : Type} (key : α → Int)
def Ord (l : List α) : Prop := l.Pairwise fun x y => key x ≤ key y
def ofK (k : Int) (l : List α) : List α := l.filter fun x => decide (key x = k)
variable {key}
theorem ofK_cons (k : Int) (x : α) (l : List α) : ofK key k (x :: l) = if key x = k then x :: ofK key k l else ofK key k l := by
 unfold ofK; rw [List.filter_cons]; by_cases h : key x = k <;> simp [h]
theorem ofK_append (k : Int) (l m : List α) : ofK key k (l ++ m) = ofK key k l ++ ofK key k m := List.filter_append _ _
theorem ofK_nil {l : List α} (h : ∀ k, ofK key k l = []) : l = [] := by
 cases l with
 | nil => rfl
 | cons x r => have := h (key x); rw [ofK_cons, if_pos rfl] at this; cases this
theorem ord_one : ∀ (l m : List α), Ord key l → Ord key m → (∀ k, ofK key k l = ofK key k m) → l = m
 | [], m, _, _, h => (ofK_nil fun k => (h k).symm).symm
 | x :: r, [], _, _, h => ofK_nil fun k => h k
 | x :: r, y :: s, h1, h2, h => by
  have h1' := List.pairwise_cons.1 h1
  have h2' := List.pairwise_cons.1 h2
  have hxy : key x = key y := by
   have a1 : key x ≤ key y := by
    have hy := h (key y)
    have hm : y ∈ ofK key (key y) (x :: r) := by rw [hy, ofK_cons, if_pos rfl]; exact List.mem_cons_self
    have hm2 := (List.mem_filter.1 hm).1
    rcases List.mem_cons.1 hm2 with e | e
    ·rw [e]; exact Int.le_refl _
    ·exact h1'.1 y e
   have a2 : key y ≤ key x := by
    have hx := h (key x)
    have hm : x ∈ ofK key (key x) (y :: s) := by rw [← hx, ofK_cons, if_pos rfl]; exact List.mem_cons_self
    have hm2 := (List.mem_filter.1 hm).1
    rcases List.mem_cons.1 hm2 with e | e
    ·rw [e]; exact Int.le_refl _
    ·exact h2'.1 x e
   omega
  have hh := h (key x)
  rw [ofK_cons, ofK_cons, if_pos rfl, if_pos hxy.symm] at hh
  obtain ⟨rfl, _⟩ := List.cons.inj hh
  rw [ord_one r s h1'.2 h2'.2 fun k => by
   have := h k
   rw [ofK_cons, ofK_cons] at this
   split at this
   ·exact (List.cons.inj this).2
   ·exact this]
variable (key)
def putK (l : List α) (x : α) : List α := l.takeWhile (fun y => decide (key y ≤ key x)) ++ x :: l.dropWhile (fun y => decide (key y ≤ key x))
variable {key}
theorem ord_app {l m : List α} : Ord key (l ++ m) ↔ Ord key l ∧ Ord key m ∧ ∀ x ∈ l, ∀ y ∈ m, key x ≤ key y := List.pairwise_append
theorem drop_gt {x : α} : ∀ (l : List α), Ord key l → ∀ y ∈ l.dropWhile (fun y => decide (key y ≤ key x)), key x < key y
 | [], _, y, hy => by cases hy
 | z :: r, h, y, hy => by
  have h' := List.pairwise_cons.1 h
  rw [List.dropWhile_cons] at hy
  split at hy
  ·exact drop_gt r h'.2 y hy
  ·rename_i hz
   have hz : ¬ key z ≤ key x := by simpa using hz
   rcases List.mem_cons.1 hy with e | e
   ·rw [e]; omega
   ·have := h'.1 y e; omega
theorem take_le {x : α} : ∀ (l : List α), ∀ y ∈ l.takeWhile (fun y => decide (key y ≤ key x)), key y ≤ key x
 | [], y, hy => by cases hy
 | z :: r, y, hy => by
  rw [List.takeWhile_cons] at hy
  split at hy
  ·rename_i hz
   rcases List.mem_cons.1 hy with e | e
   ·rw [e]; simpa using hz
   ·exact take_le r y e
  ·cases hy
theorem put_ord {l : List α} (h : Ord key l) (x : α) : Ord key (putK key l x) := by
 have hs : Ord key (l.takeWhile (fun y => decide (key y ≤ key x)) ++ l.dropWhile (fun y => decide (key y ≤ key x))) := by rw [List.takeWhile_append_dropWhile]; exact h
 obtain ⟨h1, h2, h3⟩ := ord_app.1 hs
 unfold putK
 refine ord_app.2 ⟨h1, List.pairwise_cons.2 ⟨fun y hy => ?_, h2⟩, fun a ha b hb => ?_⟩
 ·have := drop_gt l h y hy; omega
 ·rcases List.mem_cons.1 hb with e | e
  ·rw [e]; exact take_le l a ha
  ·exact h3 a ha b e
theorem put_of {l : List α} (h : Ord key l) (x : α) (k : Int) : ofK key k (putK key l x) = ofK key k l ++ if key x = k then [x] else [] := by
 have hs : ofK key k l = ofK key k (l.takeWhile (fun y => decide (key y ≤ key x))) ++ ofK key k (l.dropWhile (fun y => decide (key y ≤ key x))) := by rw [← ofK_append, List.takeWhile_append_dropWhile]
 unfold putK
 rw [ofK_append, ofK_cons, hs]
 split
 ·rename_i hk
  have hd : ofK key k (l.dropWhile (fun y => decide (key y ≤ key x))) = [] := by
   unfold ofK
   rw [List.filter_eq_nil_iff]
   intro y hy
   have := drop_gt l h y hy
   simp; omega
  rw [hd]; simp
 ·simp
theorem puts_ord : ∀ (l acc : List α), Ord key acc → Ord key (l.foldl (putK key) acc) ∧ ∀ k, ofK key k (l.foldl (putK key) acc) = ofK key k acc ++ ofK key k l
 | [], acc, h => ⟨h, fun k => by simp [ofK]⟩
 | x :: r, acc, h => by
  obtain ⟨h1, h2⟩ := puts_ord r (putK key acc x) (put_ord h x)
  refine ⟨h1, fun k => ?_⟩
  rw [List.foldl_cons, h2, put_of h, ofK_cons]
  split <;> simp
theorem stable_puts {l m : List α} (h : Ord key m) (hk : ∀ k, ofK key k m = ofK key k l) : m = l.foldl (putK key) [] := by
 obtain ⟨h1, h2⟩ := puts_ord (key := key) l [] List.Pairwise.nil
 exact ord_one m _ h h1 fun k => by rw [hk, h2]; rfl
theorem rot_of {a b : List α} (h : ∀ x ∈ a, ∀ y ∈ b, key y < key x) (k : Int) : ofK key k (b ++ a) = ofK key k (a ++ b) := by
 rw [ofK_append, ofK_append]
 by_cases h1 : ofK key k a = []
 ·rw [h1]; simp
 ·have h2 : ofK key k b = [] := by
   unfold ofK at h1 ⊢
   rw [List.filter_eq_nil_iff]
   intro y hy
   simp only [decide_eq_true_eq]
   intro hk
   apply h1
   rw [List.filter_eq_nil_iff]
   intro x hx
   have := h x hx y hy
   simp; omega
  rw [h2]; simp
theorem rot_in {p a b q : List α} (h : ∀ x ∈ a, ∀ y ∈ b, key y < key x) (k : Int) : ofK key k (p ++ (b ++ a) ++ q) = ofK key k (p ++ (a ++ b) ++ q) := by
 rw [ofK_append, ofK_append, ofK_append (l := p ++ (a ++ b)), ofK_append (l := p), rot_of h]
end
end Go.AM
namespace Go.AM
def actA (c : TChart) (i : Int) : Int := c.acts.getD i.toNat 0
def cnt (c : TChart) (a : Int) (l : List Int) : Int := (l.countP fun k => decide (actA c k = a) : Nat)
structure ProcOk (p : List TStep) : Prop where
 len : 1 ≤ p.length ∧ p.length ≤ 24
 one : ∀ i, i < p.length → oneF p i = 0
 shape : ∀ i, i < p.length → shapeF p i = 0
 ty : ∀ i, i < p.length → tyF p i = 0
theorem procOk {p : List TStep} (h : procF p = 0) : ProcOk p := by
 unfold procF at h
 split at h
 ·cases h
 rename_i h0
 split at h
 ·exact absurd h (by assumption)
 rename_i h1
 split at h
 ·exact absurd h (by assumption)
 rename_i h2
 have h0 : inR (↑p.length) 1 24 = true := by simpa using h0
 have h0 := inR_iff.1 h0
 exact ⟨by omega, sc_all (by simpa using h1), sc_all (by simpa using h2), sc_all h⟩
theorem ProcOk.par {p : List TStep} (h : ProcOk p) : ParOk (pars p) := by
 have := ones_ok p.length (Nat.le_refl _) h.one
 rwa [List.take_of_length_le (by rw [pars_len]; exact Nat.le_refl _)] at this
theorem ProcOk.par0 {p : List TStep} (h : ProcOk p) : (nS p 0).par = -1 := by
 have h1 := parF_ok (stepF_par (h.one 0 (by have := h.len; omega)))
 simp at h1; omega
theorem ProcOk.parI {p : List TStep} (h : ProcOk p) {i : Nat} (h0 : 0 < i) (hi : i < p.length) : 0 ≤ (nS p i).par ∧ (nS p i).par < i := by
 have h1 := parF_ok (stepF_par (h.one i hi))
 have hl : ((pars p).take i).length = i := by rw [List.length_take, pars_len]; omega
 rw [hl] at h1
 exact ⟨h1.2.2 h0, h1.2.1⟩
theorem ProcOk.kind {p : List TStep} (h : ProcOk p) {i : Nat} (hi : i < p.length) : 1 ≤ (nS p i).kind ∧ (nS p i).kind ≤ 8 := by
 have h1 := h.one i hi
 unfold oneF stepF at h1
 split at h1
 ·cases h1
 ·omega
theorem ProcOk.many {p : List TStep} (h : ProcOk p) {i : Nat} (hi : i < p.length) : kidLo (nS p i).kind ≤ (kids p i).length ∧ ((kids p i).length : Int) ≤ kidHi (nS p i).kind := by
 have h1 := h.shape i hi
 unfold shapeF at h1
 simp only at h1
 split at h1
 ·cases h1
 ·rename_i h2; exact inR_iff.1 (by simpa using h2)
instance : Inhabited TProc := ⟨⟨[]⟩⟩
instance : Inhabited TChart := ⟨⟨0, 0, [], [], []⟩⟩
instance : Inhabited TInst := ⟨⟨0, default⟩⟩
instance : Inhabited TClaim := ⟨⟨0, 0, 0⟩⟩
end Go.AM
namespace Go.AM
def nlc (es : Nat) (l : List (List AV)) : AV := match l with
  | [] => .nils
  | x :: r => .osl es (x :: r)
@[go_sem high] theorem nlc_nil (es : Nat) : nlc es [] = .nils := rfl
@[go_sem high] theorem nlc_cons (es : Nat) (x : List AV) (r : List (List AV)) : nlc es (x :: r) = .osl es (x :: r) := rfl
theorem nlc_ne {es : Nat} {l : List (List AV)} (h : l ≠ []) : nlc es l = .osl es l := by cases l; exact absurd rfl h; rfl
@[go_sem high] theorem nlc_tree (es : Nat) (l : List (List AV)) : (nlc es l).tree = true := by cases l <;> rfl
@[go_sem high] theorem nlc_ids (es : Nat) (l : List (List AV)) : (nlc es l).ids = [] := by cases l <;> simp [nlc, AV.ids]
@[go_sem high] theorem nlc_ownd (es : Nat) (l : List (List AV)) : (nlc es l).ownd = owndLL l := by cases l <;> simp [nlc, AV.ownd, owndLL]
@[go_sem high] theorem nlc_le (es : Nat) (l m : List (List AV)) : leA0 (.osl es l) (nlc es m) ↔ l = m ∧ m ≠ [] := by
  cases m with
  | nil => simp [nlc, leA0]
  | cons y r => simp [nlc, leA0]
@[go_sem high] theorem nlc_lenil (es : Nat) (m : List (List AV)) : leA0 .nils (nlc es m) ↔ m = [] := by cases m <;> simp [nlc, leA0]
@[go_sem high] theorem nlc_lenlc (es : Nat) (l : List (List AV)) : leA0 (nlc es l) (nlc es l) := by cases l <;> simp [nlc, leA0]
end Go.AM
