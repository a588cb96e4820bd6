/- Joined texts: F3 F4 F6 F8 G8 G9 Ga Bq Bs. -/
import Derived.Test.YtijoeghjkklaaaaB1
import Derived.Test.YtijoeghjkklaaaaB2
import Derived.Test.YtijoeghjkklaaaaB3
import Derived.Test.YtijoeghjkklaaaaB4
import Derived.Test.YtijoeghjkklaaaaB5
import Derived.Test.YtijoeghjkklaaaaB6
import Derived.Test.YtijoeghjkklaaaaB7
import Derived.Test.YtijoeghjkklaaaaB8
import Derived.Test.YtijoeghjkklaaaaB9
import Derived.Test.YtijoeghjkklaaaaB10
import Derived.Test.YtijoeghjkklaaaaB11
set_option linter.unusedVariables false
set_option linter.unusedSimpArgs false
set_option maxHeartbeats 600000
set_option maxRecDepth 100000
namespace Go.AM
open Go.Proofs
theorem dc_spec_l3Walk_n (e : List TNode) (hP : PartsOk e e.length) (h16 : e.length ≤ 16) (i : Nat) (hi : i < e.length) (ihn : ∀ j : Nat, j < i → DC Try.prog 86 [.isl 4 (e.map TNode.ro), .int .i64 ((j : Nat) : Int), .nils] (.osl 1 ((wkF e j []).map N1)) []) (iho : ∀ j : Nat, j < i → ∀ out : List Nat, out.length ≤ 40 → DC Try.prog 86 [.isl 4 (e.map TNode.ro), .int .i64 ((j : Nat) : Int), .osl 1 (out.map N1)] (.osl 1 ((wkF e j out).map N1)) []) : DC Try.prog 86 [.isl 4 (e.map TNode.ro), .int .i64 ((i : Nat) : Int), .nils] (.osl 1 ((wkF e i []).map N1)) [] := by
 obtain ⟨x, hx⟩ := at_some hi
 have hxA := nA_at hx
 have hpx := hP i hi
 rw [nodeAt_at hx] at hpx
 have hq := nodeF_parts hpx
 refine DC.intro tiOk Try.func86 rfl rfl rfl rfl rfl rfl rfl rfl [1000] ?_
 refine rg [0,1,2] ?_
 intro k hk; simp -dsimp [go_sem, -decide_eq_true_eq, -decide_eq_false_iff_not, hx, hxA]
 repeat' first | apply And.intro | refine hk _ ?_ | intro hg | omega | exact True.intro
 all_goals clear hk k
 refine AW.seq ?_
 refine rg [0,1,2,9] ?_
 intro k hk; simp -dsimp [go_sem, -decide_eq_true_eq, -decide_eq_false_iff_not, hx, hxA]
 repeat' first | apply And.intro | refine hk _ ?_ | intro hg | omega | exact True.intro
 all_goals clear hk k
 refine AW.cond rfl ?_ ?_
 ·intro hc; try simp at hc
  all_goals try (exfalso; first | omega | (have hk9 := inR_iff.1 hc; omega); done)
  all_goals (
 refine rg [6] ?_
 intro k hk; simp -dsimp [go_sem, -decide_eq_true_eq, -decide_eq_false_iff_not, hx, hxA]
 repeat' first | apply And.intro | refine hk _ ?_ | intro hg | omega | exact True.intro
 all_goals clear hk k
 refine rt ?_
 rw [wkF_eq hP hi]; (try (first | rw [if_neg (show ¬ 16 < out.length by omega)] | rw [if_pos (show 16 < out.length by omega)])); simp [go_sem, Try.results86, *] <;> first | (intro h9; omega) | (simp_all; done) | omega | grind)
 ·intro hc; try simp at hc
  all_goals try (exfalso; first | omega | (have hk9 := inR_iff.1 hc; omega); done)
  all_goals (
 refine AW.skipN (fun _ h => h) ?_
 refine AW.seq ?_
 refine rg [0,1,2,16] ?_
 intro k hk; simp -dsimp [go_sem, -decide_eq_true_eq, -decide_eq_false_iff_not, hx, hxA]
 repeat' first | apply And.intro | refine hk _ ?_ | intro hg | omega | exact True.intro
 all_goals clear hk k
 refine AW.cond rfl ?_ ?_
 ·intro hc; try simp at hc
  all_goals try (exfalso; first | omega | (have hk9 := inR_iff.1 hc; omega); done)
  all_goals (
 have hk0 : 2 < x.kind := by simpa using hc
 have hl := left_of hpx hk0
 obtain ⟨a, ha⟩ : ∃ a : Nat, x.left = a := ⟨_, (Int.toNat_of_nonneg hl.1).symm⟩
 have hla : x.left.toNat = a := by omega
 have hwa := wkF_len (e := e) (i := a) (out := []) (by first | assumption | simp) (by omega)
 refine AW.regN tiOk (fun i => if i = 7 then [2] else []) [0,1,2] (fun _ h => h) ?_
 intro k hk; simp -dsimp (maxSteps := 2000000) [go_sem, -decide_eq_true_eq, -decide_eq_false_iff_not, hx, hxA, ha]
 repeat' first | apply And.intro | refine hk _ ?_ | intro hg | ((first | refine CallK.intro (ihn a (by omega)) ?_ | refine CallK.intro (iho b (by omega) _ hwa) ?_); simp -dsimp (maxSteps := 2000000) [go_sem, -decide_eq_true_eq, -decide_eq_false_iff_not, hx, hxA, ha]) | omega | exact True.intro
 all_goals clear hk k
 refine AW.seq ?_
 refine rg [0,1,2,30] ?_
 intro k hk; simp -dsimp (maxSteps := 2000000) [go_sem, -decide_eq_true_eq, -decide_eq_false_iff_not, hx, hxA]
 repeat' first | apply And.intro | refine hk _ ?_ | intro hg | (refine CallK.intro (dc_spec_l3Two _) ?_; simp -dsimp (maxSteps := 2000000) [go_sem, -decide_eq_true_eq, -decide_eq_false_iff_not, hx, hxA]) | omega | exact True.intro
 all_goals clear hk k
 refine AW.cond rfl ?_ ?_
 ·intro hc; try simp at hc
  all_goals try (exfalso; first | omega | (have hk9 := inR_iff.1 hc; omega); done)
  all_goals (
 have hk2 : isTwoB x.kind = true := by simpa using hc
 have hr := hq.2.1 hk2
 have hk3 := inR_iff.1 hk2
 obtain ⟨b, hb⟩ : ∃ b : Nat, x.right = b := ⟨_, (Int.toNat_of_nonneg hr.2.2.1).symm⟩
 have hrb : x.right.toNat = b := by omega
 refine AW.regN tiOk (fun i => if i = 7 then [2] else []) [1,2] (fun _ h => h) ?_
 intro k hk; simp -dsimp (maxSteps := 2000000) [go_sem, -decide_eq_true_eq, -decide_eq_false_iff_not, hx, hxA, hb]
 repeat' first | apply And.intro | refine hk _ ?_ | intro hg | ((first | refine CallK.intro (ihn a (by omega)) ?_ | refine CallK.intro (iho b (by omega) _ hwa) ?_); simp -dsimp (maxSteps := 2000000) [go_sem, -decide_eq_true_eq, -decide_eq_false_iff_not, hx, hxA, hb]) | omega | exact True.intro
 all_goals clear hk k
 try (have hwb := wkF_len (e := e) (i := b) hwa (by omega))
 refine rg [6] ?_
 intro k hk; simp -dsimp [go_sem, -decide_eq_true_eq, -decide_eq_false_iff_not, hx, hxA]
 repeat' first | apply And.intro | refine hk _ ?_ | intro hg | omega | exact True.intro
 all_goals clear hk k
 refine rt ?_
 rw [wkF_eq hP hi]; (try (first | rw [if_neg (show ¬ 16 < out.length by omega)] | rw [if_pos (show 16 < out.length by omega)])); simp [go_sem, Try.results86, *] <;> first | (intro h9; omega) | (simp_all; done) | omega | grind)
 ·intro hc; try simp at hc
  all_goals try (exfalso; first | omega | (have hk9 := inR_iff.1 hc; omega); done)
  all_goals (
 refine AW.skipN (fun _ h => h) ?_
 try (have hwb := wkF_len (e := e) (i := b) hwa (by omega))
 refine rg [6] ?_
 intro k hk; simp -dsimp [go_sem, -decide_eq_true_eq, -decide_eq_false_iff_not, hx, hxA]
 repeat' first | apply And.intro | refine hk _ ?_ | intro hg | omega | exact True.intro
 all_goals clear hk k
 refine rt ?_
 rw [wkF_eq hP hi]; (try (first | rw [if_neg (show ¬ 16 < out.length by omega)] | rw [if_pos (show 16 < out.length by omega)])); simp [go_sem, Try.results86, *] <;> first | (intro h9; omega) | (simp_all; done) | omega | grind))
 ·intro hc; try simp at hc
  all_goals try (exfalso; first | omega | (have hk9 := inR_iff.1 hc; omega); done)
  all_goals (
 refine AW.skipN (fun _ h => h) ?_
 refine AW.seq ?_
 refine rg [0,1,2,30] ?_
 intro k hk; simp -dsimp (maxSteps := 2000000) [go_sem, -decide_eq_true_eq, -decide_eq_false_iff_not, hx, hxA]
 repeat' first | apply And.intro | refine hk _ ?_ | intro hg | (refine CallK.intro (dc_spec_l3Two _) ?_; simp -dsimp (maxSteps := 2000000) [go_sem, -decide_eq_true_eq, -decide_eq_false_iff_not, hx, hxA]) | omega | exact True.intro
 all_goals clear hk k
 refine AW.cond rfl ?_ ?_
 ·intro hc; try simp at hc
  all_goals try (exfalso; first | omega | (have hk9 := inR_iff.1 hc; omega); done)
  all_goals (
 have hk2 : isTwoB x.kind = true := by simpa using hc
 have hr := hq.2.1 hk2
 have hk3 := inR_iff.1 hk2
 obtain ⟨b, hb⟩ : ∃ b : Nat, x.right = b := ⟨_, (Int.toNat_of_nonneg hr.2.2.1).symm⟩
 have hrb : x.right.toNat = b := by omega
 refine AW.regN tiOk (fun i => if i = 7 then [2] else []) [1,2] (fun _ h => h) ?_
 intro k hk; simp -dsimp (maxSteps := 2000000) [go_sem, -decide_eq_true_eq, -decide_eq_false_iff_not, hx, hxA, hb]
 repeat' first | apply And.intro | refine hk _ ?_ | intro hg | ((first | refine CallK.intro (ihn a (by omega)) ?_ | refine CallK.intro (iho b (by omega) _ hwa) ?_); simp -dsimp (maxSteps := 2000000) [go_sem, -decide_eq_true_eq, -decide_eq_false_iff_not, hx, hxA, hb]) | omega | exact True.intro
 all_goals clear hk k
 try (have hwb := wkF_len (e := e) (i := b) hwa (by omega))
 refine rg [6] ?_
 intro k hk; simp -dsimp [go_sem, -decide_eq_true_eq, -decide_eq_false_iff_not, hx, hxA]
 repeat' first | apply And.intro | refine hk _ ?_ | intro hg | omega | exact True.intro
 all_goals clear hk k
 refine rt ?_
 rw [wkF_eq hP hi]; (try (first | rw [if_neg (show ¬ 16 < out.length by omega)] | rw [if_pos (show 16 < out.length by omega)])); simp [go_sem, Try.results86, *] <;> first | (intro h9; omega) | (simp_all; done) | omega | grind)
 ·intro hc; try simp at hc
  all_goals try (exfalso; first | omega | (have hk9 := inR_iff.1 hc; omega); done)
  all_goals (
 refine AW.skipN (fun _ h => h) ?_
 try (have hwb := wkF_len (e := e) (i := b) hwa (by omega))
 refine rg [6] ?_
 intro k hk; simp -dsimp [go_sem, -decide_eq_true_eq, -decide_eq_false_iff_not, hx, hxA]
 repeat' first | apply And.intro | refine hk _ ?_ | intro hg | omega | exact True.intro
 all_goals clear hk k
 refine rt ?_
 rw [wkF_eq hP hi]; (try (first | rw [if_neg (show ¬ 16 < out.length by omega)] | rw [if_pos (show 16 < out.length by omega)])); simp [go_sem, Try.results86, *] <;> first | (intro h9; omega) | (simp_all; done) | omega | grind)))
theorem dc_spec_l3Walk_o (e : List TNode) (hP : PartsOk e e.length) (h16 : e.length ≤ 16) (i : Nat) (hi : i < e.length) (out : List Nat) (ho : out.length ≤ 40) (ihn : ∀ j : Nat, j < i → DC Try.prog 86 [.isl 4 (e.map TNode.ro), .int .i64 ((j : Nat) : Int), .nils] (.osl 1 ((wkF e j []).map N1)) []) (iho : ∀ j : Nat, j < i → ∀ out : List Nat, out.length ≤ 40 → DC Try.prog 86 [.isl 4 (e.map TNode.ro), .int .i64 ((j : Nat) : Int), .osl 1 (out.map N1)] (.osl 1 ((wkF e j out).map N1)) []) : DC Try.prog 86 [.isl 4 (e.map TNode.ro), .int .i64 ((i : Nat) : Int), .osl 1 (out.map N1)] (.osl 1 ((wkF e i out).map N1)) [] := by
 obtain ⟨x, hx⟩ := at_some hi
 have hxA := nA_at hx
 have hpx := hP i hi
 rw [nodeAt_at hx] at hpx
 have hq := nodeF_parts hpx
 refine DC.intro tiOk Try.func86 rfl rfl rfl rfl rfl rfl rfl rfl [1000] ?_
 refine rg [0,1,2] ?_
 intro k hk; simp -dsimp [go_sem, -decide_eq_true_eq, -decide_eq_false_iff_not, hx, hxA]
 repeat' first | apply And.intro | refine hk _ ?_ | intro hg | omega | exact True.intro
 all_goals clear hk k
 refine AW.seq ?_
 refine rg [0,1,2,9] ?_
 intro k hk; simp -dsimp [go_sem, -decide_eq_true_eq, -decide_eq_false_iff_not, hx, hxA]
 repeat' first | apply And.intro | refine hk _ ?_ | intro hg | omega | exact True.intro
 all_goals clear hk k
 refine AW.cond rfl ?_ ?_
 ·intro hc; try simp at hc
  all_goals try (exfalso; first | omega | (have hk9 := inR_iff.1 hc; omega); done)
  all_goals (
 refine rg [6] ?_
 intro k hk; simp -dsimp [go_sem, -decide_eq_true_eq, -decide_eq_false_iff_not, hx, hxA]
 repeat' first | apply And.intro | refine hk _ ?_ | intro hg | omega | exact True.intro
 all_goals clear hk k
 refine rt ?_
 rw [wkF_eq hP hi]; (try (first | rw [if_neg (show ¬ 16 < out.length by omega)] | rw [if_pos (show 16 < out.length by omega)])); simp [go_sem, Try.results86, *] <;> first | (intro h9; omega) | (simp_all; done) | omega | grind)
 ·intro hc; try simp at hc
  all_goals try (exfalso; first | omega | (have hk9 := inR_iff.1 hc; omega); done)
  all_goals (
 refine AW.skipN (fun _ h => h) ?_
 refine AW.seq ?_
 refine rg [0,1,2,16] ?_
 intro k hk; simp -dsimp [go_sem, -decide_eq_true_eq, -decide_eq_false_iff_not, hx, hxA]
 repeat' first | apply And.intro | refine hk _ ?_ | intro hg | omega | exact True.intro
 all_goals clear hk k
 refine AW.cond rfl ?_ ?_
 ·intro hc; try simp at hc
  all_goals try (exfalso; first | omega | (have hk9 := inR_iff.1 hc; omega); done)
  all_goals (
 have hk0 : 2 < x.kind := by simpa using hc
 have hl := left_of hpx hk0
 obtain ⟨a, ha⟩ : ∃ a : Nat, x.left = a := ⟨_, (Int.toNat_of_nonneg hl.1).symm⟩
 have hla : x.left.toNat = a := by omega
 have hwa := wkF_len (e := e) (i := a) (out := out) (by first | assumption | simp) (by omega)
 refine AW.regN tiOk (fun i => if i = 7 then [2] else []) [0,1,2] (fun _ h => h) ?_
 intro k hk; simp -dsimp (maxSteps := 2000000) [go_sem, -decide_eq_true_eq, -decide_eq_false_iff_not, hx, hxA, ha]
 repeat' first | apply And.intro | refine hk _ ?_ | intro hg | ((first | refine CallK.intro (iho a (by omega) _ ho) ?_ | refine CallK.intro (iho b (by omega) _ hwa) ?_); simp -dsimp (maxSteps := 2000000) [go_sem, -decide_eq_true_eq, -decide_eq_false_iff_not, hx, hxA, ha]) | omega | exact True.intro
 all_goals clear hk k
 refine AW.seq ?_
 refine rg [0,1,2,30] ?_
 intro k hk; simp -dsimp (maxSteps := 2000000) [go_sem, -decide_eq_true_eq, -decide_eq_false_iff_not, hx, hxA]
 repeat' first | apply And.intro | refine hk _ ?_ | intro hg | (refine CallK.intro (dc_spec_l3Two _) ?_; simp -dsimp (maxSteps := 2000000) [go_sem, -decide_eq_true_eq, -decide_eq_false_iff_not, hx, hxA]) | omega | exact True.intro
 all_goals clear hk k
 refine AW.cond rfl ?_ ?_
 ·intro hc; try simp at hc
  all_goals try (exfalso; first | omega | (have hk9 := inR_iff.1 hc; omega); done)
  all_goals (
 have hk2 : isTwoB x.kind = true := by simpa using hc
 have hr := hq.2.1 hk2
 have hk3 := inR_iff.1 hk2
 obtain ⟨b, hb⟩ : ∃ b : Nat, x.right = b := ⟨_, (Int.toNat_of_nonneg hr.2.2.1).symm⟩
 have hrb : x.right.toNat = b := by omega
 refine AW.regN tiOk (fun i => if i = 7 then [2] else []) [1,2] (fun _ h => h) ?_
 intro k hk; simp -dsimp (maxSteps := 2000000) [go_sem, -decide_eq_true_eq, -decide_eq_false_iff_not, hx, hxA, hb]
 repeat' first | apply And.intro | refine hk _ ?_ | intro hg | ((first | refine CallK.intro (iho a (by omega) _ ho) ?_ | refine CallK.intro (iho b (by omega) _ hwa) ?_); simp -dsimp (maxSteps := 2000000) [go_sem, -decide_eq_true_eq, -decide_eq_false_iff_not, hx, hxA, hb]) | omega | exact True.intro
 all_goals clear hk k
 try (have hwb := wkF_len (e := e) (i := b) hwa (by omega))
 refine rg [6] ?_
 intro k hk; simp -dsimp [go_sem, -decide_eq_true_eq, -decide_eq_false_iff_not, hx, hxA]
 repeat' first | apply And.intro | refine hk _ ?_ | intro hg | omega | exact True.intro
 all_goals clear hk k
 refine rt ?_
 rw [wkF_eq hP hi]; (try (first | rw [if_neg (show ¬ 16 < out.length by omega)] | rw [if_pos (show 16 < out.length by omega)])); simp [go_sem, Try.results86, *] <;> first | (intro h9; omega) | (simp_all; done) | omega | grind)
 ·intro hc; try simp at hc
  all_goals try (exfalso; first | omega | (have hk9 := inR_iff.1 hc; omega); done)
  all_goals (
 refine AW.skipN (fun _ h => h) ?_
 try (have hwb := wkF_len (e := e) (i := b) hwa (by omega))
 refine rg [6] ?_
 intro k hk; simp -dsimp [go_sem, -decide_eq_true_eq, -decide_eq_false_iff_not, hx, hxA]
 repeat' first | apply And.intro | refine hk _ ?_ | intro hg | omega | exact True.intro
 all_goals clear hk k
 refine rt ?_
 rw [wkF_eq hP hi]; (try (first | rw [if_neg (show ¬ 16 < out.length by omega)] | rw [if_pos (show 16 < out.length by omega)])); simp [go_sem, Try.results86, *] <;> first | (intro h9; omega) | (simp_all; done) | omega | grind))
 ·intro hc; try simp at hc
  all_goals try (exfalso; first | omega | (have hk9 := inR_iff.1 hc; omega); done)
  all_goals (
 refine AW.skipN (fun _ h => h) ?_
 refine AW.seq ?_
 refine rg [0,1,2,30] ?_
 intro k hk; simp -dsimp (maxSteps := 2000000) [go_sem, -decide_eq_true_eq, -decide_eq_false_iff_not, hx, hxA]
 repeat' first | apply And.intro | refine hk _ ?_ | intro hg | (refine CallK.intro (dc_spec_l3Two _) ?_; simp -dsimp (maxSteps := 2000000) [go_sem, -decide_eq_true_eq, -decide_eq_false_iff_not, hx, hxA]) | omega | exact True.intro
 all_goals clear hk k
 refine AW.cond rfl ?_ ?_
 ·intro hc; try simp at hc
  all_goals try (exfalso; first | omega | (have hk9 := inR_iff.1 hc; omega); done)
  all_goals (
 have hk2 : isTwoB x.kind = true := by simpa using hc
 have hr := hq.2.1 hk2
 have hk3 := inR_iff.1 hk2
 obtain ⟨b, hb⟩ : ∃ b : Nat, x.right = b := ⟨_, (Int.toNat_of_nonneg hr.2.2.1).symm⟩
 have hrb : x.right.toNat = b := by omega
 refine AW.regN tiOk (fun i => if i = 7 then [2] else []) [1,2] (fun _ h => h) ?_
 intro k hk; simp -dsimp (maxSteps := 2000000) [go_sem, -decide_eq_true_eq, -decide_eq_false_iff_not, hx, hxA, hb]
 repeat' first | apply And.intro | refine hk _ ?_ | intro hg | ((first | refine CallK.intro (iho a (by omega) _ ho) ?_ | refine CallK.intro (iho b (by omega) _ hwa) ?_); simp -dsimp (maxSteps := 2000000) [go_sem, -decide_eq_true_eq, -decide_eq_false_iff_not, hx, hxA, hb]) | omega | exact True.intro
 all_goals clear hk k
 try (have hwb := wkF_len (e := e) (i := b) hwa (by omega))
 refine rg [6] ?_
 intro k hk; simp -dsimp [go_sem, -decide_eq_true_eq, -decide_eq_false_iff_not, hx, hxA]
 repeat' first | apply And.intro | refine hk _ ?_ | intro hg | omega | exact True.intro
 all_goals clear hk k
 refine rt ?_
 rw [wkF_eq hP hi]; (try (first | rw [if_neg (show ¬ 16 < out.length by omega)] | rw [if_pos (show 16 < out.length by omega)])); simp [go_sem, Try.results86, *] <;> first | (intro h9; omega) | (simp_all; done) | omega | grind)
 ·intro hc; try simp at hc
  all_goals try (exfalso; first | omega | (have hk9 := inR_iff.1 hc; omega); done)
  all_goals (
 refine AW.skipN (fun _ h => h) ?_
 try (have hwb := wkF_len (e := e) (i := b) hwa (by omega))
 refine rg [6] ?_
 intro k hk; simp -dsimp [go_sem, -decide_eq_true_eq, -decide_eq_false_iff_not, hx, hxA]
 repeat' first | apply And.intro | refine hk _ ?_ | intro hg | omega | exact True.intro
 all_goals clear hk k
 refine rt ?_
 rw [wkF_eq hP hi]; (try (first | rw [if_neg (show ¬ 16 < out.length by omega)] | rw [if_pos (show 16 < out.length by omega)])); simp [go_sem, Try.results86, *] <;> first | (intro h9; omega) | (simp_all; done) | omega | grind)))
theorem dc_spec_l3Walk (e : List TNode) (hP : PartsOk e e.length) (h16 : e.length ≤ 16) : ∀ (m i : Nat), i ≤ m → i < e.length → DC Try.prog 86 [.isl 4 (e.map TNode.ro), .int .i64 ((i : Nat) : Int), .nils] (.osl 1 ((wkF e i []).map N1)) [] ∧ ∀ out : List Nat, out.length ≤ 40 → DC Try.prog 86 [.isl 4 (e.map TNode.ro), .int .i64 ((i : Nat) : Int), .osl 1 (out.map N1)] (.osl 1 ((wkF e i out).map N1)) [] := by
  intro m
  induction m with
  | zero =>
    intro i hm hi
    have h1 : ∀ j : Nat, j < i → False := fun j hj => by omega
    exact ⟨dc_spec_l3Walk_n e hP h16 i hi (fun j hj => (h1 j hj).elim) (fun j hj => (h1 j hj).elim), fun out ho => dc_spec_l3Walk_o e hP h16 i hi out ho (fun j hj => (h1 j hj).elim) (fun j hj => (h1 j hj).elim)⟩
  | succ m ih =>
    intro i hm hi
    have h1 : ∀ j : Nat, j < i → _ := fun j hj => ih j (by omega) (by omega)
    exact ⟨dc_spec_l3Walk_n e hP h16 i hi (fun j hj => (h1 j hj).1) (fun j hj => (h1 j hj).2), fun out ho => dc_spec_l3Walk_o e hP h16 i hi out ho (fun j hj => (h1 j hj).1) (fun j hj => (h1 j hj).2)⟩
theorem dc_spec_l3Walk_nil (e : List TNode) (hP : PartsOk e e.length) (h16 : e.length ≤ 16) (i : Nat) (hi : i < e.length) : DC Try.prog 86 [.isl 4 (e.map TNode.ro), .int .i64 ((i : Nat) : Int), .nils] (.osl 1 ((wkF e i []).map N1)) [] := (dc_spec_l3Walk e hP h16 i i (Nat.le_refl _) hi).1
end Go.AM
namespace Go.AM
open Go.Proofs
theorem dc_spec_l3Fault (e : List TNode) (he : e.length ≤ 9223372036854775807) : DC Try.prog 75 [.isl 4 (e.map TNode.ro)] (.int .i64 (exprF e)) [] := by
 refine DC.intro tiOk Try.func75 rfl rfl rfl rfl rfl rfl rfl rfl [] ?_
 refine rgA [0] ?_
 refine AW.seq ?_
 refine AW.cut ⟨51, [(0, .isl 4 (e.map TNode.ro)), (14, .bool (decide (e.length < 1 ∨ 16 < e.length)))], []⟩ ?_ ?_
 ·skip
  refine rgK ?_
  intro k hk; simp +contextual -dsimp (maxSteps := 2000000) [go_sem, -decide_eq_true_eq, -decide_eq_false_iff_not]
  repeat' first | apply And.intro | refine hk _ ?_ | (intro hg; try simp only [decide_eq_true_eq, decide_eq_false_iff_not] at hg) | omega | exact True.intro
  all_goals clear hk k
  all_goals (show St.Less _ _; exact Less.of rfl (by simp [go_sem, -Nat.lt_one_iff, -List.length_eq_zero_iff] <;> first | omega | grind) (by simp [go_sem]))
 ·skip
  refine AW.cond rfl ?_ ?_
  ·intro hc; try simp at hc
   all_goals (
 refine rgA [2] ?_
 refine rt ?_
 first | (rw [exprF_len' (by simpa using hc)]; simp [go_sem, Try.results75]; done) | (rw [exprF_node hR hlt hall (by rw [hxn]; assumption), hxn]; simp [go_sem, Try.results75]; done) | (rw [exprF_wk hR hN, if_neg (wk_ne_len (by first | assumption | omega))]; simp [go_sem, Try.results75]; done) | (rw [exprF_wk hR hN, if_neg (wk_ne_at hy (by first | assumption | omega))]; simp [go_sem, Try.results75]; done) | (rw [exprF_wk hR hN, if_pos (wk_eq (by first | assumption | omega) (fun k hk => hal2 k (by omega)))]; simp [go_sem, Try.results75]))
  ·intro hc; try simp at hc
   all_goals (
 refine AW.skipN (fun _ h => h) ?_
 refine AW.seq ?_
 have hlen : 1 ≤ e.length ∧ e.length ≤ 16 := by obtain ⟨h8, h9⟩ := hc; have : e.length ≠ 0 := (fun h => h8 (List.length_eq_zero_iff.1 h)); omega
 have hR : inR e.length 1 16 = true := inR_iff.2 (by omega)
 refine rgA [0,3] ?_
 refine AW.block ?_
 refine AW.loopI (fun i : Nat => ⟨51, [(0, .isl 4 (e.map TNode.ro)), (3, .int .i64 i)], []⟩) (fun i => i ≤ e.length ∧ ∀ k, k < i → nodeAt e k = 0) (fun i => e.length - i) (0) (by simp) (Less.of rfl (by simp [go_sem]) (by simp [go_sem])) ?_
 rintro i ⟨hi, hall⟩
 refine AW.seq ?_
 refine rgA [0,3,18] ?_
 refine AW.cond rfl ?_ ?_
 ·intro hc; try simp at hc
  all_goals (
 have hlt : i < e.length := by assumption
 obtain ⟨x, hx⟩ := at_some hlt
 have hxn := nodeAt_at hx
 refine AW.skipN (fun _ h => h) ?_
 refine AW.seq ?_
 refine AW.block ?_
 refine rg [0,3,4] ?_
 intro k hk; simp -dsimp (maxSteps := 2000000) [go_sem, -decide_eq_true_eq, -decide_eq_false_iff_not, hx]
 repeat' first | apply And.intro | refine hk _ ?_ | intro hg | (refine CallK.intro (dc_spec_l3Node x i (by omega)) ?_; simp -dsimp (maxSteps := 2000000) [go_sem, -decide_eq_true_eq, -decide_eq_false_iff_not, hx]) | omega | exact True.intro
 all_goals clear hk k
 refine rg [0,3,4,27] ?_
 intro k hk; simp -dsimp [go_sem, -decide_eq_true_eq, -decide_eq_false_iff_not, hx]
 repeat' first | apply And.intro | refine hk _ ?_ | intro hg | omega | exact True.intro
 all_goals clear hk k
 refine AW.cond rfl ?_ ?_
 ·intro hc; try simp at hc
  all_goals (
 refine rg [2] ?_
 intro k hk; simp -dsimp [go_sem, -decide_eq_true_eq, -decide_eq_false_iff_not, hx]
 repeat' first | apply And.intro | refine hk _ ?_ | intro hg | omega | exact True.intro
 all_goals clear hk k
 refine rt ?_
 first | (rw [exprF_len' (by simpa using hc)]; simp [go_sem, Try.results75]; done) | (rw [exprF_node hR hlt hall (by rw [hxn]; assumption), hxn]; simp [go_sem, Try.results75]; done) | (rw [exprF_wk hR hN, if_neg (wk_ne_len (by first | assumption | omega))]; simp [go_sem, Try.results75]; done) | (rw [exprF_wk hR hN, if_neg (wk_ne_at hy (by first | assumption | omega))]; simp [go_sem, Try.results75]; done) | (rw [exprF_wk hR hN, if_pos (wk_eq (by first | assumption | omega) (fun k hk => hal2 k (by omega)))]; simp [go_sem, Try.results75]))
 ·intro hc; try simp at hc
  all_goals (
 refine AW.skipN (fun _ h => h) ?_
 refine rgK ?_
 intro k hk; simp -dsimp [go_sem, -decide_eq_true_eq, -decide_eq_false_iff_not, hx]
 repeat' first | apply And.intro | refine hk _ ?_ | intro hg | omega | exact True.intro
 all_goals clear hk k
 show ∃ _, _
 have hw := wrapi hlt (by omega)
 refine ⟨i + 1, ⟨by omega, upto hall (by rw [hxn]; first | assumption | simpa using hc)⟩, by omega, Less.of rfl (by simp [go_sem, hw]) (by simp [go_sem])⟩))
 ·intro hc; try simp at hc
  all_goals (
 refine AW.exitN (fun _ h => h) ?_
 have hN : ∀ k, k < e.length → nodeAt e k = 0 := fun k hk => hall k (by omega)
 have hP : PartsOk e e.length := hN
 have hwl : IntKind.wrap .i64 ((e.length : Int) - 1) = ((e.length - 1 : Nat) : Int) := by rw [wrap64 (by omega) (by omega)]; omega
 have hwk := wkF_len (e := e) (i := e.length - 1) (out := []) (by simp) (by omega)
 refine rg [0,5] ?_
 intro k hk; simp -dsimp (maxSteps := 2000000) [go_sem, -decide_eq_true_eq, -decide_eq_false_iff_not, hwl]
 repeat' first | apply And.intro | refine hk _ ?_ | intro hg | (refine CallK.intro (dc_spec_l3Walk_nil e hP (by omega) (e.length - 1) (by omega)) ?_; simp -dsimp (maxSteps := 2000000) [go_sem, -decide_eq_true_eq, -decide_eq_false_iff_not, hwl]) | omega | exact True.intro
 all_goals clear hk k
 refine AW.seq ?_
 refine rgA [5,38] ?_
 refine AW.cond rfl ?_ ?_
 ·intro hc; try simp at hc
  all_goals (
 refine rgA [2] ?_
 refine rt ?_
 first | (rw [exprF_len' (by simpa using hc)]; simp [go_sem, Try.results75]; done) | (rw [exprF_node hR hlt hall (by rw [hxn]; assumption), hxn]; simp [go_sem, Try.results75]; done) | (rw [exprF_wk hR hN, if_neg (wk_ne_len (by first | assumption | omega))]; simp [go_sem, Try.results75]; done) | (rw [exprF_wk hR hN, if_neg (wk_ne_at hy (by first | assumption | omega))]; simp [go_sem, Try.results75]; done) | (rw [exprF_wk hR hN, if_pos (wk_eq (by first | assumption | omega) (fun k hk => hal2 k (by omega)))]; simp [go_sem, Try.results75]))
 ·intro hc; try simp at hc
  all_goals (
 refine AW.skipN (fun _ h => h) ?_
 refine AW.seq ?_
 refine rgA [5,6] ?_
 refine AW.block ?_
 refine AW.loopI (fun i : Nat => ⟨51, [(5, .sl 1033 1 0 (wkF e (e.length - 1) []).length), (6, .int .i64 i)], [(1033, some ⟨1, (wkF e (e.length - 1) []).map N1⟩)]⟩) (fun i => i ≤ (wkF e (e.length - 1) []).length ∧ ∀ k, k < i → (wkF e (e.length - 1) [])[k]? = some k) (fun i => (wkF e (e.length - 1) []).length - i) (0) (by simp) (Less.of rfl (by simp [go_sem]) (by simp [go_sem])) ?_
 rintro i ⟨hi2, hal2⟩
 refine AW.seq ?_
 refine rgA [5,6,42] ?_
 refine AW.cond rfl ?_ ?_
 ·intro hc; try simp at hc
  all_goals (
 have hlt2 : i < (wkF e (e.length - 1) []).length := by assumption
 obtain ⟨y, hy⟩ := at_some hlt2
 refine AW.skipN (fun _ h => h) ?_
 refine AW.seq ?_
 refine AW.block ?_
 refine rg [5,6,50] ?_
 intro k hk; simp -dsimp [go_sem, -decide_eq_true_eq, -decide_eq_false_iff_not, hy]
 repeat' first | apply And.intro | refine hk _ ?_ | intro hg | omega | exact True.intro
 all_goals clear hk k
 refine AW.cond rfl ?_ ?_
 ·intro hc; try simp at hc
  all_goals (
 refine rg [2] ?_
 intro k hk; simp -dsimp [go_sem, -decide_eq_true_eq, -decide_eq_false_iff_not, hy]
 repeat' first | apply And.intro | refine hk _ ?_ | intro hg | omega | exact True.intro
 all_goals clear hk k
 refine rt ?_
 first | (rw [exprF_len' (by simpa using hc)]; simp [go_sem, Try.results75]; done) | (rw [exprF_node hR hlt hall (by rw [hxn]; assumption), hxn]; simp [go_sem, Try.results75]; done) | (rw [exprF_wk hR hN, if_neg (wk_ne_len (by first | assumption | omega))]; simp [go_sem, Try.results75]; done) | (rw [exprF_wk hR hN, if_neg (wk_ne_at hy (by first | assumption | omega))]; simp [go_sem, Try.results75]; done) | (rw [exprF_wk hR hN, if_pos (wk_eq (by first | assumption | omega) (fun k hk => hal2 k (by omega)))]; simp [go_sem, Try.results75]))
 ·intro hc; try simp at hc
  all_goals (
 refine AW.skipN (fun _ h => h) ?_
 refine rgK ?_
 intro k hk; simp -dsimp [go_sem, -decide_eq_true_eq, -decide_eq_false_iff_not, hy]
 repeat' first | apply And.intro | refine hk _ ?_ | intro hg | omega | exact True.intro
 all_goals clear hk k
 show ∃ _, _
 have hw := wrapi hlt2 (by omega)
 refine ⟨i + 1, ⟨by omega, upto_at hal2 hy (by first | assumption | omega)⟩, by omega, Less.of rfl (by simp [go_sem, hw]) (by simp [go_sem])⟩))
 ·intro hc; try simp at hc
  all_goals (
 refine AW.exitN (fun _ h => h) ?_
 refine rgA [2] ?_
 refine rt ?_
 first | (rw [exprF_len' (by simpa using hc)]; simp [go_sem, Try.results75]; done) | (rw [exprF_node hR hlt hall (by rw [hxn]; assumption), hxn]; simp [go_sem, Try.results75]; done) | (rw [exprF_wk hR hN, if_neg (wk_ne_len (by first | assumption | omega))]; simp [go_sem, Try.results75]; done) | (rw [exprF_wk hR hN, if_neg (wk_ne_at hy (by first | assumption | omega))]; simp [go_sem, Try.results75]; done) | (rw [exprF_wk hR hN, if_pos (wk_eq (by first | assumption | omega) (fun k hk => hal2 k (by omega)))]; simp [go_sem, Try.results75])))))
end Go.AM
namespace Go.AM
open Go.Proofs
theorem dc_spec_l3Types_b (e : List TNode) (hP : PartsOk e e.length) (hlen : e.length ≤ 16) (hub : typU e e.length = true) : DC Try.prog 87 [.isl 4 (e.map TNode.ro)] (.tup [.nils, .bool false]) [] := by
 refine DC.intro tiOk Try.func87 rfl rfl rfl rfl rfl rfl rfl rfl [1001] ?_
 refine rg [0] ?_
 intro k hk; simp -dsimp [go_sem, -decide_eq_true_eq, -decide_eq_false_iff_not]
 repeat' first | apply And.intro | refine hk _ ?_ | intro hg | omega | exact True.intro | (have h9 := hr (by assumption); omega) | fail
 all_goals clear hk k
 refine rg [0,4] ?_
 intro k hk; simp -dsimp [go_sem, -decide_eq_true_eq, -decide_eq_false_iff_not]
 repeat' first | apply And.intro | refine hk _ ?_ | intro hg | omega | exact True.intro | (have h9 := hr (by assumption); omega) | fail
 all_goals clear hk k
 refine AW.seq ?_
 refine rg [0,4,5] ?_
 intro k hk; simp -dsimp [go_sem, -decide_eq_true_eq, -decide_eq_false_iff_not]
 repeat' first | apply And.intro | refine hk _ ?_ | intro hg | omega | exact True.intro | (have h9 := hr (by assumption); omega) | fail
 all_goals clear hk k
 refine AW.block ?_
 refine AW.rename (nd := ?nd_1) 9 60 ?h1_1 ?h2_1 ?h4_1 ?kk_1
 (case h1_1 => exact rfl)
 (case h2_1 => simp [go_sem])
 (case h4_1 => simp [go_sem])
 refine AW.loopI (fun i : Nat => ⟨62, [(0, .isl 4 (e.map TNode.ro)), (4, .sl 60 1 0 i), (5, .int .i64 i)], [(60, some ⟨1, (typesL e i).map I1⟩)]⟩) (fun i => i ≤ e.length ∧ typU e i = false) (fun i => e.length - i) (0) (by simp [typU]) (Less.of rfl (by simp [go_sem]) (by simp [go_sem, typesL])) ?_
 rintro i ⟨hi, hu⟩
 refine AW.rename (nd := ?nd_2) 60 9 ?h1_2 ?h2_2 ?h4_2 ?kk_2
 (case h1_2 => exact rfl)
 (case h2_2 => simp [go_sem])
 (case h4_2 => simp [go_sem])
 refine AW.seq ?_
 refine rg [0,4,5,13] ?_
 intro k hk; simp -dsimp [go_sem, -decide_eq_true_eq, -decide_eq_false_iff_not]
 repeat' first | apply And.intro | refine hk _ ?_ | intro hg | omega | exact True.intro | (have h9 := hr (by assumption); omega) | fail
 all_goals clear hk k
 refine AW.cond rfl ?_ ?_
 ·intro hc; try simp at hc
  all_goals try (exfalso; omega; done)
  all_goals (
 have hlt : i < e.length := by assumption
 obtain ⟨x, hx⟩ := at_some hlt
 have hxA := nA_at hx
 have hpx := hP i hlt
 rw [nodeAt_at hx] at hpx
 have hq := nodeF_parts hpx
 have hl : 2 < x.kind → 0 ≤ x.left ∧ x.left.toNat < i := left_of hpx
 have hr := hq.2.1
 have htl := typesL_len e i
 have htk : List.take i ((typesL e i).map I1) = (typesL e i).map I1 := List.take_of_length_le (by simp [htl])
 have hsA : decide (2 < x.kind) = true → (typesL e i)[x.left.toNat]? = some (ownT (nA e x.left.toNat).kind) := fun h => typesL_at (hl (by simpa using h)).2
 have hsB : isTwoB x.kind = true → (typesL e i)[x.right.toNat]? = some (ownT (nA e x.right.toNat).kind) := fun h => typesL_at (hr h).2.2.2
 refine AW.skipN (fun _ h => h) ?_
 refine AW.seq ?_
 refine AW.block ?_
 refine rg [0,4,5,6] ?_
 intro k hk; simp -dsimp [go_sem, -decide_eq_true_eq, -decide_eq_false_iff_not, hx, htl, hsA, hsB]
 repeat' first | apply And.intro | refine hk _ ?_ | intro hg | omega | exact True.intro | (have h9 := hr (by assumption); omega) | fail
 all_goals clear hk k
 refine rg [0,4,5,6,7] ?_
 intro k hk; simp -dsimp [go_sem, -decide_eq_true_eq, -decide_eq_false_iff_not, hx, htl, hsA, hsB]
 repeat' first | apply And.intro | refine hk _ ?_ | intro hg | omega | exact True.intro | (have h9 := hr (by assumption); omega) | fail
 all_goals clear hk k
 refine rg [0,4,5,6,7,8] ?_
 intro k hk; simp -dsimp [go_sem, -decide_eq_true_eq, -decide_eq_false_iff_not, hx, htl, hsA, hsB]
 repeat' first | apply And.intro | refine hk _ ?_ | intro hg | omega | exact True.intro | (have h9 := hr (by assumption); omega) | fail
 all_goals clear hk k
 refine AW.seq ?_
 refine AW.cut ⟨62, [(0, .isl 4 (e.map TNode.ro)), (4, .sl 9 1 0 i), (5, .int .i64 i), (6, .ptr 6 4 0 0), (7, .int .i64 1), (8, .int .i64 1), (27, .bool (decide (x.kind = 9 ∨ x.kind = 10)))], [(6, some ⟨4, [x.ro]⟩), (9, some ⟨1, (typesL e i).map I1⟩)]⟩ ?_ ?_
 ·skip
  refine rgK ?_
  intro k hk; simp +contextual -dsimp (maxSteps := 2000000) [go_sem, -decide_eq_true_eq, -decide_eq_false_iff_not, hx, htl, hsA, hsB]
  repeat' first | apply And.intro | refine hk _ ?_ | (intro hg; try simp only [decide_eq_true_eq, decide_eq_false_iff_not] at hg) | omega | exact True.intro | (have h9 := hr (by assumption); omega) | fail
  all_goals clear hk k
  all_goals (show St.Less _ _; exact Less.of rfl (by simp [go_sem] <;> first | omega | grind) (by simp [go_sem]))
 ·skip
  refine AW.cond rfl ?_ ?_
  ·intro hc; try simp at hc
   all_goals try (exfalso; omega; done)
   all_goals (
 have hk9 : x.kind = 9 ∨ x.kind = 10 := by simpa using hc
 refine rgN [0,4,5,6,7,8] (fun _ h => h) ?_
 intro k hk; simp -dsimp [go_sem, -decide_eq_true_eq, -decide_eq_false_iff_not, hx, htl, hsA, hsB]
 repeat' first | apply And.intro | refine hk _ ?_ | intro hg | omega | exact True.intro | (have h9 := hr (by assumption); omega) | fail
 all_goals clear hk k
 refine AW.seq ?_
 refine rg [0,4,5,6,7,8,30] ?_
 intro k hk; simp -dsimp [go_sem, -decide_eq_true_eq, -decide_eq_false_iff_not, hx, htl, hsA, hsB]
 repeat' first | apply And.intro | refine hk _ ?_ | intro hg | omega | exact True.intro | (have h9 := hr (by assumption); omega) | fail
 all_goals clear hk k
 refine AW.cond rfl ?_ ?_
 ·intro hc; try simp at hc
  all_goals try (exfalso; omega; done)
  all_goals (
 refine rgN [0,4,5,6,7,8] (fun _ h => h) ?_
 intro k hk; simp -dsimp [go_sem, -decide_eq_true_eq, -decide_eq_false_iff_not, hx, htl, hsA, hsB]
 repeat' first | apply And.intro | refine hk _ ?_ | intro hg | omega | exact True.intro | (have h9 := hr (by assumption); omega) | fail
 all_goals clear hk k
 refine AW.seq ?_
 have hpt : partT x.kind = _ := rfl
 refine AW.cut ⟨62, [(0, .isl 4 (e.map TNode.ro)), (4, .sl 9 1 0 i), (5, .int .i64 i), (8, .int .i64 (ownT x.kind)), (56, .bool (typBad e i))], [(9, some ⟨1, (typesL e i).map I1⟩)]⟩ ?_ ?_
 ·skip
  refine rgK ?_
  intro k hk; simp +contextual -dsimp (maxSteps := 2000000) [go_sem, -decide_eq_true_eq, -decide_eq_false_iff_not, hx, htl, hsA, hsB]
  repeat' first | apply And.intro | refine hk _ ?_ | (intro hg; try simp only [decide_eq_true_eq, decide_eq_false_iff_not] at hg) | (refine CallK.intro (dc_spec_l3Two _) ?_; simp +contextual -dsimp (maxSteps := 2000000) [go_sem, -decide_eq_true_eq, -decide_eq_false_iff_not, hx, htl, hsA, hsB]) | omega | exact True.intro | (have h9 := hr (by assumption); omega) | fail
  all_goals clear hk k
  all_goals (show St.Less _ _; exact Less.of rfl (by simp [go_sem, typBad, hxA] <;> grind [ownT, partT]) (by simp [go_sem]))
 ·skip
  refine AW.cond rfl ?_ ?_
  ·intro hc; try simp at hc
   all_goals try (exfalso; omega; done)
   all_goals (
 refine rg [2,3] ?_
 intro k hk; simp -dsimp [go_sem, -decide_eq_true_eq, -decide_eq_false_iff_not, hx, htl, hsA, hsB]
 repeat' first | apply And.intro | refine hk _ ?_ | intro hg | omega | exact True.intro | (have h9 := hr (by assumption); omega) | fail
 all_goals clear hk k
 refine rt ?_
 first | (simp [go_sem, Try.results87]; done) | (exfalso; have hie : i = e.length := (by omega); rw [hie, hub] at hu; cases hu))
  ·intro hc; try simp at hc
   all_goals try (exfalso; omega; done)
   all_goals (
 refine AW.skipN (fun _ h => h) ?_
 refine rgN [0,4,5] (fun _ h => h) ?_
 intro k hk; simp -dsimp [go_sem, -decide_eq_true_eq, -decide_eq_false_iff_not, hx, htl, hsA, hsB]
 repeat' first | apply And.intro | refine hk _ ?_ | intro hg | omega | exact True.intro | (have h9 := hr (by assumption); omega) | fail
 all_goals clear hk k
 refine rgK ?_
 intro k hk; simp -dsimp [go_sem, -decide_eq_true_eq, -decide_eq_false_iff_not, hx, htl, hsA, hsB]
 repeat' first | apply And.intro | refine hk _ ?_ | intro hg | omega | exact True.intro | (have h9 := hr (by assumption); omega) | fail
 all_goals clear hk k
 show ∃ _, _
 have hw := wrapi hlt (by omega)
 have hub : typBad e i = false := by simpa using hc
 refine ⟨i + 1, ⟨by omega, typU_go hu hub⟩, by omega, Less.of rfl (by simp [go_sem, hw]) (by simp [go_sem, typesL_succ, hxA, htk] <;> (unfold ownT; first | omega | (split <;> omega)))⟩))
 ·intro hc; try simp at hc
  all_goals try (exfalso; omega; done)
  all_goals (
 refine AW.skipN (fun _ h => h) ?_
 refine AW.seq ?_
 have hpt : partT x.kind = _ := rfl
 refine AW.cut ⟨62, [(0, .isl 4 (e.map TNode.ro)), (4, .sl 9 1 0 i), (5, .int .i64 i), (8, .int .i64 (ownT x.kind)), (56, .bool (typBad e i))], [(9, some ⟨1, (typesL e i).map I1⟩)]⟩ ?_ ?_
 ·skip
  refine rgK ?_
  intro k hk; simp +contextual -dsimp (maxSteps := 2000000) [go_sem, -decide_eq_true_eq, -decide_eq_false_iff_not, hx, htl, hsA, hsB]
  repeat' first | apply And.intro | refine hk _ ?_ | (intro hg; try simp only [decide_eq_true_eq, decide_eq_false_iff_not] at hg) | (refine CallK.intro (dc_spec_l3Two _) ?_; simp +contextual -dsimp (maxSteps := 2000000) [go_sem, -decide_eq_true_eq, -decide_eq_false_iff_not, hx, htl, hsA, hsB]) | omega | exact True.intro | (have h9 := hr (by assumption); omega) | fail
  all_goals clear hk k
  all_goals (show St.Less _ _; exact Less.of rfl (by simp [go_sem, typBad, hxA] <;> grind [ownT, partT]) (by simp [go_sem]))
 ·skip
  refine AW.cond rfl ?_ ?_
  ·intro hc; try simp at hc
   all_goals try (exfalso; omega; done)
   all_goals (
 refine rg [2,3] ?_
 intro k hk; simp -dsimp [go_sem, -decide_eq_true_eq, -decide_eq_false_iff_not, hx, htl, hsA, hsB]
 repeat' first | apply And.intro | refine hk _ ?_ | intro hg | omega | exact True.intro | (have h9 := hr (by assumption); omega) | fail
 all_goals clear hk k
 refine rt ?_
 first | (simp [go_sem, Try.results87]; done) | (exfalso; have hie : i = e.length := (by omega); rw [hie, hub] at hu; cases hu))
  ·intro hc; try simp at hc
   all_goals try (exfalso; omega; done)
   all_goals (
 refine AW.skipN (fun _ h => h) ?_
 refine rgN [0,4,5] (fun _ h => h) ?_
 intro k hk; simp -dsimp [go_sem, -decide_eq_true_eq, -decide_eq_false_iff_not, hx, htl, hsA, hsB]
 repeat' first | apply And.intro | refine hk _ ?_ | intro hg | omega | exact True.intro | (have h9 := hr (by assumption); omega) | fail
 all_goals clear hk k
 refine rgK ?_
 intro k hk; simp -dsimp [go_sem, -decide_eq_true_eq, -decide_eq_false_iff_not, hx, htl, hsA, hsB]
 repeat' first | apply And.intro | refine hk _ ?_ | intro hg | omega | exact True.intro | (have h9 := hr (by assumption); omega) | fail
 all_goals clear hk k
 show ∃ _, _
 have hw := wrapi hlt (by omega)
 have hub : typBad e i = false := by simpa using hc
 refine ⟨i + 1, ⟨by omega, typU_go hu hub⟩, by omega, Less.of rfl (by simp [go_sem, hw]) (by simp [go_sem, typesL_succ, hxA, htk] <;> (unfold ownT; first | omega | (split <;> omega)))⟩)))
  ·intro hc; try simp at hc
   all_goals try (exfalso; omega; done)
   all_goals (
 refine AW.skipN (fun _ h => h) ?_
 refine AW.seq ?_
 refine rg [0,4,5,6,7,8,30] ?_
 intro k hk; simp -dsimp [go_sem, -decide_eq_true_eq, -decide_eq_false_iff_not, hx, htl, hsA, hsB]
 repeat' first | apply And.intro | refine hk _ ?_ | intro hg | omega | exact True.intro | (have h9 := hr (by assumption); omega) | fail
 all_goals clear hk k
 refine AW.cond rfl ?_ ?_
 ·intro hc; try simp at hc
  all_goals try (exfalso; omega; done)
  all_goals (
 refine rgN [0,4,5,6,7,8] (fun _ h => h) ?_
 intro k hk; simp -dsimp [go_sem, -decide_eq_true_eq, -decide_eq_false_iff_not, hx, htl, hsA, hsB]
 repeat' first | apply And.intro | refine hk _ ?_ | intro hg | omega | exact True.intro | (have h9 := hr (by assumption); omega) | fail
 all_goals clear hk k
 refine AW.seq ?_
 have hpt : partT x.kind = _ := rfl
 refine AW.cut ⟨62, [(0, .isl 4 (e.map TNode.ro)), (4, .sl 9 1 0 i), (5, .int .i64 i), (8, .int .i64 (ownT x.kind)), (56, .bool (typBad e i))], [(9, some ⟨1, (typesL e i).map I1⟩)]⟩ ?_ ?_
 ·skip
  refine rgK ?_
  intro k hk; simp +contextual -dsimp (maxSteps := 2000000) [go_sem, -decide_eq_true_eq, -decide_eq_false_iff_not, hx, htl, hsA, hsB]
  repeat' first | apply And.intro | refine hk _ ?_ | (intro hg; try simp only [decide_eq_true_eq, decide_eq_false_iff_not] at hg) | (refine CallK.intro (dc_spec_l3Two _) ?_; simp +contextual -dsimp (maxSteps := 2000000) [go_sem, -decide_eq_true_eq, -decide_eq_false_iff_not, hx, htl, hsA, hsB]) | omega | exact True.intro | (have h9 := hr (by assumption); omega) | fail
  all_goals clear hk k
  all_goals (show St.Less _ _; exact Less.of rfl (by simp [go_sem, typBad, hxA] <;> grind [ownT, partT]) (by simp [go_sem]))
 ·skip
  refine AW.cond rfl ?_ ?_
  ·intro hc; try simp at hc
   all_goals try (exfalso; omega; done)
   all_goals (
 refine rg [2,3] ?_
 intro k hk; simp -dsimp [go_sem, -decide_eq_true_eq, -decide_eq_false_iff_not, hx, htl, hsA, hsB]
 repeat' first | apply And.intro | refine hk _ ?_ | intro hg | omega | exact True.intro | (have h9 := hr (by assumption); omega) | fail
 all_goals clear hk k
 refine rt ?_
 first | (simp [go_sem, Try.results87]; done) | (exfalso; have hie : i = e.length := (by omega); rw [hie, hub] at hu; cases hu))
  ·intro hc; try simp at hc
   all_goals try (exfalso; omega; done)
   all_goals (
 refine AW.skipN (fun _ h => h) ?_
 refine rgN [0,4,5] (fun _ h => h) ?_
 intro k hk; simp -dsimp [go_sem, -decide_eq_true_eq, -decide_eq_false_iff_not, hx, htl, hsA, hsB]
 repeat' first | apply And.intro | refine hk _ ?_ | intro hg | omega | exact True.intro | (have h9 := hr (by assumption); omega) | fail
 all_goals clear hk k
 refine rgK ?_
 intro k hk; simp -dsimp [go_sem, -decide_eq_true_eq, -decide_eq_false_iff_not, hx, htl, hsA, hsB]
 repeat' first | apply And.intro | refine hk _ ?_ | intro hg | omega | exact True.intro | (have h9 := hr (by assumption); omega) | fail
 all_goals clear hk k
 show ∃ _, _
 have hw := wrapi hlt (by omega)
 have hub : typBad e i = false := by simpa using hc
 refine ⟨i + 1, ⟨by omega, typU_go hu hub⟩, by omega, Less.of rfl (by simp [go_sem, hw]) (by simp [go_sem, typesL_succ, hxA, htk] <;> (unfold ownT; first | omega | (split <;> omega)))⟩))
 ·intro hc; try simp at hc
  all_goals try (exfalso; omega; done)
  all_goals (
 refine AW.skipN (fun _ h => h) ?_
 refine AW.seq ?_
 have hpt : partT x.kind = _ := rfl
 refine AW.cut ⟨62, [(0, .isl 4 (e.map TNode.ro)), (4, .sl 9 1 0 i), (5, .int .i64 i), (8, .int .i64 (ownT x.kind)), (56, .bool (typBad e i))], [(9, some ⟨1, (typesL e i).map I1⟩)]⟩ ?_ ?_
 ·skip
  refine rgK ?_
  intro k hk; simp +contextual -dsimp (maxSteps := 2000000) [go_sem, -decide_eq_true_eq, -decide_eq_false_iff_not, hx, htl, hsA, hsB]
  repeat' first | apply And.intro | refine hk _ ?_ | (intro hg; try simp only [decide_eq_true_eq, decide_eq_false_iff_not] at hg) | (refine CallK.intro (dc_spec_l3Two _) ?_; simp +contextual -dsimp (maxSteps := 2000000) [go_sem, -decide_eq_true_eq, -decide_eq_false_iff_not, hx, htl, hsA, hsB]) | omega | exact True.intro | (have h9 := hr (by assumption); omega) | fail
  all_goals clear hk k
  all_goals (show St.Less _ _; exact Less.of rfl (by simp [go_sem, typBad, hxA] <;> grind [ownT, partT]) (by simp [go_sem]))
 ·skip
  refine AW.cond rfl ?_ ?_
  ·intro hc; try simp at hc
   all_goals try (exfalso; omega; done)
   all_goals (
 refine rg [2,3] ?_
 intro k hk; simp -dsimp [go_sem, -decide_eq_true_eq, -decide_eq_false_iff_not, hx, htl, hsA, hsB]
 repeat' first | apply And.intro | refine hk _ ?_ | intro hg | omega | exact True.intro | (have h9 := hr (by assumption); omega) | fail
 all_goals clear hk k
 refine rt ?_
 first | (simp [go_sem, Try.results87]; done) | (exfalso; have hie : i = e.length := (by omega); rw [hie, hub] at hu; cases hu))
  ·intro hc; try simp at hc
   all_goals try (exfalso; omega; done)
   all_goals (
 refine AW.skipN (fun _ h => h) ?_
 refine rgN [0,4,5] (fun _ h => h) ?_
 intro k hk; simp -dsimp [go_sem, -decide_eq_true_eq, -decide_eq_false_iff_not, hx, htl, hsA, hsB]
 repeat' first | apply And.intro | refine hk _ ?_ | intro hg | omega | exact True.intro | (have h9 := hr (by assumption); omega) | fail
 all_goals clear hk k
 refine rgK ?_
 intro k hk; simp -dsimp [go_sem, -decide_eq_true_eq, -decide_eq_false_iff_not, hx, htl, hsA, hsB]
 repeat' first | apply And.intro | refine hk _ ?_ | intro hg | omega | exact True.intro | (have h9 := hr (by assumption); omega) | fail
 all_goals clear hk k
 show ∃ _, _
 have hw := wrapi hlt (by omega)
 have hub : typBad e i = false := by simpa using hc
 refine ⟨i + 1, ⟨by omega, typU_go hu hub⟩, by omega, Less.of rfl (by simp [go_sem, hw]) (by simp [go_sem, typesL_succ, hxA, htk] <;> (unfold ownT; first | omega | (split <;> omega)))⟩))))
 ·intro hc; try simp at hc
  all_goals try (exfalso; omega; done)
  all_goals (
 refine AW.exitN (fun _ h => h) ?_
 refine rg [2,3] ?_
 intro k hk; simp -dsimp [go_sem, -decide_eq_true_eq, -decide_eq_false_iff_not]
 repeat' first | apply And.intro | refine hk _ ?_ | intro hg | omega | exact True.intro | (have h9 := hr (by assumption); omega) | fail
 all_goals clear hk k
 refine rt ?_
 first | (simp [go_sem, Try.results87]; done) | (exfalso; have hie : i = e.length := (by omega); rw [hie, hub] at hu; cases hu))
theorem dc_spec_l3Types_k (e : List TNode) (hP : PartsOk e e.length) (hlen : e.length ≤ 16) (huk : typU e e.length = false) : DC Try.prog 87 [.isl 4 (e.map TNode.ro)] (.tup [.osl 1 ((typesL e e.length).map I1), .bool true]) [] := by
 refine DC.intro tiOk Try.func87 rfl rfl rfl rfl rfl rfl rfl rfl [1001] ?_
 refine rg [0] ?_
 intro k hk; simp -dsimp [go_sem, -decide_eq_true_eq, -decide_eq_false_iff_not]
 repeat' first | apply And.intro | refine hk _ ?_ | intro hg | omega | exact True.intro | (have h9 := hr (by assumption); omega) | fail
 all_goals clear hk k
 refine rg [0,4] ?_
 intro k hk; simp -dsimp [go_sem, -decide_eq_true_eq, -decide_eq_false_iff_not]
 repeat' first | apply And.intro | refine hk _ ?_ | intro hg | omega | exact True.intro | (have h9 := hr (by assumption); omega) | fail
 all_goals clear hk k
 refine AW.seq ?_
 refine rg [0,4,5] ?_
 intro k hk; simp -dsimp [go_sem, -decide_eq_true_eq, -decide_eq_false_iff_not]
 repeat' first | apply And.intro | refine hk _ ?_ | intro hg | omega | exact True.intro | (have h9 := hr (by assumption); omega) | fail
 all_goals clear hk k
 refine AW.block ?_
 refine AW.rename (nd := ?nd_1) 9 60 ?h1_1 ?h2_1 ?h4_1 ?kk_1
 (case h1_1 => exact rfl)
 (case h2_1 => simp [go_sem])
 (case h4_1 => simp [go_sem])
 refine AW.loopI (fun i : Nat => ⟨62, [(0, .isl 4 (e.map TNode.ro)), (4, .sl 60 1 0 i), (5, .int .i64 i)], [(60, some ⟨1, (typesL e i).map I1⟩)]⟩) (fun i => i ≤ e.length ∧ typU e i = false) (fun i => e.length - i) (0) (by simp [typU]) (Less.of rfl (by simp [go_sem]) (by simp [go_sem, typesL])) ?_
 rintro i ⟨hi, hu⟩
 refine AW.rename (nd := ?nd_2) 60 9 ?h1_2 ?h2_2 ?h4_2 ?kk_2
 (case h1_2 => exact rfl)
 (case h2_2 => simp [go_sem])
 (case h4_2 => simp [go_sem])
 refine AW.seq ?_
 refine rg [0,4,5,13] ?_
 intro k hk; simp -dsimp [go_sem, -decide_eq_true_eq, -decide_eq_false_iff_not]
 repeat' first | apply And.intro | refine hk _ ?_ | intro hg | omega | exact True.intro | (have h9 := hr (by assumption); omega) | fail
 all_goals clear hk k
 refine AW.cond rfl ?_ ?_
 ·intro hc; try simp at hc
  all_goals try (exfalso; omega; done)
  all_goals (
 have hlt : i < e.length := by assumption
 obtain ⟨x, hx⟩ := at_some hlt
 have hxA := nA_at hx
 have hpx := hP i hlt
 rw [nodeAt_at hx] at hpx
 have hq := nodeF_parts hpx
 have hl : 2 < x.kind → 0 ≤ x.left ∧ x.left.toNat < i := left_of hpx
 have hr := hq.2.1
 have htl := typesL_len e i
 have htk : List.take i ((typesL e i).map I1) = (typesL e i).map I1 := List.take_of_length_le (by simp [htl])
 have hsA : decide (2 < x.kind) = true → (typesL e i)[x.left.toNat]? = some (ownT (nA e x.left.toNat).kind) := fun h => typesL_at (hl (by simpa using h)).2
 have hsB : isTwoB x.kind = true → (typesL e i)[x.right.toNat]? = some (ownT (nA e x.right.toNat).kind) := fun h => typesL_at (hr h).2.2.2
 refine AW.skipN (fun _ h => h) ?_
 refine AW.seq ?_
 refine AW.block ?_
 refine rg [0,4,5,6] ?_
 intro k hk; simp -dsimp [go_sem, -decide_eq_true_eq, -decide_eq_false_iff_not, hx, htl, hsA, hsB]
 repeat' first | apply And.intro | refine hk _ ?_ | intro hg | omega | exact True.intro | (have h9 := hr (by assumption); omega) | fail
 all_goals clear hk k
 refine rg [0,4,5,6,7] ?_
 intro k hk; simp -dsimp [go_sem, -decide_eq_true_eq, -decide_eq_false_iff_not, hx, htl, hsA, hsB]
 repeat' first | apply And.intro | refine hk _ ?_ | intro hg | omega | exact True.intro | (have h9 := hr (by assumption); omega) | fail
 all_goals clear hk k
 refine rg [0,4,5,6,7,8] ?_
 intro k hk; simp -dsimp [go_sem, -decide_eq_true_eq, -decide_eq_false_iff_not, hx, htl, hsA, hsB]
 repeat' first | apply And.intro | refine hk _ ?_ | intro hg | omega | exact True.intro | (have h9 := hr (by assumption); omega) | fail
 all_goals clear hk k
 refine AW.seq ?_
 refine AW.cut ⟨62, [(0, .isl 4 (e.map TNode.ro)), (4, .sl 9 1 0 i), (5, .int .i64 i), (6, .ptr 6 4 0 0), (7, .int .i64 1), (8, .int .i64 1), (27, .bool (decide (x.kind = 9 ∨ x.kind = 10)))], [(6, some ⟨4, [x.ro]⟩), (9, some ⟨1, (typesL e i).map I1⟩)]⟩ ?_ ?_
 ·skip
  refine rgK ?_
  intro k hk; simp +contextual -dsimp (maxSteps := 2000000) [go_sem, -decide_eq_true_eq, -decide_eq_false_iff_not, hx, htl, hsA, hsB]
  repeat' first | apply And.intro | refine hk _ ?_ | (intro hg; try simp only [decide_eq_true_eq, decide_eq_false_iff_not] at hg) | omega | exact True.intro | (have h9 := hr (by assumption); omega) | fail
  all_goals clear hk k
  all_goals (show St.Less _ _; exact Less.of rfl (by simp [go_sem] <;> first | omega | grind) (by simp [go_sem]))
 ·skip
  refine AW.cond rfl ?_ ?_
  ·intro hc; try simp at hc
   all_goals try (exfalso; omega; done)
   all_goals (
 have hk9 : x.kind = 9 ∨ x.kind = 10 := by simpa using hc
 refine rgN [0,4,5,6,7,8] (fun _ h => h) ?_
 intro k hk; simp -dsimp [go_sem, -decide_eq_true_eq, -decide_eq_false_iff_not, hx, htl, hsA, hsB]
 repeat' first | apply And.intro | refine hk _ ?_ | intro hg | omega | exact True.intro | (have h9 := hr (by assumption); omega) | fail
 all_goals clear hk k
 refine AW.seq ?_
 refine rg [0,4,5,6,7,8,30] ?_
 intro k hk; simp -dsimp [go_sem, -decide_eq_true_eq, -decide_eq_false_iff_not, hx, htl, hsA, hsB]
 repeat' first | apply And.intro | refine hk _ ?_ | intro hg | omega | exact True.intro | (have h9 := hr (by assumption); omega) | fail
 all_goals clear hk k
 refine AW.cond rfl ?_ ?_
 ·intro hc; try simp at hc
  all_goals try (exfalso; omega; done)
  all_goals (
 refine rgN [0,4,5,6,7,8] (fun _ h => h) ?_
 intro k hk; simp -dsimp [go_sem, -decide_eq_true_eq, -decide_eq_false_iff_not, hx, htl, hsA, hsB]
 repeat' first | apply And.intro | refine hk _ ?_ | intro hg | omega | exact True.intro | (have h9 := hr (by assumption); omega) | fail
 all_goals clear hk k
 refine AW.seq ?_
 have hpt : partT x.kind = _ := rfl
 refine AW.cut ⟨62, [(0, .isl 4 (e.map TNode.ro)), (4, .sl 9 1 0 i), (5, .int .i64 i), (8, .int .i64 (ownT x.kind)), (56, .bool (typBad e i))], [(9, some ⟨1, (typesL e i).map I1⟩)]⟩ ?_ ?_
 ·skip
  refine rgK ?_
  intro k hk; simp +contextual -dsimp (maxSteps := 2000000) [go_sem, -decide_eq_true_eq, -decide_eq_false_iff_not, hx, htl, hsA, hsB]
  repeat' first | apply And.intro | refine hk _ ?_ | (intro hg; try simp only [decide_eq_true_eq, decide_eq_false_iff_not] at hg) | (refine CallK.intro (dc_spec_l3Two _) ?_; simp +contextual -dsimp (maxSteps := 2000000) [go_sem, -decide_eq_true_eq, -decide_eq_false_iff_not, hx, htl, hsA, hsB]) | omega | exact True.intro | (have h9 := hr (by assumption); omega) | fail
  all_goals clear hk k
  all_goals (show St.Less _ _; exact Less.of rfl (by simp [go_sem, typBad, hxA] <;> grind [ownT, partT]) (by simp [go_sem]))
 ·skip
  refine AW.cond rfl ?_ ?_
  ·intro hc; try simp at hc
   all_goals try (exfalso; omega; done)
   all_goals (
 refine rg [2,3] ?_
 intro k hk; simp -dsimp [go_sem, -decide_eq_true_eq, -decide_eq_false_iff_not, hx, htl, hsA, hsB]
 repeat' first | apply And.intro | refine hk _ ?_ | intro hg | omega | exact True.intro | (have h9 := hr (by assumption); omega) | fail
 all_goals clear hk k
 refine rt ?_
 first | (exfalso; have h8 := typU_hit hlt (by first | assumption | simpa using hc); rw [huk] at h8; cases h8) | (have hie : i = e.length := (by omega); simp [go_sem, Try.results87, hie, typesL_len]))
  ·intro hc; try simp at hc
   all_goals try (exfalso; omega; done)
   all_goals (
 refine AW.skipN (fun _ h => h) ?_
 refine rgN [0,4,5] (fun _ h => h) ?_
 intro k hk; simp -dsimp [go_sem, -decide_eq_true_eq, -decide_eq_false_iff_not, hx, htl, hsA, hsB]
 repeat' first | apply And.intro | refine hk _ ?_ | intro hg | omega | exact True.intro | (have h9 := hr (by assumption); omega) | fail
 all_goals clear hk k
 refine rgK ?_
 intro k hk; simp -dsimp [go_sem, -decide_eq_true_eq, -decide_eq_false_iff_not, hx, htl, hsA, hsB]
 repeat' first | apply And.intro | refine hk _ ?_ | intro hg | omega | exact True.intro | (have h9 := hr (by assumption); omega) | fail
 all_goals clear hk k
 show ∃ _, _
 have hw := wrapi hlt (by omega)
 have hub : typBad e i = false := by simpa using hc
 refine ⟨i + 1, ⟨by omega, typU_go hu hub⟩, by omega, Less.of rfl (by simp [go_sem, hw]) (by simp [go_sem, typesL_succ, hxA, htk] <;> (unfold ownT; first | omega | (split <;> omega)))⟩))
 ·intro hc; try simp at hc
  all_goals try (exfalso; omega; done)
  all_goals (
 refine AW.skipN (fun _ h => h) ?_
 refine AW.seq ?_
 have hpt : partT x.kind = _ := rfl
 refine AW.cut ⟨62, [(0, .isl 4 (e.map TNode.ro)), (4, .sl 9 1 0 i), (5, .int .i64 i), (8, .int .i64 (ownT x.kind)), (56, .bool (typBad e i))], [(9, some ⟨1, (typesL e i).map I1⟩)]⟩ ?_ ?_
 ·skip
  refine rgK ?_
  intro k hk; simp +contextual -dsimp (maxSteps := 2000000) [go_sem, -decide_eq_true_eq, -decide_eq_false_iff_not, hx, htl, hsA, hsB]
  repeat' first | apply And.intro | refine hk _ ?_ | (intro hg; try simp only [decide_eq_true_eq, decide_eq_false_iff_not] at hg) | (refine CallK.intro (dc_spec_l3Two _) ?_; simp +contextual -dsimp (maxSteps := 2000000) [go_sem, -decide_eq_true_eq, -decide_eq_false_iff_not, hx, htl, hsA, hsB]) | omega | exact True.intro | (have h9 := hr (by assumption); omega) | fail
  all_goals clear hk k
  all_goals (show St.Less _ _; exact Less.of rfl (by simp [go_sem, typBad, hxA] <;> grind [ownT, partT]) (by simp [go_sem]))
 ·skip
  refine AW.cond rfl ?_ ?_
  ·intro hc; try simp at hc
   all_goals try (exfalso; omega; done)
   all_goals (
 refine rg [2,3] ?_
 intro k hk; simp -dsimp [go_sem, -decide_eq_true_eq, -decide_eq_false_iff_not, hx, htl, hsA, hsB]
 repeat' first | apply And.intro | refine hk _ ?_ | intro hg | omega | exact True.intro | (have h9 := hr (by assumption); omega) | fail
 all_goals clear hk k
 refine rt ?_
 first | (exfalso; have h8 := typU_hit hlt (by first | assumption | simpa using hc); rw [huk] at h8; cases h8) | (have hie : i = e.length := (by omega); simp [go_sem, Try.results87, hie, typesL_len]))
  ·intro hc; try simp at hc
   all_goals try (exfalso; omega; done)
   all_goals (
 refine AW.skipN (fun _ h => h) ?_
 refine rgN [0,4,5] (fun _ h => h) ?_
 intro k hk; simp -dsimp [go_sem, -decide_eq_true_eq, -decide_eq_false_iff_not, hx, htl, hsA, hsB]
 repeat' first | apply And.intro | refine hk _ ?_ | intro hg | omega | exact True.intro | (have h9 := hr (by assumption); omega) | fail
 all_goals clear hk k
 refine rgK ?_
 intro k hk; simp -dsimp [go_sem, -decide_eq_true_eq, -decide_eq_false_iff_not, hx, htl, hsA, hsB]
 repeat' first | apply And.intro | refine hk _ ?_ | intro hg | omega | exact True.intro | (have h9 := hr (by assumption); omega) | fail
 all_goals clear hk k
 show ∃ _, _
 have hw := wrapi hlt (by omega)
 have hub : typBad e i = false := by simpa using hc
 refine ⟨i + 1, ⟨by omega, typU_go hu hub⟩, by omega, Less.of rfl (by simp [go_sem, hw]) (by simp [go_sem, typesL_succ, hxA, htk] <;> (unfold ownT; first | omega | (split <;> omega)))⟩)))
  ·intro hc; try simp at hc
   all_goals try (exfalso; omega; done)
   all_goals (
 refine AW.skipN (fun _ h => h) ?_
 refine AW.seq ?_
 refine rg [0,4,5,6,7,8,30] ?_
 intro k hk; simp -dsimp [go_sem, -decide_eq_true_eq, -decide_eq_false_iff_not, hx, htl, hsA, hsB]
 repeat' first | apply And.intro | refine hk _ ?_ | intro hg | omega | exact True.intro | (have h9 := hr (by assumption); omega) | fail
 all_goals clear hk k
 refine AW.cond rfl ?_ ?_
 ·intro hc; try simp at hc
  all_goals try (exfalso; omega; done)
  all_goals (
 refine rgN [0,4,5,6,7,8] (fun _ h => h) ?_
 intro k hk; simp -dsimp [go_sem, -decide_eq_true_eq, -decide_eq_false_iff_not, hx, htl, hsA, hsB]
 repeat' first | apply And.intro | refine hk _ ?_ | intro hg | omega | exact True.intro | (have h9 := hr (by assumption); omega) | fail
 all_goals clear hk k
 refine AW.seq ?_
 have hpt : partT x.kind = _ := rfl
 refine AW.cut ⟨62, [(0, .isl 4 (e.map TNode.ro)), (4, .sl 9 1 0 i), (5, .int .i64 i), (8, .int .i64 (ownT x.kind)), (56, .bool (typBad e i))], [(9, some ⟨1, (typesL e i).map I1⟩)]⟩ ?_ ?_
 ·skip
  refine rgK ?_
  intro k hk; simp +contextual -dsimp (maxSteps := 2000000) [go_sem, -decide_eq_true_eq, -decide_eq_false_iff_not, hx, htl, hsA, hsB]
  repeat' first | apply And.intro | refine hk _ ?_ | (intro hg; try simp only [decide_eq_true_eq, decide_eq_false_iff_not] at hg) | (refine CallK.intro (dc_spec_l3Two _) ?_; simp +contextual -dsimp (maxSteps := 2000000) [go_sem, -decide_eq_true_eq, -decide_eq_false_iff_not, hx, htl, hsA, hsB]) | omega | exact True.intro | (have h9 := hr (by assumption); omega) | fail
  all_goals clear hk k
  all_goals (show St.Less _ _; exact Less.of rfl (by simp [go_sem, typBad, hxA] <;> grind [ownT, partT]) (by simp [go_sem]))
 ·skip
  refine AW.cond rfl ?_ ?_
  ·intro hc; try simp at hc
   all_goals try (exfalso; omega; done)
   all_goals (
 refine rg [2,3] ?_
 intro k hk; simp -dsimp [go_sem, -decide_eq_true_eq, -decide_eq_false_iff_not, hx, htl, hsA, hsB]
 repeat' first | apply And.intro | refine hk _ ?_ | intro hg | omega | exact True.intro | (have h9 := hr (by assumption); omega) | fail
 all_goals clear hk k
 refine rt ?_
 first | (exfalso; have h8 := typU_hit hlt (by first | assumption | simpa using hc); rw [huk] at h8; cases h8) | (have hie : i = e.length := (by omega); simp [go_sem, Try.results87, hie, typesL_len]))
  ·intro hc; try simp at hc
   all_goals try (exfalso; omega; done)
   all_goals (
 refine AW.skipN (fun _ h => h) ?_
 refine rgN [0,4,5] (fun _ h => h) ?_
 intro k hk; simp -dsimp [go_sem, -decide_eq_true_eq, -decide_eq_false_iff_not, hx, htl, hsA, hsB]
 repeat' first | apply And.intro | refine hk _ ?_ | intro hg | omega | exact True.intro | (have h9 := hr (by assumption); omega) | fail
 all_goals clear hk k
 refine rgK ?_
 intro k hk; simp -dsimp [go_sem, -decide_eq_true_eq, -decide_eq_false_iff_not, hx, htl, hsA, hsB]
 repeat' first | apply And.intro | refine hk _ ?_ | intro hg | omega | exact True.intro | (have h9 := hr (by assumption); omega) | fail
 all_goals clear hk k
 show ∃ _, _
 have hw := wrapi hlt (by omega)
 have hub : typBad e i = false := by simpa using hc
 refine ⟨i + 1, ⟨by omega, typU_go hu hub⟩, by omega, Less.of rfl (by simp [go_sem, hw]) (by simp [go_sem, typesL_succ, hxA, htk] <;> (unfold ownT; first | omega | (split <;> omega)))⟩))
 ·intro hc; try simp at hc
  all_goals try (exfalso; omega; done)
  all_goals (
 refine AW.skipN (fun _ h => h) ?_
 refine AW.seq ?_
 have hpt : partT x.kind = _ := rfl
 refine AW.cut ⟨62, [(0, .isl 4 (e.map TNode.ro)), (4, .sl 9 1 0 i), (5, .int .i64 i), (8, .int .i64 (ownT x.kind)), (56, .bool (typBad e i))], [(9, some ⟨1, (typesL e i).map I1⟩)]⟩ ?_ ?_
 ·skip
  refine rgK ?_
  intro k hk; simp +contextual -dsimp (maxSteps := 2000000) [go_sem, -decide_eq_true_eq, -decide_eq_false_iff_not, hx, htl, hsA, hsB]
  repeat' first | apply And.intro | refine hk _ ?_ | (intro hg; try simp only [decide_eq_true_eq, decide_eq_false_iff_not] at hg) | (refine CallK.intro (dc_spec_l3Two _) ?_; simp +contextual -dsimp (maxSteps := 2000000) [go_sem, -decide_eq_true_eq, -decide_eq_false_iff_not, hx, htl, hsA, hsB]) | omega | exact True.intro | (have h9 := hr (by assumption); omega) | fail
  all_goals clear hk k
  all_goals (show St.Less _ _; exact Less.of rfl (by simp [go_sem, typBad, hxA] <;> grind [ownT, partT]) (by simp [go_sem]))
 ·skip
  refine AW.cond rfl ?_ ?_
  ·intro hc; try simp at hc
   all_goals try (exfalso; omega; done)
   all_goals (
 refine rg [2,3] ?_
 intro k hk; simp -dsimp [go_sem, -decide_eq_true_eq, -decide_eq_false_iff_not, hx, htl, hsA, hsB]
 repeat' first | apply And.intro | refine hk _ ?_ | intro hg | omega | exact True.intro | (have h9 := hr (by assumption); omega) | fail
 all_goals clear hk k
 refine rt ?_
 first | (exfalso; have h8 := typU_hit hlt (by first | assumption | simpa using hc); rw [huk] at h8; cases h8) | (have hie : i = e.length := (by omega); simp [go_sem, Try.results87, hie, typesL_len]))
  ·intro hc; try simp at hc
   all_goals try (exfalso; omega; done)
   all_goals (
 refine AW.skipN (fun _ h => h) ?_
 refine rgN [0,4,5] (fun _ h => h) ?_
 intro k hk; simp -dsimp [go_sem, -decide_eq_true_eq, -decide_eq_false_iff_not, hx, htl, hsA, hsB]
 repeat' first | apply And.intro | refine hk _ ?_ | intro hg | omega | exact True.intro | (have h9 := hr (by assumption); omega) | fail
 all_goals clear hk k
 refine rgK ?_
 intro k hk; simp -dsimp [go_sem, -decide_eq_true_eq, -decide_eq_false_iff_not, hx, htl, hsA, hsB]
 repeat' first | apply And.intro | refine hk _ ?_ | intro hg | omega | exact True.intro | (have h9 := hr (by assumption); omega) | fail
 all_goals clear hk k
 show ∃ _, _
 have hw := wrapi hlt (by omega)
 have hub : typBad e i = false := by simpa using hc
 refine ⟨i + 1, ⟨by omega, typU_go hu hub⟩, by omega, Less.of rfl (by simp [go_sem, hw]) (by simp [go_sem, typesL_succ, hxA, htk] <;> (unfold ownT; first | omega | (split <;> omega)))⟩))))
 ·intro hc; try simp at hc
  all_goals try (exfalso; omega; done)
  all_goals (
 refine AW.exitN (fun _ h => h) ?_
 refine rg [2,3] ?_
 intro k hk; simp -dsimp [go_sem, -decide_eq_true_eq, -decide_eq_false_iff_not]
 repeat' first | apply And.intro | refine hk _ ?_ | intro hg | omega | exact True.intro | (have h9 := hr (by assumption); omega) | fail
 all_goals clear hk k
 refine rt ?_
 first | (exfalso; have h8 := typU_hit hlt (by first | assumption | simpa using hc); rw [huk] at h8; cases h8) | (have hie : i = e.length := (by omega); simp [go_sem, Try.results87, hie, typesL_len]))
end Go.AM
namespace Go.AM
open Go.Proofs
theorem dc_spec_l3Type_f (e : List TNode) (he : e.length ≤ 9223372036854775807) (h0 : exprF e ≠ 0) : DC Try.prog 79 [.isl 4 (e.map TNode.ro)] (.tup [.int .i64 (typV e), .int .i64 (typC e)]) [] := by
 obtain ⟨hC, hV⟩ := typC_f h0
 refine DC.intro tiOk Try.func79 rfl rfl rfl rfl rfl rfl rfl rfl [] ?_
 refine rg [0] ?_
 intro k hk; simp -dsimp [go_sem, -decide_eq_true_eq, -decide_eq_false_iff_not, h0, hC, hV]
 repeat' first | apply And.intro | refine hk _ ?_ | intro hg | omega | exact True.intro
 all_goals clear hk k
 refine AW.seq ?_
 refine rg [0,4] ?_
 intro k hk; simp -dsimp (maxSteps := 2000000) [go_sem, -decide_eq_true_eq, -decide_eq_false_iff_not, h0, hC, hV]
 repeat' first | apply And.intro | refine hk _ ?_ | intro hg | (refine CallK.intro (dc_spec_l3Fault e he) ?_; simp -dsimp (maxSteps := 2000000) [go_sem, -decide_eq_true_eq, -decide_eq_false_iff_not, h0, hC, hV]) | omega | exact True.intro
 all_goals clear hk k
 refine rg [0,4,10] ?_
 intro k hk; simp -dsimp [go_sem, -decide_eq_true_eq, -decide_eq_false_iff_not, h0, hC, hV]
 repeat' first | apply And.intro | refine hk _ ?_ | intro hg | omega | exact True.intro
 all_goals clear hk k
 refine AW.cond rfl ?_ ?_
 ·intro hc; try simp at hc
  all_goals try (exfalso; contradiction; done)
  all_goals (
 refine rg [2,3] ?_
 intro k hk; simp -dsimp [go_sem, -decide_eq_true_eq, -decide_eq_false_iff_not, h0, hC, hV]
 repeat' first | apply And.intro | refine hk _ ?_ | intro hg | omega | exact True.intro
 all_goals clear hk k
 refine rt ?_
 simp [go_sem, Try.results79, hC, hV])
 ·intro hc; try simp at hc
  all_goals try (exfalso; contradiction; done)
  all_goals (
 refine AW.skipN (fun _ h => h) ?_
 refine rg [5,6] ?_
 intro k hk; simp -dsimp (maxSteps := 2000000) [go_sem, -decide_eq_true_eq, -decide_eq_false_iff_not, h0, hC, hV]
 repeat' first | apply And.intro | refine hk _ ?_ | intro hg | (refine CallK.intro (skip) ?_; simp -dsimp (maxSteps := 2000000) [go_sem, -decide_eq_true_eq, -decide_eq_false_iff_not, h0, hC, hV]) | omega | exact True.intro
 all_goals clear hk k
 refine AW.seq ?_
 refine rg [5,18] ?_
 intro k hk; simp -dsimp [go_sem, -decide_eq_true_eq, -decide_eq_false_iff_not, h0, hC, hV]
 repeat' first | apply And.intro | refine hk _ ?_ | intro hg | omega | exact True.intro
 all_goals clear hk k
 refine AW.cond rfl ?_ ?_
 ·intro hc; try simp at hc
  all_goals try (exfalso; contradiction; done)
  all_goals (
 refine rg [2,3] ?_
 intro k hk; simp -dsimp [go_sem, -decide_eq_true_eq, -decide_eq_false_iff_not, h0, hC, hV]
 repeat' first | apply And.intro | refine hk _ ?_ | intro hg | omega | exact True.intro
 all_goals clear hk k
 refine rt ?_
 simp [go_sem, Try.results79, hC, hV])
 ·intro hc; try simp at hc
  all_goals try (exfalso; contradiction; done)
  all_goals (
 refine AW.skipN (fun _ h => h) ?_
 have htl := typesL_len e e.length
 have hlast := typesL_at (e := e) (show e.length - 1 < e.length by omega)
 have hwl : IntKind.wrap .i64 ((e.length : Int) - 1) = (e.length : Int) - 1 := wrap64 (by omega) (by omega)
 have hwt : ((e.length : Int) - 1).toNat = e.length - 1 := by omega
 refine rg [2,3] ?_
 intro k hk; simp -dsimp (maxSteps := 2000000) [go_sem, -decide_eq_true_eq, -decide_eq_false_iff_not, h0, hC, hV, htl, hlast, hwl, hwt]
 repeat' first | apply And.intro | refine hk _ ?_ | intro hg | omega | exact True.intro
 all_goals clear hk k
 refine rt ?_
 simp [go_sem, Try.results79, hC, hV]))
theorem dc_spec_l3Type_b (e : List TNode) (he : e.length ≤ 9223372036854775807) (h0 : exprF e = 0) (hub : typU e e.length = true) : DC Try.prog 79 [.isl 4 (e.map TNode.ro)] (.tup [.int .i64 (typV e), .int .i64 (typC e)]) [] := by
 obtain ⟨hR, hP⟩ := exprF_zero h0
 have hlen := inR_iff.1 hR
 obtain ⟨hC, hV⟩ := typC_b h0 hub
 refine DC.intro tiOk Try.func79 rfl rfl rfl rfl rfl rfl rfl rfl [] ?_
 refine rg [0] ?_
 intro k hk; simp -dsimp [go_sem, -decide_eq_true_eq, -decide_eq_false_iff_not, h0, hC, hV]
 repeat' first | apply And.intro | refine hk _ ?_ | intro hg | omega | exact True.intro
 all_goals clear hk k
 refine AW.seq ?_
 refine rg [0,4] ?_
 intro k hk; simp -dsimp (maxSteps := 2000000) [go_sem, -decide_eq_true_eq, -decide_eq_false_iff_not, h0, hC, hV]
 repeat' first | apply And.intro | refine hk _ ?_ | intro hg | (refine CallK.intro (dc_spec_l3Fault e he) ?_; simp -dsimp (maxSteps := 2000000) [go_sem, -decide_eq_true_eq, -decide_eq_false_iff_not, h0, hC, hV]) | omega | exact True.intro
 all_goals clear hk k
 refine rg [0,4,10] ?_
 intro k hk; simp -dsimp [go_sem, -decide_eq_true_eq, -decide_eq_false_iff_not, h0, hC, hV]
 repeat' first | apply And.intro | refine hk _ ?_ | intro hg | omega | exact True.intro
 all_goals clear hk k
 refine AW.cond rfl ?_ ?_
 ·intro hc; try simp at hc
  all_goals try (exfalso; contradiction; done)
  all_goals (
 refine rg [2,3] ?_
 intro k hk; simp -dsimp [go_sem, -decide_eq_true_eq, -decide_eq_false_iff_not, h0, hC, hV]
 repeat' first | apply And.intro | refine hk _ ?_ | intro hg | omega | exact True.intro
 all_goals clear hk k
 refine rt ?_
 simp [go_sem, Try.results79, hC, hV])
 ·intro hc; try simp at hc
  all_goals try (exfalso; contradiction; done)
  all_goals (
 refine AW.skipN (fun _ h => h) ?_
 refine rg [5,6] ?_
 intro k hk; simp -dsimp (maxSteps := 2000000) [go_sem, -decide_eq_true_eq, -decide_eq_false_iff_not, h0, hC, hV]
 repeat' first | apply And.intro | refine hk _ ?_ | intro hg | (refine CallK.intro (dc_spec_l3Types_b e hP (by omega) hub) ?_; simp -dsimp (maxSteps := 2000000) [go_sem, -decide_eq_true_eq, -decide_eq_false_iff_not, h0, hC, hV]) | omega | exact True.intro
 all_goals clear hk k
 refine AW.seq ?_
 refine rg [5,18] ?_
 intro k hk; simp -dsimp [go_sem, -decide_eq_true_eq, -decide_eq_false_iff_not, h0, hC, hV]
 repeat' first | apply And.intro | refine hk _ ?_ | intro hg | omega | exact True.intro
 all_goals clear hk k
 refine AW.cond rfl ?_ ?_
 ·intro hc; try simp at hc
  all_goals try (exfalso; contradiction; done)
  all_goals (
 refine rg [2,3] ?_
 intro k hk; simp -dsimp [go_sem, -decide_eq_true_eq, -decide_eq_false_iff_not, h0, hC, hV]
 repeat' first | apply And.intro | refine hk _ ?_ | intro hg | omega | exact True.intro
 all_goals clear hk k
 refine rt ?_
 simp [go_sem, Try.results79, hC, hV])
 ·intro hc; try simp at hc
  all_goals try (exfalso; contradiction; done)
  all_goals (
 refine AW.skipN (fun _ h => h) ?_
 have htl := typesL_len e e.length
 have hlast := typesL_at (e := e) (show e.length - 1 < e.length by omega)
 have hwl : IntKind.wrap .i64 ((e.length : Int) - 1) = (e.length : Int) - 1 := wrap64 (by omega) (by omega)
 have hwt : ((e.length : Int) - 1).toNat = e.length - 1 := by omega
 refine rg [2,3] ?_
 intro k hk; simp -dsimp (maxSteps := 2000000) [go_sem, -decide_eq_true_eq, -decide_eq_false_iff_not, h0, hC, hV, htl, hlast, hwl, hwt]
 repeat' first | apply And.intro | refine hk _ ?_ | intro hg | omega | exact True.intro
 all_goals clear hk k
 refine rt ?_
 simp [go_sem, Try.results79, hC, hV]))
theorem dc_spec_l3Type_k (e : List TNode) (he : e.length ≤ 9223372036854775807) (h0 : exprF e = 0) (huk : typU e e.length = false) : DC Try.prog 79 [.isl 4 (e.map TNode.ro)] (.tup [.int .i64 (typV e), .int .i64 (typC e)]) [] := by
 obtain ⟨hR, hP⟩ := exprF_zero h0
 have hlen := inR_iff.1 hR
 obtain ⟨hC, hV⟩ := typC_k h0 huk
 refine DC.intro tiOk Try.func79 rfl rfl rfl rfl rfl rfl rfl rfl [] ?_
 refine rg [0] ?_
 intro k hk; simp -dsimp [go_sem, -decide_eq_true_eq, -decide_eq_false_iff_not, h0, hC, hV]
 repeat' first | apply And.intro | refine hk _ ?_ | intro hg | omega | exact True.intro
 all_goals clear hk k
 refine AW.seq ?_
 refine rg [0,4] ?_
 intro k hk; simp -dsimp (maxSteps := 2000000) [go_sem, -decide_eq_true_eq, -decide_eq_false_iff_not, h0, hC, hV]
 repeat' first | apply And.intro | refine hk _ ?_ | intro hg | (refine CallK.intro (dc_spec_l3Fault e he) ?_; simp -dsimp (maxSteps := 2000000) [go_sem, -decide_eq_true_eq, -decide_eq_false_iff_not, h0, hC, hV]) | omega | exact True.intro
 all_goals clear hk k
 refine rg [0,4,10] ?_
 intro k hk; simp -dsimp [go_sem, -decide_eq_true_eq, -decide_eq_false_iff_not, h0, hC, hV]
 repeat' first | apply And.intro | refine hk _ ?_ | intro hg | omega | exact True.intro
 all_goals clear hk k
 refine AW.cond rfl ?_ ?_
 ·intro hc; try simp at hc
  all_goals try (exfalso; contradiction; done)
  all_goals (
 refine rg [2,3] ?_
 intro k hk; simp -dsimp [go_sem, -decide_eq_true_eq, -decide_eq_false_iff_not, h0, hC, hV]
 repeat' first | apply And.intro | refine hk _ ?_ | intro hg | omega | exact True.intro
 all_goals clear hk k
 refine rt ?_
 simp [go_sem, Try.results79, hC, hV])
 ·intro hc; try simp at hc
  all_goals try (exfalso; contradiction; done)
  all_goals (
 refine AW.skipN (fun _ h => h) ?_
 refine rg [5,6] ?_
 intro k hk; simp -dsimp (maxSteps := 2000000) [go_sem, -decide_eq_true_eq, -decide_eq_false_iff_not, h0, hC, hV]
 repeat' first | apply And.intro | refine hk _ ?_ | intro hg | (refine CallK.intro (dc_spec_l3Types_k e hP (by omega) huk) ?_; simp -dsimp (maxSteps := 2000000) [go_sem, -decide_eq_true_eq, -decide_eq_false_iff_not, h0, hC, hV]) | omega | exact True.intro
 all_goals clear hk k
 refine AW.seq ?_
 refine rg [5,18] ?_
 intro k hk; simp -dsimp [go_sem, -decide_eq_true_eq, -decide_eq_false_iff_not, h0, hC, hV]
 repeat' first | apply And.intro | refine hk _ ?_ | intro hg | omega | exact True.intro
 all_goals clear hk k
 refine AW.cond rfl ?_ ?_
 ·intro hc; try simp at hc
  all_goals try (exfalso; contradiction; done)
  all_goals (
 refine rg [2,3] ?_
 intro k hk; simp -dsimp [go_sem, -decide_eq_true_eq, -decide_eq_false_iff_not, h0, hC, hV]
 repeat' first | apply And.intro | refine hk _ ?_ | intro hg | omega | exact True.intro
 all_goals clear hk k
 refine rt ?_
 simp [go_sem, Try.results79, hC, hV])
 ·intro hc; try simp at hc
  all_goals try (exfalso; contradiction; done)
  all_goals (
 refine AW.skipN (fun _ h => h) ?_
 have htl := typesL_len e e.length
 have hlast := typesL_at (e := e) (show e.length - 1 < e.length by omega)
 have hwl : IntKind.wrap .i64 ((e.length : Int) - 1) = (e.length : Int) - 1 := wrap64 (by omega) (by omega)
 have hwt : ((e.length : Int) - 1).toNat = e.length - 1 := by omega
 refine rg [2,3] ?_
 intro k hk; simp -dsimp (maxSteps := 2000000) [go_sem, -decide_eq_true_eq, -decide_eq_false_iff_not, h0, hC, hV, htl, hlast, hwl, hwt]
 repeat' first | apply And.intro | refine hk _ ?_ | intro hg | omega | exact True.intro
 all_goals clear hk k
 refine rt ?_
 simp [go_sem, Try.results79, hC, hV]))
theorem dc_spec_l3Type (e : List TNode) (he : e.length ≤ 9223372036854775807) : DC Try.prog 79 [.isl 4 (e.map TNode.ro)] (.tup [.int .i64 (typV e), .int .i64 (typC e)]) [] := by
  by_cases h0 : exprF e = 0
  · by_cases hu : typU e e.length = true
    · exact dc_spec_l3Type_b e he h0 hu
    · exact dc_spec_l3Type_k e he h0 (by simpa using hu)
  · exact dc_spec_l3Type_f e he h0
theorem dc_spec_l4Typed (e : List TNode) (w : Int) (he : e.length ≤ 9223372036854775807) : DC Try.prog 57 [.isl 4 (e.map TNode.ro), .int .i64 w] (.int .i64 (typF e w)) [] := by
 refine DC.intro tiOk Try.func57 rfl rfl rfl rfl rfl rfl rfl rfl [] ?_
 refine rgA [0,1] ?_
 refine AW.seq ?_
 refine rgA [0,1,9] ?_
 refine AW.cond rfl ?_ ?_
 ·intro hc; try simp at hc
  all_goals (
 refine rgA [4] ?_
 refine rt ?_
 simp [go_sem, Try.results57, typF, firstC_cons, firstC_nil] <;> grind)
 ·intro hc; try simp at hc
  all_goals (
 refine AW.skipN (fun _ h => h) ?_
 refine rg [1,5,6] ?_
 intro k hk; simp -dsimp (maxSteps := 2000000) [go_sem, -decide_eq_true_eq, -decide_eq_false_iff_not]
 repeat' first | apply And.intro | refine hk _ ?_ | intro hg | (refine CallK.intro (dc_spec_l3Type e he) ?_; simp -dsimp (maxSteps := 2000000) [go_sem, -decide_eq_true_eq, -decide_eq_false_iff_not]) | omega | exact True.intro
 all_goals clear hk k
 refine AW.seq ?_
 refine rgA [1,5,6,16] ?_
 refine AW.cond rfl ?_ ?_
 ·intro hc; try simp at hc
  all_goals (
 refine rgA [4] ?_
 refine rt ?_
 simp [go_sem, Try.results57, typF, firstC_cons, firstC_nil] <;> grind)
 ·intro hc; try simp at hc
  all_goals (
 refine AW.skipN (fun _ h => h) ?_
 refine AW.seq ?_
 refine rgA [20] ?_
 refine AW.cond rfl ?_ ?_
 ·intro hc; try simp at hc
  all_goals (
 refine rgA [4] ?_
 refine rt ?_
 simp [go_sem, Try.results57, typF, firstC_cons, firstC_nil] <;> grind)
 ·intro hc; try simp at hc
  all_goals (
 refine AW.skipN (fun _ h => h) ?_
 refine rgA [4] ?_
 refine rt ?_
 simp [go_sem, Try.results57, typF, firstC_cons, firstC_nil] <;> grind)))
theorem dc_spec_l1Name (s : List UInt8) (hs : s.length ≤ 9223372036854775807) : DC Try.prog 73 [.str s] (.int .i64 (nameF s)) [] := by
 refine DC.intro tiOk Try.func73 rfl rfl rfl rfl rfl rfl rfl rfl [] ?_
 refine rgA [0] ?_
 refine AW.seq ?_
 refine rgA [0,3] ?_
 refine AW.block ?_
 refine AW.loopI (fun i : Nat => ⟨25, [(0, .str s), (3, .int .i64 i)], []⟩) (fun i => i ≤ s.length ∧ (s.take i).all isLow = true) (fun i => s.length - i) (0) (by simp) (Less.of rfl (by simp [go_sem]) (by simp [go_sem])) ?_
 rintro i ⟨hi, hall⟩
 refine AW.seq ?_
 refine rgA [0,3,7] ?_
 refine AW.cond rfl ?_ ?_
 ·intro hc; try simp at hc
  all_goals (
 have hlt : i < s.length := by assumption
 obtain ⟨x, hx⟩ := at_some hlt
 refine AW.skipN (fun _ h => h) ?_
 refine AW.seq ?_
 refine AW.block ?_
 refine rg [0,3,19] ?_
 intro k hk; simp +contextual -dsimp (maxSteps := 2000000) [go_sem, -decide_eq_true_eq, -decide_eq_false_iff_not, hx]
 repeat' first | apply And.intro | refine hk _ ?_ | (intro hg; try simp only [decide_eq_true_eq, decide_eq_false_iff_not] at hg) | omega | exact True.intro
 all_goals clear hk k
 all_goals (
 refine AW.cond rfl ?_ ?_
 ·intro hc; try simp at hc
  all_goals (
 refine rg [2] ?_
 intro k hk; simp -dsimp [go_sem, -decide_eq_true_eq, -decide_eq_false_iff_not, hx]
 repeat' first | apply And.intro | refine hk _ ?_ | intro hg | omega | exact True.intro
 all_goals clear hk k
 refine rt ?_
 first | (have hr := all_not (p := isLow) hx (by simp [isLow]; omega); simp [go_sem, Try.results73, nameF, hr]; done) | (have hr := all_end (p := isLow) (show s.length ≤ i by omega) hall; simp [go_sem, Try.results73, nameF, hr] at * <;> grind))
 ·intro hc; try simp at hc
  all_goals (
 refine AW.skipN (fun _ h => h) ?_
 refine rgK ?_
 intro k hk; simp -dsimp [go_sem, -decide_eq_true_eq, -decide_eq_false_iff_not, hx]
 repeat' first | apply And.intro | refine hk _ ?_ | intro hg | omega | exact True.intro
 all_goals clear hk k
 show ∃ _, _
 have hw := wrapi hlt (by omega)
 refine ⟨i + 1, ⟨by omega, by rw [all_take hx hall]; simp [isLow]; omega⟩, by omega, Less.of rfl (by simp [go_sem, hw]) (by simp [go_sem])⟩)))
 ·intro hc; try simp at hc
  all_goals (
 refine AW.exitN (fun _ h => h) ?_
 refine AW.seq ?_
 refine rgA [0,21] ?_
 refine AW.cond rfl ?_ ?_
 ·intro hc; try simp at hc
  all_goals (
 refine rgA [2] ?_
 refine rt ?_
 first | (have hr := all_not (p := isLow) hx (by simp [isLow]; omega); simp [go_sem, Try.results73, nameF, hr]; done) | (have hr := all_end (p := isLow) (show s.length ≤ i by omega) hall; simp [go_sem, Try.results73, nameF, hr] at * <;> grind))
 ·intro hc; try simp at hc
  all_goals (
 refine AW.skipN (fun _ h => h) ?_
 refine AW.seq ?_
 refine rgA [24] ?_
 refine AW.cond rfl ?_ ?_
 ·intro hc; try simp at hc
  all_goals (
 refine rgA [2] ?_
 refine rt ?_
 first | (have hr := all_not (p := isLow) hx (by simp [isLow]; omega); simp [go_sem, Try.results73, nameF, hr]; done) | (have hr := all_end (p := isLow) (show s.length ≤ i by omega) hall; simp [go_sem, Try.results73, nameF, hr] at * <;> grind))
 ·intro hc; try simp at hc
  all_goals (
 refine AW.skipN (fun _ h => h) ?_
 refine rgA [2] ?_
 refine rt ?_
 first | (have hr := all_not (p := isLow) hx (by simp [isLow]; omega); simp [go_sem, Try.results73, nameF, hr]; done) | (have hr := all_end (p := isLow) (show s.length ≤ i by omega) hall; simp [go_sem, Try.results73, nameF, hr] at * <;> grind))))
end Go.AM
namespace Go.AM
open Go.Proofs
theorem dc_spec_l4One (p : List TStep) (hp : 1 ≤ p.length ∧ p.length ≤ 24) (hg : ∀ e ∈ p, e.gok) (i : Nat) (hi : i < p.length) (h1 : ∀ k, k < i → oneF p k = 0) : DC Try.prog 55 [.isl 6 (p.map TStep.ro), .int .i64 (i : Nat)] (.int .i64 (oneF p i)) [] := by
 obtain ⟨x, hx⟩ := at_some hi
 obtain ⟨g0, g1, g2⟩ := hg x (List.mem_of_getElem? hx)
 have hl := ones_ok i (by omega) h1
 have hL : ((pars p).take i).length = i := take_len (by omega)
 have hxo := oneF_at hx
 have hwi : IntKind.wrap .i64 ((i : Int) - 1) = (i : Int) - 1 := wrap64 (by omega) (by omega)
 have hdi : (decide ((i : Int) = 0)) = decide (i = 0) := by by_cases h : i = 0 <;> simp [h]
 refine DC.intro tiOk Try.func55 rfl rfl rfl rfl rfl rfl rfl rfl [] ?_
 refine rg [0,1] ?_
 intro k hk; simp -dsimp [go_sem, -decide_eq_true_eq, -decide_eq_false_iff_not, hx, hwi]
 repeat' first | apply And.intro | refine hk _ ?_ | intro hg | omega | exact True.intro
 all_goals clear hk k
 refine rg [0,1,5] ?_
 intro k hk; simp -dsimp [go_sem, -decide_eq_true_eq, -decide_eq_false_iff_not, hx, hwi]
 repeat' first | apply And.intro | refine hk _ ?_ | intro hg | omega | exact True.intro
 all_goals clear hk k
 refine AW.seq ?_
 refine AW.cut ⟨82, [(0, .isl 6 (p.map TStep.ro)), (1, .int .i64 (i : Nat)), (5, .ip x.ro), (20, .bool (decide (inR x.kind 1 8 = false ∨ alien x = true)))], []⟩ ?_ ?_
 ·skip
  refine rgK ?_
  intro k hk; simp +contextual -dsimp (maxSteps := 2000000) [go_sem, -decide_eq_true_eq, -decide_eq_false_iff_not, hx, hwi]
  repeat' first | apply And.intro | refine hk _ ?_ | (intro hg; try simp only [decide_eq_true_eq, decide_eq_false_iff_not] at hg) | ((first | refine CallK.intro (dc_spec_l1In _ _ _) ?_ | refine CallK.intro (dc_spec_l4Bare x ⟨g0, g1, g2⟩) ?_); simp +contextual -dsimp (maxSteps := 2000000) [go_sem, -decide_eq_true_eq, -decide_eq_false_iff_not, hx, hwi]) | omega | exact True.intro
  all_goals clear hk k
  all_goals (show St.Less _ _; exact Less.of rfl (by simp [go_sem] <;> first | omega | grind) (by simp [go_sem]))
 ·skip
  refine AW.cond rfl ?_ ?_
  ·intro hc; try simp at hc
   all_goals try (exfalso; omega; done)
   all_goals (
 refine rg [4] ?_
 intro k hk; simp -dsimp [go_sem, -decide_eq_true_eq, -decide_eq_false_iff_not, hx, hwi]
 repeat' first | apply And.intro | refine hk _ ?_ | intro hg | omega | exact True.intro
 all_goals clear hk k
 refine rt ?_
 rw [hxo]
 first | (have hs : stepF ((pars p).take i) x = 1 := (by have := @inR_iff x.kind 1 8; unfold stepF; grind); rw [hs]; simp [go_sem, Try.results55]; done) | (have hs : stepF ((pars p).take i) x = 3 := (by have := @inR_iff x.kind 1 8; unfold stepF; grind); rw [hs]; simp [go_sem, Try.results55]; done) | (have hs : stepF ((pars p).take i) x = 2 := (by have := @inR_iff x.kind 1 8; unfold stepF; grind); rw [hs]; simp [go_sem, Try.results55]; done) | (have hs : stepF ((pars p).take i) x = nameF x.name := (by have := @inR_iff x.kind 1 8; unfold stepF; grind); rw [hs]; simp [go_sem, Try.results55]; done) | (have hs : stepF ((pars p).take i) x = exprF x.expr := (by have := @inR_iff x.kind 1 8; unfold stepF; grind); rw [hs]; simp [go_sem, Try.results55]; done) | (have hs : stepF ((pars p).take i) x = 0 := (by have := @inR_iff x.kind 1 8; unfold stepF; unfold alien at *; unfold lowA highA at *; grind); rw [hs]; simp [go_sem, Try.results55]))
  ·intro hc; try simp at hc
   all_goals try (exfalso; omega; done)
   all_goals (
 refine AW.skipN (fun _ h => h) ?_
 refine AW.seq ?_
 refine AW.cut ⟨82, [(0, .isl 6 (p.map TStep.ro)), (1, .int .i64 (i : Nat)), (5, .ip x.ro), (43, .bool (decide (parF ((pars p).take i) x.par = 3)))], []⟩ ?_ ?_
 ·skip
  refine rgK ?_
  intro k hk; simp +contextual -dsimp (maxSteps := 2000000) [go_sem, -decide_eq_true_eq, -decide_eq_false_iff_not, hx, hwi]
  repeat' first | apply And.intro | refine hk _ ?_ | (intro hg; try simp only [decide_eq_true_eq, decide_eq_false_iff_not] at hg) | (refine CallK.intro (dc_spec_l1In _ _ _) ?_; simp +contextual -dsimp (maxSteps := 2000000) [go_sem, -decide_eq_true_eq, -decide_eq_false_iff_not, hx, hwi]) | omega | exact True.intro
  all_goals clear hk k
  all_goals (show St.Less _ _; exact Less.of rfl (by simp [go_sem, parF, hL, inR] at * <;> grind) (by simp [go_sem]))
 ·skip
  refine AW.cond rfl ?_ ?_
  ·intro hc; try simp at hc
   all_goals try (exfalso; omega; done)
   all_goals (
 refine rg [4] ?_
 intro k hk; simp -dsimp [go_sem, -decide_eq_true_eq, -decide_eq_false_iff_not, hx, hwi]
 repeat' first | apply And.intro | refine hk _ ?_ | intro hg | omega | exact True.intro
 all_goals clear hk k
 refine rt ?_
 rw [hxo]
 first | (have hs : stepF ((pars p).take i) x = 1 := (by have := @inR_iff x.kind 1 8; unfold stepF; grind); rw [hs]; simp [go_sem, Try.results55]; done) | (have hs : stepF ((pars p).take i) x = 3 := (by have := @inR_iff x.kind 1 8; unfold stepF; grind); rw [hs]; simp [go_sem, Try.results55]; done) | (have hs : stepF ((pars p).take i) x = 2 := (by have := @inR_iff x.kind 1 8; unfold stepF; grind); rw [hs]; simp [go_sem, Try.results55]; done) | (have hs : stepF ((pars p).take i) x = nameF x.name := (by have := @inR_iff x.kind 1 8; unfold stepF; grind); rw [hs]; simp [go_sem, Try.results55]; done) | (have hs : stepF ((pars p).take i) x = exprF x.expr := (by have := @inR_iff x.kind 1 8; unfold stepF; grind); rw [hs]; simp [go_sem, Try.results55]; done) | (have hs : stepF ((pars p).take i) x = 0 := (by have := @inR_iff x.kind 1 8; unfold stepF; unfold alien at *; unfold lowA highA at *; grind); rw [hs]; simp [go_sem, Try.results55]))
  ·intro hc; try simp at hc
   all_goals try (exfalso; omega; done)
   all_goals (
 refine AW.skipN (fun _ h => h) ?_
 refine AW.seq ?_
 refine AW.cut ⟨82, [(0, .isl 6 (p.map TStep.ro)), (1, .int .i64 (i : Nat)), (5, .ip x.ro), (51, .bool (decide (parF ((pars p).take i) x.par = 1)))], []⟩ ?_ ?_
 ·skip
  refine rgK ?_
  intro k hk; simp +contextual -dsimp (maxSteps := 2000000) [go_sem, -decide_eq_true_eq, -decide_eq_false_iff_not, hx, hwi]
  repeat' first | apply And.intro | refine hk _ ?_ | (intro hg; try simp only [decide_eq_true_eq, decide_eq_false_iff_not] at hg) | (refine CallK.intro (dc_spec_l4Line p hp.2 i x hx (by omega) hl) ?_; simp +contextual -dsimp (maxSteps := 2000000) [go_sem, -decide_eq_true_eq, -decide_eq_false_iff_not, hx, hwi]) | omega | exact True.intro
  all_goals clear hk k
  all_goals (show St.Less _ _; exact Less.of rfl (by simp [go_sem, parF, hL] at * <;> grind) (by simp [go_sem]))
 ·skip
  refine AW.cond rfl ?_ ?_
  ·intro hc; try simp at hc
   all_goals try (exfalso; omega; done)
   all_goals (
 refine rg [4] ?_
 intro k hk; simp -dsimp [go_sem, -decide_eq_true_eq, -decide_eq_false_iff_not, hx, hwi]
 repeat' first | apply And.intro | refine hk _ ?_ | intro hg | omega | exact True.intro
 all_goals clear hk k
 refine rt ?_
 rw [hxo]
 first | (have hs : stepF ((pars p).take i) x = 1 := (by have := @inR_iff x.kind 1 8; unfold stepF; grind); rw [hs]; simp [go_sem, Try.results55]; done) | (have hs : stepF ((pars p).take i) x = 3 := (by have := @inR_iff x.kind 1 8; unfold stepF; grind); rw [hs]; simp [go_sem, Try.results55]; done) | (have hs : stepF ((pars p).take i) x = 2 := (by have := @inR_iff x.kind 1 8; unfold stepF; grind); rw [hs]; simp [go_sem, Try.results55]; done) | (have hs : stepF ((pars p).take i) x = nameF x.name := (by have := @inR_iff x.kind 1 8; unfold stepF; grind); rw [hs]; simp [go_sem, Try.results55]; done) | (have hs : stepF ((pars p).take i) x = exprF x.expr := (by have := @inR_iff x.kind 1 8; unfold stepF; grind); rw [hs]; simp [go_sem, Try.results55]; done) | (have hs : stepF ((pars p).take i) x = 0 := (by have := @inR_iff x.kind 1 8; unfold stepF; unfold alien at *; unfold lowA highA at *; grind); rw [hs]; simp [go_sem, Try.results55]))
  ·intro hc; try simp at hc
   all_goals try (exfalso; omega; done)
   all_goals (
 refine AW.skipN (fun _ h => h) ?_
 refine AW.seq ?_
 have hz : parF ((pars p).take i) x.par = 0 := by have : parF ((pars p).take i) x.par = 0 ∨ parF ((pars p).take i) x.par = 1 ∨ parF ((pars p).take i) x.par = 3 := (by unfold parF; split; exact Or.inr (Or.inr rfl); split; exact Or.inr (Or.inl rfl); exact Or.inl rfl); grind
 have hpo := parF_ok hz
 have htn := take_next hx
 have hl2 : ParOk ((pars p).take (i + 1)) := by rw [htn]; exact hl.snoc hpo.1 hpo.2.1
 refine rg [5,55] ?_
 intro k hk; simp -dsimp (maxSteps := 2000000) [go_sem, -decide_eq_true_eq, -decide_eq_false_iff_not, hx, hwi, htn]
 repeat' first | apply And.intro | refine hk _ ?_ | intro hg | (refine CallK.intro (dc_spec_l4Deep p hp.2 (i + 1) (by omega) hl2 (i : Int) (by omega)) ?_; simp -dsimp (maxSteps := 2000000) [go_sem, -decide_eq_true_eq, -decide_eq_false_iff_not, hx, hwi, htn]) | omega | exact True.intro
 all_goals clear hk k
 refine AW.cond rfl ?_ ?_
 ·intro hc; try simp at hc
  all_goals try (exfalso; omega; done)
  all_goals (
 refine rg [4] ?_
 intro k hk; simp -dsimp [go_sem, -decide_eq_true_eq, -decide_eq_false_iff_not, hx, hwi]
 repeat' first | apply And.intro | refine hk _ ?_ | intro hg | omega | exact True.intro
 all_goals clear hk k
 refine rt ?_
 rw [hxo]
 first | (have hs : stepF ((pars p).take i) x = 1 := (by have := @inR_iff x.kind 1 8; unfold stepF; grind); rw [hs]; simp [go_sem, Try.results55]; done) | (have hs : stepF ((pars p).take i) x = 3 := (by have := @inR_iff x.kind 1 8; unfold stepF; grind); rw [hs]; simp [go_sem, Try.results55]; done) | (have hs : stepF ((pars p).take i) x = 2 := (by have := @inR_iff x.kind 1 8; unfold stepF; grind); rw [hs]; simp [go_sem, Try.results55]; done) | (have hs : stepF ((pars p).take i) x = nameF x.name := (by have := @inR_iff x.kind 1 8; unfold stepF; grind); rw [hs]; simp [go_sem, Try.results55]; done) | (have hs : stepF ((pars p).take i) x = exprF x.expr := (by have := @inR_iff x.kind 1 8; unfold stepF; grind); rw [hs]; simp [go_sem, Try.results55]; done) | (have hs : stepF ((pars p).take i) x = 0 := (by have := @inR_iff x.kind 1 8; unfold stepF; unfold alien at *; unfold lowA highA at *; grind); rw [hs]; simp [go_sem, Try.results55]))
 ·intro hc; try simp at hc
  all_goals try (exfalso; omega; done)
  all_goals (
 refine AW.skipN (fun _ h => h) ?_
 refine AW.seq ?_
 refine rg [5,60] ?_
 intro k hk; simp -dsimp [go_sem, -decide_eq_true_eq, -decide_eq_false_iff_not, hx, hwi]
 repeat' first | apply And.intro | refine hk _ ?_ | intro hg | omega | exact True.intro
 all_goals clear hk k
 refine AW.cond rfl ?_ ?_
 ·intro hc; try simp at hc
  all_goals try (exfalso; omega; done)
  all_goals (
 refine rg [5,6] ?_
 intro k hk; simp -dsimp (maxSteps := 2000000) [go_sem, -decide_eq_true_eq, -decide_eq_false_iff_not, hx, hwi]
 repeat' first | apply And.intro | refine hk _ ?_ | intro hg | (refine CallK.intro (dc_spec_l1Name x.name g0) ?_; simp -dsimp (maxSteps := 2000000) [go_sem, -decide_eq_true_eq, -decide_eq_false_iff_not, hx, hwi]) | omega | exact True.intro
 all_goals clear hk k
 refine rg [5,6,67] ?_
 intro k hk; simp -dsimp [go_sem, -decide_eq_true_eq, -decide_eq_false_iff_not, hx, hwi]
 repeat' first | apply And.intro | refine hk _ ?_ | intro hg | omega | exact True.intro
 all_goals clear hk k
 refine AW.cond rfl ?_ ?_
 ·intro hc; try simp at hc
  all_goals try (exfalso; omega; done)
  all_goals (
 refine rg [4] ?_
 intro k hk; simp -dsimp [go_sem, -decide_eq_true_eq, -decide_eq_false_iff_not, hx, hwi]
 repeat' first | apply And.intro | refine hk _ ?_ | intro hg | omega | exact True.intro
 all_goals clear hk k
 refine rt ?_
 rw [hxo]
 first | (have hs : stepF ((pars p).take i) x = 1 := (by have := @inR_iff x.kind 1 8; unfold stepF; grind); rw [hs]; simp [go_sem, Try.results55]; done) | (have hs : stepF ((pars p).take i) x = 3 := (by have := @inR_iff x.kind 1 8; unfold stepF; grind); rw [hs]; simp [go_sem, Try.results55]; done) | (have hs : stepF ((pars p).take i) x = 2 := (by have := @inR_iff x.kind 1 8; unfold stepF; grind); rw [hs]; simp [go_sem, Try.results55]; done) | (have hs : stepF ((pars p).take i) x = nameF x.name := (by have := @inR_iff x.kind 1 8; unfold stepF; grind); rw [hs]; simp [go_sem, Try.results55]; done) | (have hs : stepF ((pars p).take i) x = exprF x.expr := (by have := @inR_iff x.kind 1 8; unfold stepF; grind); rw [hs]; simp [go_sem, Try.results55]; done) | (have hs : stepF ((pars p).take i) x = 0 := (by have := @inR_iff x.kind 1 8; unfold stepF; unfold alien at *; unfold lowA highA at *; grind); rw [hs]; simp [go_sem, Try.results55]))
 ·intro hc; try simp at hc
  all_goals try (exfalso; omega; done)
  all_goals (
 refine AW.skipN (fun _ h => h) ?_
 refine AW.seq ?_
 refine rg [5,71] ?_
 intro k hk; simp -dsimp (maxSteps := 2000000) [go_sem, -decide_eq_true_eq, -decide_eq_false_iff_not, hx, hwi]
 repeat' first | apply And.intro | refine hk _ ?_ | intro hg | (refine CallK.intro (dc_spec_l4Arg _) ?_; simp -dsimp (maxSteps := 2000000) [go_sem, -decide_eq_true_eq, -decide_eq_false_iff_not, hx, hwi]) | omega | exact True.intro
 all_goals clear hk k
 refine AW.cond rfl ?_ ?_
 ·intro hc; try simp at hc
  all_goals try (exfalso; omega; done)
  all_goals (
 refine rg [4] ?_
 intro k hk; simp -dsimp [go_sem, -decide_eq_true_eq, -decide_eq_false_iff_not, hx, hwi]
 repeat' first | apply And.intro | refine hk _ ?_ | intro hg | omega | exact True.intro
 all_goals clear hk k
 refine rt ?_
 rw [hxo]
 first | (have hs : stepF ((pars p).take i) x = 1 := (by have := @inR_iff x.kind 1 8; unfold stepF; grind); rw [hs]; simp [go_sem, Try.results55]; done) | (have hs : stepF ((pars p).take i) x = 3 := (by have := @inR_iff x.kind 1 8; unfold stepF; grind); rw [hs]; simp [go_sem, Try.results55]; done) | (have hs : stepF ((pars p).take i) x = 2 := (by have := @inR_iff x.kind 1 8; unfold stepF; grind); rw [hs]; simp [go_sem, Try.results55]; done) | (have hs : stepF ((pars p).take i) x = nameF x.name := (by have := @inR_iff x.kind 1 8; unfold stepF; grind); rw [hs]; simp [go_sem, Try.results55]; done) | (have hs : stepF ((pars p).take i) x = exprF x.expr := (by have := @inR_iff x.kind 1 8; unfold stepF; grind); rw [hs]; simp [go_sem, Try.results55]; done) | (have hs : stepF ((pars p).take i) x = 0 := (by have := @inR_iff x.kind 1 8; unfold stepF; unfold alien at *; unfold lowA highA at *; grind); rw [hs]; simp [go_sem, Try.results55]))
 ·intro hc; try simp at hc
  all_goals try (exfalso; omega; done)
  all_goals (
 refine AW.skipN (fun _ h => h) ?_
 refine AW.seq ?_
 refine rg [5,76] ?_
 intro k hk; simp -dsimp [go_sem, -decide_eq_true_eq, -decide_eq_false_iff_not, hx, hwi]
 repeat' first | apply And.intro | refine hk _ ?_ | intro hg | omega | exact True.intro
 all_goals clear hk k
 refine AW.cond rfl ?_ ?_
 ·intro hc; try simp at hc
  all_goals try (exfalso; omega; done)
  all_goals (
 refine rg [4] ?_
 intro k hk; simp -dsimp (maxSteps := 2000000) [go_sem, -decide_eq_true_eq, -decide_eq_false_iff_not, hx, hwi]
 repeat' first | apply And.intro | refine hk _ ?_ | intro hg | (refine CallK.intro (dc_spec_l3Fault x.expr g2) ?_; simp -dsimp (maxSteps := 2000000) [go_sem, -decide_eq_true_eq, -decide_eq_false_iff_not, hx, hwi]) | omega | exact True.intro
 all_goals clear hk k
 refine rt ?_
 rw [hxo]
 first | (have hs : stepF ((pars p).take i) x = 1 := (by have := @inR_iff x.kind 1 8; unfold stepF; grind); rw [hs]; simp [go_sem, Try.results55]; done) | (have hs : stepF ((pars p).take i) x = 3 := (by have := @inR_iff x.kind 1 8; unfold stepF; grind); rw [hs]; simp [go_sem, Try.results55]; done) | (have hs : stepF ((pars p).take i) x = 2 := (by have := @inR_iff x.kind 1 8; unfold stepF; grind); rw [hs]; simp [go_sem, Try.results55]; done) | (have hs : stepF ((pars p).take i) x = nameF x.name := (by have := @inR_iff x.kind 1 8; unfold stepF; grind); rw [hs]; simp [go_sem, Try.results55]; done) | (have hs : stepF ((pars p).take i) x = exprF x.expr := (by have := @inR_iff x.kind 1 8; unfold stepF; grind); rw [hs]; simp [go_sem, Try.results55]; done) | (have hs : stepF ((pars p).take i) x = 0 := (by have := @inR_iff x.kind 1 8; unfold stepF; unfold alien at *; unfold lowA highA at *; grind); rw [hs]; simp [go_sem, Try.results55]))
 ·intro hc; try simp at hc
  all_goals try (exfalso; omega; done)
  all_goals (
 refine AW.skipN (fun _ h => h) ?_
 refine rg [4] ?_
 intro k hk; simp -dsimp [go_sem, -decide_eq_true_eq, -decide_eq_false_iff_not, hx, hwi]
 repeat' first | apply And.intro | refine hk _ ?_ | intro hg | omega | exact True.intro
 all_goals clear hk k
 refine rt ?_
 rw [hxo]
 first | (have hs : stepF ((pars p).take i) x = 1 := (by have := @inR_iff x.kind 1 8; unfold stepF; grind); rw [hs]; simp [go_sem, Try.results55]; done) | (have hs : stepF ((pars p).take i) x = 3 := (by have := @inR_iff x.kind 1 8; unfold stepF; grind); rw [hs]; simp [go_sem, Try.results55]; done) | (have hs : stepF ((pars p).take i) x = 2 := (by have := @inR_iff x.kind 1 8; unfold stepF; grind); rw [hs]; simp [go_sem, Try.results55]; done) | (have hs : stepF ((pars p).take i) x = nameF x.name := (by have := @inR_iff x.kind 1 8; unfold stepF; grind); rw [hs]; simp [go_sem, Try.results55]; done) | (have hs : stepF ((pars p).take i) x = exprF x.expr := (by have := @inR_iff x.kind 1 8; unfold stepF; grind); rw [hs]; simp [go_sem, Try.results55]; done) | (have hs : stepF ((pars p).take i) x = 0 := (by have := @inR_iff x.kind 1 8; unfold stepF; unfold alien at *; unfold lowA highA at *; grind); rw [hs]; simp [go_sem, Try.results55])))))
 ·intro hc; try simp at hc
  all_goals try (exfalso; omega; done)
  all_goals (
 refine AW.skipN (fun _ h => h) ?_
 refine AW.seq ?_
 refine rg [5,71] ?_
 intro k hk; simp -dsimp (maxSteps := 2000000) [go_sem, -decide_eq_true_eq, -decide_eq_false_iff_not, hx, hwi]
 repeat' first | apply And.intro | refine hk _ ?_ | intro hg | (refine CallK.intro (dc_spec_l4Arg _) ?_; simp -dsimp (maxSteps := 2000000) [go_sem, -decide_eq_true_eq, -decide_eq_false_iff_not, hx, hwi]) | omega | exact True.intro
 all_goals clear hk k
 refine AW.cond rfl ?_ ?_
 ·intro hc; try simp at hc
  all_goals try (exfalso; omega; done)
  all_goals (
 refine rg [4] ?_
 intro k hk; simp -dsimp [go_sem, -decide_eq_true_eq, -decide_eq_false_iff_not, hx, hwi]
 repeat' first | apply And.intro | refine hk _ ?_ | intro hg | omega | exact True.intro
 all_goals clear hk k
 refine rt ?_
 rw [hxo]
 first | (have hs : stepF ((pars p).take i) x = 1 := (by have := @inR_iff x.kind 1 8; unfold stepF; grind); rw [hs]; simp [go_sem, Try.results55]; done) | (have hs : stepF ((pars p).take i) x = 3 := (by have := @inR_iff x.kind 1 8; unfold stepF; grind); rw [hs]; simp [go_sem, Try.results55]; done) | (have hs : stepF ((pars p).take i) x = 2 := (by have := @inR_iff x.kind 1 8; unfold stepF; grind); rw [hs]; simp [go_sem, Try.results55]; done) | (have hs : stepF ((pars p).take i) x = nameF x.name := (by have := @inR_iff x.kind 1 8; unfold stepF; grind); rw [hs]; simp [go_sem, Try.results55]; done) | (have hs : stepF ((pars p).take i) x = exprF x.expr := (by have := @inR_iff x.kind 1 8; unfold stepF; grind); rw [hs]; simp [go_sem, Try.results55]; done) | (have hs : stepF ((pars p).take i) x = 0 := (by have := @inR_iff x.kind 1 8; unfold stepF; unfold alien at *; unfold lowA highA at *; grind); rw [hs]; simp [go_sem, Try.results55]))
 ·intro hc; try simp at hc
  all_goals try (exfalso; omega; done)
  all_goals (
 refine AW.skipN (fun _ h => h) ?_
 refine AW.seq ?_
 refine rg [5,76] ?_
 intro k hk; simp -dsimp [go_sem, -decide_eq_true_eq, -decide_eq_false_iff_not, hx, hwi]
 repeat' first | apply And.intro | refine hk _ ?_ | intro hg | omega | exact True.intro
 all_goals clear hk k
 refine AW.cond rfl ?_ ?_
 ·intro hc; try simp at hc
  all_goals try (exfalso; omega; done)
  all_goals (
 refine rg [4] ?_
 intro k hk; simp -dsimp (maxSteps := 2000000) [go_sem, -decide_eq_true_eq, -decide_eq_false_iff_not, hx, hwi]
 repeat' first | apply And.intro | refine hk _ ?_ | intro hg | (refine CallK.intro (dc_spec_l3Fault x.expr g2) ?_; simp -dsimp (maxSteps := 2000000) [go_sem, -decide_eq_true_eq, -decide_eq_false_iff_not, hx, hwi]) | omega | exact True.intro
 all_goals clear hk k
 refine rt ?_
 rw [hxo]
 first | (have hs : stepF ((pars p).take i) x = 1 := (by have := @inR_iff x.kind 1 8; unfold stepF; grind); rw [hs]; simp [go_sem, Try.results55]; done) | (have hs : stepF ((pars p).take i) x = 3 := (by have := @inR_iff x.kind 1 8; unfold stepF; grind); rw [hs]; simp [go_sem, Try.results55]; done) | (have hs : stepF ((pars p).take i) x = 2 := (by have := @inR_iff x.kind 1 8; unfold stepF; grind); rw [hs]; simp [go_sem, Try.results55]; done) | (have hs : stepF ((pars p).take i) x = nameF x.name := (by have := @inR_iff x.kind 1 8; unfold stepF; grind); rw [hs]; simp [go_sem, Try.results55]; done) | (have hs : stepF ((pars p).take i) x = exprF x.expr := (by have := @inR_iff x.kind 1 8; unfold stepF; grind); rw [hs]; simp [go_sem, Try.results55]; done) | (have hs : stepF ((pars p).take i) x = 0 := (by have := @inR_iff x.kind 1 8; unfold stepF; unfold alien at *; unfold lowA highA at *; grind); rw [hs]; simp [go_sem, Try.results55]))
 ·intro hc; try simp at hc
  all_goals try (exfalso; omega; done)
  all_goals (
 refine AW.skipN (fun _ h => h) ?_
 refine rg [4] ?_
 intro k hk; simp -dsimp [go_sem, -decide_eq_true_eq, -decide_eq_false_iff_not, hx, hwi]
 repeat' first | apply And.intro | refine hk _ ?_ | intro hg | omega | exact True.intro
 all_goals clear hk k
 refine rt ?_
 rw [hxo]
 first | (have hs : stepF ((pars p).take i) x = 1 := (by have := @inR_iff x.kind 1 8; unfold stepF; grind); rw [hs]; simp [go_sem, Try.results55]; done) | (have hs : stepF ((pars p).take i) x = 3 := (by have := @inR_iff x.kind 1 8; unfold stepF; grind); rw [hs]; simp [go_sem, Try.results55]; done) | (have hs : stepF ((pars p).take i) x = 2 := (by have := @inR_iff x.kind 1 8; unfold stepF; grind); rw [hs]; simp [go_sem, Try.results55]; done) | (have hs : stepF ((pars p).take i) x = nameF x.name := (by have := @inR_iff x.kind 1 8; unfold stepF; grind); rw [hs]; simp [go_sem, Try.results55]; done) | (have hs : stepF ((pars p).take i) x = exprF x.expr := (by have := @inR_iff x.kind 1 8; unfold stepF; grind); rw [hs]; simp [go_sem, Try.results55]; done) | (have hs : stepF ((pars p).take i) x = 0 := (by have := @inR_iff x.kind 1 8; unfold stepF; unfold alien at *; unfold lowA highA at *; grind); rw [hs]; simp [go_sem, Try.results55]))))))))
end Go.AM
namespace Go.AM
open Go.Proofs
theorem dc_spec_l4Shape (p : List TStep) (ho : StepsOk p) (hg : ∀ e ∈ p, e.gok) : DC Try.prog 56 [.isl 6 (p.map TStep.ro)] (.int .i64 (sc (shapeF p) p.length 0)) [] := by
 have hlen := ho.len
 refine DC.intro tiOk Try.func56 rfl rfl rfl rfl rfl rfl rfl rfl [] ?_
 refine rgA [0] ?_
 refine AW.seq ?_
 refine rgA [0,3] ?_
 refine AW.block ?_
 refine AW.loopI (fun i : Nat => ⟨49, [(0, .isl 6 (p.map TStep.ro)), (3, .int .i64 i)], []⟩) (fun i => i ≤ p.length ∧ ∀ k, k < i → shapeF p k = 0) (fun i => p.length - i) (0) (by simp) (Less.of rfl (by simp [go_sem]) (by simp [go_sem])) ?_
 rintro i ⟨hi, hall⟩
 refine AW.seq ?_
 refine rgA [0,3,8] ?_
 refine AW.cond rfl ?_ ?_
 ·intro hc; try simp at hc
  all_goals (
 have hlt : i < p.length := by assumption
 obtain ⟨x, hx⟩ := at_some hlt
 have hxS := nS_at hx
 obtain ⟨g0, g1, g2⟩ := hg x (List.mem_of_getElem? hx)
 have hkm := kids_len p (i : Int)
 refine AW.skipN (fun _ h => h) ?_
 refine AW.seq ?_
 refine AW.block ?_
 refine AW.seq ?_
 refine rg [0,3,21] ?_
 intro k hk; simp -dsimp (maxSteps := 2000000) [go_sem, -decide_eq_true_eq, -decide_eq_false_iff_not, hx]
 repeat' first | ((refine Chk.keys ?_); simp only [go_sem, List.map_cons, List.map_nil, List.flatMap_cons, List.flatMap_nil, List.flatMap_append, List.append_nil, List.nil_append, List.cons_append]; decide +kernel) | apply And.intro | refine hk _ ?_ | intro hg | ((first | refine CallK.intro (dc_spec_l4Kids p (i : Int) (by omega) (by rw [ho.par0]; omega)) ?_ | refine CallK.intro (dc_spec_l4Many x.kind (kids p (i : Int)).length (by omega)) ?_); simp -dsimp (maxSteps := 2000000) [go_sem, -decide_eq_true_eq, -decide_eq_false_iff_not, hx]) | omega | exact True.intro
 all_goals clear hk k
 refine AW.cond rfl ?_ ?_
 ·intro hc; try simp at hc
  all_goals (
 refine rg [2] ?_
 intro k hk; simp -dsimp [go_sem, -decide_eq_true_eq, -decide_eq_false_iff_not, hx]
 repeat' first | apply And.intro | refine hk _ ?_ | intro hg | omega | exact True.intro
 all_goals clear hk k
 refine rt ?_
 first | (rw [sc_none (fun k hk => hall k (by omega))]; simp [go_sem, Try.results56]; done) | (have hs : shapeF p i = 1 := (by simp [shapeF, hxS] at * <;> grind); rw [shape_sc hlt hall (by rw [hs]; decide), hs]; simp [go_sem, Try.results56]; done) | (have hs : shapeF p i = exprF x.cond := (by simp [shapeF, hxS] at * <;> grind); rw [shape_sc hlt hall (by rw [hs]; first | assumption | simpa using hc), hs]; simp [go_sem, Try.results56]))
 ·intro hc; try simp at hc
  all_goals (
 refine AW.skipN (fun _ h => h) ?_
 refine AW.seq ?_
 refine rg [0,3,32] ?_
 intro k hk; simp -dsimp (maxSteps := 2000000) [go_sem, -decide_eq_true_eq, -decide_eq_false_iff_not, hx]
 repeat' first | ((refine Chk.keys ?_); simp only [go_sem, List.map_cons, List.map_nil, List.flatMap_cons, List.flatMap_nil, List.flatMap_append, List.append_nil, List.nil_append, List.cons_append]; decide +kernel) | apply And.intro | refine hk _ ?_ | intro hg | (refine CallK.intro (dc_spec_l4Needs p ho i hlt) ?_; simp -dsimp (maxSteps := 2000000) [go_sem, -decide_eq_true_eq, -decide_eq_false_iff_not, hx]) | omega | exact True.intro
 all_goals clear hk k
 refine AW.cond rfl ?_ ?_
 ·intro hc; try simp at hc
  all_goals (
 refine rg [2] ?_
 intro k hk; simp -dsimp [go_sem, -decide_eq_true_eq, -decide_eq_false_iff_not, hx]
 repeat' first | apply And.intro | refine hk _ ?_ | intro hg | omega | exact True.intro
 all_goals clear hk k
 refine rt ?_
 first | (rw [sc_none (fun k hk => hall k (by omega))]; simp [go_sem, Try.results56]; done) | (have hs : shapeF p i = 1 := (by simp [shapeF, hxS] at * <;> grind); rw [shape_sc hlt hall (by rw [hs]; decide), hs]; simp [go_sem, Try.results56]; done) | (have hs : shapeF p i = exprF x.cond := (by simp [shapeF, hxS] at * <;> grind); rw [shape_sc hlt hall (by rw [hs]; first | assumption | simpa using hc), hs]; simp [go_sem, Try.results56]))
 ·intro hc; try simp at hc
  all_goals (
 refine AW.skipN (fun _ h => h) ?_
 refine rg [0,3,39] ?_
 intro k hk; simp -dsimp (maxSteps := 2000000) [go_sem, -decide_eq_true_eq, -decide_eq_false_iff_not, hx]
 repeat' first | apply And.intro | refine hk _ ?_ | intro hg | omega | exact True.intro
 all_goals clear hk k
 refine AW.cond rfl ?_ ?_
 ·intro hc; try simp at hc
  all_goals (
 refine rg [0,3,4] ?_
 intro k hk; simp -dsimp (maxSteps := 2000000) [go_sem, -decide_eq_true_eq, -decide_eq_false_iff_not, hx]
 repeat' first | apply And.intro | refine hk _ ?_ | intro hg | (refine CallK.intro (dc_spec_l3Fault x.cond g1) ?_; simp -dsimp (maxSteps := 2000000) [go_sem, -decide_eq_true_eq, -decide_eq_false_iff_not, hx]) | omega | exact True.intro
 all_goals clear hk k
 refine rg [0,3,4,47] ?_
 intro k hk; simp -dsimp [go_sem, -decide_eq_true_eq, -decide_eq_false_iff_not, hx]
 repeat' first | apply And.intro | refine hk _ ?_ | intro hg | omega | exact True.intro
 all_goals clear hk k
 refine AW.cond rfl ?_ ?_
 ·intro hc; try simp at hc
  all_goals (
 refine rg [2] ?_
 intro k hk; simp -dsimp [go_sem, -decide_eq_true_eq, -decide_eq_false_iff_not, hx]
 repeat' first | apply And.intro | refine hk _ ?_ | intro hg | omega | exact True.intro
 all_goals clear hk k
 refine rt ?_
 first | (rw [sc_none (fun k hk => hall k (by omega))]; simp [go_sem, Try.results56]; done) | (have hs : shapeF p i = 1 := (by simp [shapeF, hxS] at * <;> grind); rw [shape_sc hlt hall (by rw [hs]; decide), hs]; simp [go_sem, Try.results56]; done) | (have hs : shapeF p i = exprF x.cond := (by simp [shapeF, hxS] at * <;> grind); rw [shape_sc hlt hall (by rw [hs]; first | assumption | simpa using hc), hs]; simp [go_sem, Try.results56]))
 ·intro hc; try simp at hc
  all_goals (
 refine AW.skipN (fun _ h => h) ?_
 refine rgK ?_
 intro k hk; simp -dsimp [go_sem, -decide_eq_true_eq, -decide_eq_false_iff_not, hx]
 repeat' first | apply And.intro | refine hk _ ?_ | intro hg | omega | exact True.intro
 all_goals clear hk k
 show ∃ _, _
 have hw := wrapi hlt (by omega)
 refine ⟨i + 1, ⟨by omega, upto hall (by simp [shapeF, hxS] at * <;> grind)⟩, by omega, Less.of rfl (by simp [go_sem, hw]) (by simp [go_sem])⟩))
 ·intro hc; try simp at hc
  all_goals (
 refine AW.skipN (fun _ h => h) ?_
 refine rgK ?_
 intro k hk; simp -dsimp [go_sem, -decide_eq_true_eq, -decide_eq_false_iff_not, hx]
 repeat' first | apply And.intro | refine hk _ ?_ | intro hg | omega | exact True.intro
 all_goals clear hk k
 show ∃ _, _
 have hw := wrapi hlt (by omega)
 refine ⟨i + 1, ⟨by omega, upto hall (by simp [shapeF, hxS] at * <;> grind)⟩, by omega, Less.of rfl (by simp [go_sem, hw]) (by simp [go_sem])⟩))))
 ·intro hc; try simp at hc
  all_goals (
 refine AW.exitN (fun _ h => h) ?_
 refine rgA [2] ?_
 refine rt ?_
 first | (rw [sc_none (fun k hk => hall k (by omega))]; simp [go_sem, Try.results56]; done) | (have hs : shapeF p i = 1 := (by simp [shapeF, hxS] at * <;> grind); rw [shape_sc hlt hall (by rw [hs]; decide), hs]; simp [go_sem, Try.results56]; done) | (have hs : shapeF p i = exprF x.cond := (by simp [shapeF, hxS] at * <;> grind); rw [shape_sc hlt hall (by rw [hs]; first | assumption | simpa using hc), hs]; simp [go_sem, Try.results56]))
end Go.AM
namespace Go.AM
open Go.Proofs
theorem dc_spec_l4Fault (p : List TStep) (hp : p.length ≤ 9223372036854775807) (hg : ∀ e ∈ p, e.gok) : DC Try.prog 36 [.isl 6 (p.map TStep.ro)] (.int .i64 (procF p)) [] := by
 refine DC.intro tiOk Try.func36 rfl rfl rfl rfl rfl rfl rfl rfl [] ?_
 refine rgA [0] ?_
 refine AW.seq ?_
 refine AW.cut ⟨58, [(0, .isl 6 (p.map TStep.ro)), (16, .bool (decide (p.length < 1 ∨ 24 < p.length)))], []⟩ ?_ ?_
 ·skip
  refine rgK ?_
  intro k hk; simp +contextual -dsimp (maxSteps := 2000000) [go_sem, -decide_eq_true_eq, -decide_eq_false_iff_not]
  repeat' first | apply And.intro | refine hk _ ?_ | (intro hg; try simp only [decide_eq_true_eq, decide_eq_false_iff_not] at hg) | omega | exact True.intro
  all_goals clear hk k
  all_goals (show St.Less _ _; exact Less.of rfl (by simp [go_sem, -Nat.lt_one_iff, -List.length_eq_zero_iff] <;> first | omega | grind) (by simp [go_sem]))
 ·skip
  refine AW.cond rfl ?_ ?_
  ·intro hc; try simp at hc
   all_goals (
 refine rgA [2] ?_
 refine rt ?_
 first | (rw [procF_len' (by simpa using hc)]; simp [go_sem, Try.results36]; done) | (rw [procF_ok hR h1 h2 h3]; simp [go_sem, Try.results36]; done) | (have hty : tyF p i = typF x.cond 2 := (by rw [hxt]; grind); rw [procF_ty hR h1 h2 hlt hal3 (by rw [hty]; first | assumption | simpa using hc), hty]; simp [go_sem, Try.results36]; done) | (have hty : tyF p i = typF x.expr 1 := (by rw [hxt]; grind); rw [procF_ty hR h1 h2 hlt hal3 (by rw [hty]; first | assumption | simpa using hc), hty]; simp [go_sem, Try.results36]; done) | (rw [procF_shape' hR h1 (by first | assumption | simpa using hc)]; simp [go_sem, Try.results36]; done) | (rw [procF_one hR hlt hall (by first | assumption | simpa using hc)]; simp [go_sem, Try.results36]))
  ·intro hc; try simp at hc
   all_goals (
 refine AW.skipN (fun _ h => h) ?_
 refine AW.seq ?_
 have hlen : 1 ≤ p.length ∧ p.length ≤ 24 := by obtain ⟨h8, h9⟩ := hc; have : p.length ≠ 0 := (fun h => h8 (List.length_eq_zero_iff.1 h)); omega
 have hR : inR p.length 1 24 = true := inR_iff.2 (by omega)
 refine rgA [0,3] ?_
 refine AW.block ?_
 refine AW.loopI (fun i : Nat => ⟨58, [(0, .isl 6 (p.map TStep.ro)), (3, .int .i64 i)], []⟩) (fun i => i ≤ p.length ∧ ∀ k, k < i → oneF p k = 0) (fun i => p.length - i) (0) (by simp) (Less.of rfl (by simp [go_sem]) (by simp [go_sem])) ?_
 rintro i ⟨hi, hall⟩
 refine AW.seq ?_
 refine rgA [0,3,20] ?_
 refine AW.cond rfl ?_ ?_
 ·intro hc; try simp at hc
  all_goals (
 have hlt : i < p.length := by assumption
 refine AW.skipN (fun _ h => h) ?_
 refine AW.seq ?_
 refine AW.block ?_
 refine rg [0,3,4] ?_
 intro k hk; simp -dsimp (maxSteps := 2000000) [go_sem, -decide_eq_true_eq, -decide_eq_false_iff_not]
 repeat' first | apply And.intro | refine hk _ ?_ | intro hg | (refine CallK.intro (dc_spec_l4One p (by omega) hg i hlt hall) ?_; simp -dsimp (maxSteps := 2000000) [go_sem, -decide_eq_true_eq, -decide_eq_false_iff_not]) | omega | exact True.intro
 all_goals clear hk k
 refine rgA [0,3,4,27] ?_
 refine AW.cond rfl ?_ ?_
 ·intro hc; try simp at hc
  all_goals (
 refine rgA [2] ?_
 refine rt ?_
 first | (rw [procF_len' (by simpa using hc)]; simp [go_sem, Try.results36]; done) | (rw [procF_ok hR h1 h2 h3]; simp [go_sem, Try.results36]; done) | (have hty : tyF p i = typF x.cond 2 := (by rw [hxt]; grind); rw [procF_ty hR h1 h2 hlt hal3 (by rw [hty]; first | assumption | simpa using hc), hty]; simp [go_sem, Try.results36]; done) | (have hty : tyF p i = typF x.expr 1 := (by rw [hxt]; grind); rw [procF_ty hR h1 h2 hlt hal3 (by rw [hty]; first | assumption | simpa using hc), hty]; simp [go_sem, Try.results36]; done) | (rw [procF_shape' hR h1 (by first | assumption | simpa using hc)]; simp [go_sem, Try.results36]; done) | (rw [procF_one hR hlt hall (by first | assumption | simpa using hc)]; simp [go_sem, Try.results36]))
 ·intro hc; try simp at hc
  all_goals (
 refine AW.skipN (fun _ h => h) ?_
 refine rgKA ?_
 show ∃ _, _
 have hw := wrapi hlt (by omega)
 refine ⟨i + 1, ⟨by omega, upto hall (by first | assumption | simpa using hc)⟩, by omega, Less.of rfl (by simp [go_sem, hw]) (by simp [go_sem])⟩))
 ·intro hc; try simp at hc
  all_goals (
 refine AW.exitN (fun _ h => h) ?_
 refine AW.seq ?_
 have h1 : ∀ k, k < p.length → oneF p k = 0 := fun k hk => hall k (by omega)
 have ho : StepsOk p := ⟨by omega, h1⟩
 refine rg [0,5] ?_
 intro k hk; simp -dsimp (maxSteps := 2000000) [go_sem, -decide_eq_true_eq, -decide_eq_false_iff_not]
 repeat' first | apply And.intro | refine hk _ ?_ | intro hg | (refine CallK.intro (dc_spec_l4Shape p ho hg) ?_; simp -dsimp (maxSteps := 2000000) [go_sem, -decide_eq_true_eq, -decide_eq_false_iff_not]) | omega | exact True.intro
 all_goals clear hk k
 refine rgA [0,5,32] ?_
 refine AW.cond rfl ?_ ?_
 ·intro hc; try simp at hc
  all_goals (
 refine rgA [2] ?_
 refine rt ?_
 first | (rw [procF_len' (by simpa using hc)]; simp [go_sem, Try.results36]; done) | (rw [procF_ok hR h1 h2 h3]; simp [go_sem, Try.results36]; done) | (have hty : tyF p i = typF x.cond 2 := (by rw [hxt]; grind); rw [procF_ty hR h1 h2 hlt hal3 (by rw [hty]; first | assumption | simpa using hc), hty]; simp [go_sem, Try.results36]; done) | (have hty : tyF p i = typF x.expr 1 := (by rw [hxt]; grind); rw [procF_ty hR h1 h2 hlt hal3 (by rw [hty]; first | assumption | simpa using hc), hty]; simp [go_sem, Try.results36]; done) | (rw [procF_shape' hR h1 (by first | assumption | simpa using hc)]; simp [go_sem, Try.results36]; done) | (rw [procF_one hR hlt hall (by first | assumption | simpa using hc)]; simp [go_sem, Try.results36]))
 ·intro hc; try simp at hc
  all_goals (
 refine AW.skipN (fun _ h => h) ?_
 refine AW.seq ?_
 have h2 : ∀ k, k < p.length → shapeF p k = 0 := sc_all (by first | assumption | simpa using hc)
 refine rgA [0,6] ?_
 refine AW.block ?_
 refine AW.loopI (fun i : Nat => ⟨58, [(0, .isl 6 (p.map TStep.ro)), (6, .int .i64 i)], []⟩) (fun i => i ≤ p.length ∧ ∀ k, k < i → tyF p k = 0) (fun i => p.length - i) (0) (by simp) (Less.of rfl (by simp [go_sem]) (by simp [go_sem])) ?_
 rintro i ⟨hi, hal3⟩
 refine AW.seq ?_
 refine rgA [0,6,37] ?_
 refine AW.cond rfl ?_ ?_
 ·intro hc; try simp at hc
  all_goals (
 have hlt : i < p.length := by assumption
 obtain ⟨x, hx⟩ := at_some hlt
 have hxt := tyF_at hx
 obtain ⟨g0, g1, g2⟩ := hg x (List.mem_of_getElem? hx)
 refine AW.skipN (fun _ h => h) ?_
 refine AW.seq ?_
 refine AW.block ?_
 refine AW.seq ?_
 refine rg [0,6,7] ?_
 intro k hk; simp -dsimp (maxSteps := 2000000) [go_sem, -decide_eq_true_eq, -decide_eq_false_iff_not, hx]
 repeat' first | apply And.intro | refine hk _ ?_ | intro hg | ((first | refine CallK.intro (dc_spec_l4Typed x.cond 2 g1) ?_ | refine CallK.intro (dc_spec_l4Typed x.expr 1 g2) ?_); simp -dsimp (maxSteps := 2000000) [go_sem, -decide_eq_true_eq, -decide_eq_false_iff_not, hx]) | omega | exact True.intro
 all_goals clear hk k
 refine rg [0,6,7,47] ?_
 intro k hk; simp -dsimp [go_sem, -decide_eq_true_eq, -decide_eq_false_iff_not, hx]
 repeat' first | apply And.intro | refine hk _ ?_ | intro hg | omega | exact True.intro
 all_goals clear hk k
 refine AW.cond rfl ?_ ?_
 ·intro hc; try simp at hc
  all_goals (
 refine rg [2] ?_
 intro k hk; simp -dsimp [go_sem, -decide_eq_true_eq, -decide_eq_false_iff_not, hx]
 repeat' first | apply And.intro | refine hk _ ?_ | intro hg | omega | exact True.intro
 all_goals clear hk k
 refine rt ?_
 first | (rw [procF_len' (by simpa using hc)]; simp [go_sem, Try.results36]; done) | (rw [procF_ok hR h1 h2 h3]; simp [go_sem, Try.results36]; done) | (have hty : tyF p i = typF x.cond 2 := (by rw [hxt]; grind); rw [procF_ty hR h1 h2 hlt hal3 (by rw [hty]; first | assumption | simpa using hc), hty]; simp [go_sem, Try.results36]; done) | (have hty : tyF p i = typF x.expr 1 := (by rw [hxt]; grind); rw [procF_ty hR h1 h2 hlt hal3 (by rw [hty]; first | assumption | simpa using hc), hty]; simp [go_sem, Try.results36]; done) | (rw [procF_shape' hR h1 (by first | assumption | simpa using hc)]; simp [go_sem, Try.results36]; done) | (rw [procF_one hR hlt hall (by first | assumption | simpa using hc)]; simp [go_sem, Try.results36]))
 ·intro hc; try simp at hc
  all_goals (
 refine AW.skipN (fun _ h => h) ?_
 refine rg [0,6,8] ?_
 intro k hk; simp -dsimp (maxSteps := 2000000) [go_sem, -decide_eq_true_eq, -decide_eq_false_iff_not, hx]
 repeat' first | apply And.intro | refine hk _ ?_ | intro hg | ((first | refine CallK.intro (dc_spec_l4Typed x.cond 2 g1) ?_ | refine CallK.intro (dc_spec_l4Typed x.expr 1 g2) ?_); simp -dsimp (maxSteps := 2000000) [go_sem, -decide_eq_true_eq, -decide_eq_false_iff_not, hx]) | omega | exact True.intro
 all_goals clear hk k
 refine rg [0,6,8,56] ?_
 intro k hk; simp -dsimp [go_sem, -decide_eq_true_eq, -decide_eq_false_iff_not, hx]
 repeat' first | apply And.intro | refine hk _ ?_ | intro hg | omega | exact True.intro
 all_goals clear hk k
 refine AW.cond rfl ?_ ?_
 ·intro hc; try simp at hc
  all_goals (
 refine rg [2] ?_
 intro k hk; simp -dsimp [go_sem, -decide_eq_true_eq, -decide_eq_false_iff_not, hx]
 repeat' first | apply And.intro | refine hk _ ?_ | intro hg | omega | exact True.intro
 all_goals clear hk k
 refine rt ?_
 first | (rw [procF_len' (by simpa using hc)]; simp [go_sem, Try.results36]; done) | (rw [procF_ok hR h1 h2 h3]; simp [go_sem, Try.results36]; done) | (have hty : tyF p i = typF x.cond 2 := (by rw [hxt]; grind); rw [procF_ty hR h1 h2 hlt hal3 (by rw [hty]; first | assumption | simpa using hc), hty]; simp [go_sem, Try.results36]; done) | (have hty : tyF p i = typF x.expr 1 := (by rw [hxt]; grind); rw [procF_ty hR h1 h2 hlt hal3 (by rw [hty]; first | assumption | simpa using hc), hty]; simp [go_sem, Try.results36]; done) | (rw [procF_shape' hR h1 (by first | assumption | simpa using hc)]; simp [go_sem, Try.results36]; done) | (rw [procF_one hR hlt hall (by first | assumption | simpa using hc)]; simp [go_sem, Try.results36]))
 ·intro hc; try simp at hc
  all_goals (
 refine AW.skipN (fun _ h => h) ?_
 refine rgK ?_
 intro k hk; simp -dsimp [go_sem, -decide_eq_true_eq, -decide_eq_false_iff_not, hx]
 repeat' first | apply And.intro | refine hk _ ?_ | intro hg | omega | exact True.intro
 all_goals clear hk k
 show ∃ _, _
 have hw := wrapi hlt (by omega)
 have htz : tyF p i = 0 := by rw [hxt]; grind
 refine ⟨i + 1, ⟨by omega, upto hal3 htz⟩, by omega, Less.of rfl (by simp [go_sem, hw]) (by simp [go_sem])⟩)))
 ·intro hc; try simp at hc
  all_goals (
 refine AW.exitN (fun _ h => h) ?_
 have h3 : ∀ k, k < p.length → tyF p k = 0 := fun k hk => hal3 k (by omega)
 refine rgA [2] ?_
 refine rt ?_
 first | (rw [procF_len' (by simpa using hc)]; simp [go_sem, Try.results36]; done) | (rw [procF_ok hR h1 h2 h3]; simp [go_sem, Try.results36]; done) | (have hty : tyF p i = typF x.cond 2 := (by rw [hxt]; grind); rw [procF_ty hR h1 h2 hlt hal3 (by rw [hty]; first | assumption | simpa using hc), hty]; simp [go_sem, Try.results36]; done) | (have hty : tyF p i = typF x.expr 1 := (by rw [hxt]; grind); rw [procF_ty hR h1 h2 hlt hal3 (by rw [hty]; first | assumption | simpa using hc), hty]; simp [go_sem, Try.results36]; done) | (rw [procF_shape' hR h1 (by first | assumption | simpa using hc)]; simp [go_sem, Try.results36]; done) | (rw [procF_one hR hlt hall (by first | assumption | simpa using hc)]; simp [go_sem, Try.results36])))))
end Go.AM
namespace Go.AM
open Go.Proofs
theorem dc_spec_GraphOf_ok (p : List TStep) (hg : p.length ≤ 9223372036854775807 ∧ ∀ e ∈ p, e.gok) (hl : procF p = 0) : DC Try.prog 18 [.isl 6 (p.map TStep.ro)] (.agg [.int .i64 0, .osl 5 ((gNs p).map TGNode.oc), .osl 3 ((srt TFlow.frm (gFl p)).map TFlow.oc)]) [] := by
 have hP := procOk hl
 refine DC.intro tiOk Try.func18 rfl rfl rfl rfl rfl rfl rfl rfl [1000] ?_
 refine rg [0,2] ?_
 intro k hk; simp -dsimp [go_sem, -decide_eq_true_eq, -decide_eq_false_iff_not, hl]
 repeat' first | apply And.intro | refine hk _ ?_ | intro hg | omega | exact True.intro
 all_goals clear hk k
 refine AW.seq ?_
 refine rg [0,2,3] ?_
 intro k hk; simp -dsimp (maxSteps := 2000000) [go_sem, -decide_eq_true_eq, -decide_eq_false_iff_not, hl]
 repeat' first | apply And.intro | refine hk _ ?_ | intro hg | (refine CallK.intro (dc_spec_l4Fault p hg.1 hg.2) ?_; simp -dsimp (maxSteps := 2000000) [go_sem, -decide_eq_true_eq, -decide_eq_false_iff_not, hl]) | omega | exact True.intro
 all_goals clear hk k
 refine rg [0,2,3,7] ?_
 intro k hk; simp -dsimp [go_sem, -decide_eq_true_eq, -decide_eq_false_iff_not, hl]
 repeat' first | apply And.intro | refine hk _ ?_ | intro hg | omega | exact True.intro
 all_goals clear hk k
 refine AW.cond rfl ?_ ?_
 ·intro hc; try simp at hc
  all_goals try (exfalso; contradiction; done)
  all_goals (
 refine rg [2] ?_
 intro k hk; simp -dsimp [go_sem, -decide_eq_true_eq, -decide_eq_false_iff_not, hl]
 repeat' first | apply And.intro | refine hk _ ?_ | intro hg | omega | exact True.intro
 all_goals clear hk k
 refine rt ?_
 simp [go_sem, Try.results18])
 ·intro hc; try simp at hc
  all_goals try (exfalso; contradiction; done)
  all_goals (
 refine AW.skipN (fun _ h => h) ?_
 refine rg [2] ?_
 intro k hk; simp -dsimp (maxSteps := 2000000) [go_sem, -decide_eq_true_eq, -decide_eq_false_iff_not, hl]
 repeat' first | apply And.intro | refine hk _ ?_ | intro hg | (refine CallK.intro (dc_spec_l6Graph p hP) ?_; simp -dsimp (maxSteps := 2000000) [go_sem, -decide_eq_true_eq, -decide_eq_false_iff_not, hl]) | omega | exact True.intro
 all_goals clear hk k
 refine rt ?_
 simp [go_sem, Try.results18])
theorem dc_spec_GraphOf_bad (p : List TStep) (hg : p.length ≤ 9223372036854775807 ∧ ∀ e ∈ p, e.gok) (hl : procF p ≠ 0) : DC Try.prog 18 [.isl 6 (p.map TStep.ro)] (.agg [.int .i64 (procF p), .isl 5 [], .isl 3 []]) [] := by
 refine DC.intro tiOk Try.func18 rfl rfl rfl rfl rfl rfl rfl rfl [1000] ?_
 refine rg [0,2] ?_
 intro k hk; simp -dsimp [go_sem, -decide_eq_true_eq, -decide_eq_false_iff_not, hl]
 repeat' first | apply And.intro | refine hk _ ?_ | intro hg | omega | exact True.intro
 all_goals clear hk k
 refine AW.seq ?_
 refine rg [0,2,3] ?_
 intro k hk; simp -dsimp (maxSteps := 2000000) [go_sem, -decide_eq_true_eq, -decide_eq_false_iff_not, hl]
 repeat' first | apply And.intro | refine hk _ ?_ | intro hg | (refine CallK.intro (dc_spec_l4Fault p hg.1 hg.2) ?_; simp -dsimp (maxSteps := 2000000) [go_sem, -decide_eq_true_eq, -decide_eq_false_iff_not, hl]) | omega | exact True.intro
 all_goals clear hk k
 refine rg [0,2,3,7] ?_
 intro k hk; simp -dsimp [go_sem, -decide_eq_true_eq, -decide_eq_false_iff_not, hl]
 repeat' first | apply And.intro | refine hk _ ?_ | intro hg | omega | exact True.intro
 all_goals clear hk k
 refine AW.cond rfl ?_ ?_
 ·intro hc; try simp at hc
  all_goals try (exfalso; contradiction; done)
  all_goals (
 refine rg [2] ?_
 intro k hk; simp -dsimp [go_sem, -decide_eq_true_eq, -decide_eq_false_iff_not, hl]
 repeat' first | apply And.intro | refine hk _ ?_ | intro hg | omega | exact True.intro
 all_goals clear hk k
 refine rt ?_
 simp [go_sem, Try.results18])
 ·intro hc; try simp at hc
  all_goals try (exfalso; contradiction; done)
  all_goals (
 refine AW.skipN (fun _ h => h) ?_
 skip)
end Go.AM
namespace Go.AM
open Go.Proofs
theorem dc_spec_l10Node (p : List TStep) (hP : ProcOk p) (fs : List TFlow) (st : Int) : DC Try.prog 20 [.ip [.isl 5 ((gNs p).map TGNode.ro), .isl 3 (fs.map TFlow.ro)], .int .i64 st] (.int .i64 (nfI p st)) [] := by
 have hnl := gNs_len p
 have hfw := gTop_few hP
 obtain ⟨l, hl⟩ : ∃ l, gNs p = l := ⟨_, rfl⟩
 have hkd : ∀ (j : Nat) x, l[j]? = some x → (j = 0 → x.kind = 1) ∧ (j + 1 = l.length → x.kind = 2) ∧ (0 < j → j + 1 < l.length → 3 ≤ x.kind) := fun j x h => by rw [← hl] at h ⊢; exact gNs_kind hP h
 unfold nfI
 rw [hl] at hnl ⊢
 obtain ⟨x0, hx0⟩ := at_some (l := l) (i := 0) (by omega)
 have hz : idxF (isN st) l 0 = idxF (isN st) (l.drop 1) 1 := by have h9 := idxF_step (p := isN st) hx0; rw [List.drop_zero] at h9; rw [h9, if_neg (by have h8 := (hkd 0 x0 hx0).1 rfl; simp [isN, h8])]
 refine DC.intro tiOk Try.func20 rfl rfl rfl rfl rfl rfl rfl rfl [] ?_
 refine rgA [0,1] ?_
 refine AW.seq ?_
 refine rgA [0,1,5] ?_
 refine AW.block ?_
 refine AW.loopI (fun i : Nat => ⟨27, [(0, .ip [.isl 5 (l.map TGNode.ro), .isl 3 (fs.map TFlow.ro)]), (1, .int .i64 st), (5, .int .i64 (i : Nat))], []⟩) (fun i => 1 ≤ i ∧ i + 1 ≤ l.length ∧ idxF (isN st) l 0 = idxF (isN st) (l.drop i) i) (fun i => l.length - i) (1) (⟨Nat.le_refl _, by omega, hz⟩) (Less.of rfl (by simp [go_sem]) (by simp [go_sem])) ?_
 rintro i ⟨h1, hi, hinv⟩
 have hww : IntKind.wrap .i64 ((i : Int) + 1) = (i : Int) + 1 := wrap64 (by omega) (by omega)
 refine AW.seq ?_
 refine rg [0,1,5,13] ?_
 intro k hk; simp -dsimp (maxSteps := 2000000) [go_sem, -decide_eq_true_eq, -decide_eq_false_iff_not, hww]
 repeat' first | apply And.intro | refine hk _ ?_ | intro hg | omega | exact True.intro
 all_goals clear hk k
 refine AW.cond rfl ?_ ?_
 ·intro hc; try simp at hc
  all_goals (
 have hlt : i + 1 < l.length := by first | assumption | omega
 have hil : i < l.length := by omega
 obtain ⟨x, hx⟩ := at_some hil
 have hxk := (hkd i x hx).2.2 (by omega) hlt
 have hx3 := gel hx
 refine AW.skipN (fun _ h => h) ?_
 refine AW.seq ?_
 refine AW.block ?_
 refine rg [0,1,5,25] ?_
 intro k hk; simp -dsimp (maxSteps := 2000000) [go_sem, -decide_eq_true_eq, -decide_eq_false_iff_not, hx, hx3, hww, hil]
 repeat' first | apply And.intro | refine hk _ ?_ | intro hg | omega | exact True.intro
 all_goals clear hk k
 refine AW.cond rfl ?_ ?_
 ·intro hc; try simp at hc
  all_goals (
 refine rg [4] ?_
 intro k hk; simp -dsimp [go_sem, -decide_eq_true_eq, -decide_eq_false_iff_not, hx, hx3, hww, hil]
 repeat' first | apply And.intro | refine hk _ ?_ | intro hg | omega | exact True.intro
 all_goals clear hk k
 refine rt ?_
 first | (rw [hinv, idxF_step hx, if_pos (by simp [isN]; refine ⟨by first | assumption | (simp at hc; exact hc), by omega, by omega⟩)]; simp [go_sem, Try.results20]; done) | (have hil : i < l.length := (by omega); obtain ⟨x, hx⟩ := at_some hil; have hxk := (hkd i x hx).2.1 (by omega); rw [hinv, idxF_step hx, if_neg (by simp [isN, hxk]), idxF_end (by omega)]; simp [go_sem, Try.results20]))
 ·intro hc; try simp at hc
  all_goals (
 refine AW.skipN (fun _ h => h) ?_
 refine rgK ?_
 intro k hk; simp -dsimp [go_sem, -decide_eq_true_eq, -decide_eq_false_iff_not, hx, hx3, hww, hil]
 repeat' first | apply And.intro | refine hk _ ?_ | intro hg | omega | exact True.intro
 all_goals clear hk k
 show ∃ _, _
 refine ⟨i + 1, ⟨by omega, by omega, ?_⟩, by omega, Less.of rfl (by simp [go_sem, hww]) (by simp [go_sem])⟩
 rw [hinv, idxF_step hx, if_neg (by simp [isN]; intro h9; first | contradiction | omega | simp_all)]))
 ·intro hc; try simp at hc
  all_goals (
 refine AW.exitN (fun _ h => h) ?_
 refine rgA [4] ?_
 refine rt ?_
 first | (rw [hinv, idxF_step hx, if_pos (by simp [isN]; refine ⟨by first | assumption | (simp at hc; exact hc), by omega, by omega⟩)]; simp [go_sem, Try.results20]; done) | (have hil : i < l.length := (by omega); obtain ⟨x, hx⟩ := at_some hil; have hxk := (hkd i x hx).2.1 (by omega); rw [hinv, idxF_step hx, if_neg (by simp [isN, hxk]), idxF_end (by omega)]; simp [go_sem, Try.results20]))
end Go.AM
