/- Joined texts: G1 G7 Y1 Y6 F1 Y8 Am24 Am27 Am25 Am26 Am28 Y3 Z6 G2 Z8 Z1 Z4 G3 F2 F5. -/
import Derived.Test.YtepgnenjbjdccaaGreatB1
import Derived.Test.YtepgnenjbjdccaaGreatB2
import Derived.Test.YtepgnenjbjdccaaGreatB3
set_option linter.unusedVariables false
set_option linter.unusedSimpArgs false
set_option maxHeartbeats 600000
set_option maxRecDepth 100000
namespace Go.AM
open Go.Proofs
theorem dc_impl_argBounds (k : Int) : DC Tryz.prog 108 [.int .i64 k] (.tup [.int .i64 (lowA k), .int .i64 (highA k)]) [] := by
 refine DC.intro tiOk Tryz.func108 rfl rfl rfl rfl rfl rfl rfl rfl [] ?_
 refine rgA [0] ?_
 refine AW.seq ?_
 refine rgA [4] ?_
 refine AW.block ?_
 refine rgA [4,5] ?_
 refine AW.cond rfl ?_ ?_
 ·intro hc; try simp at hc
  all_goals try (exfalso; omega; done)
  all_goals (
   refine rgA [2,3] ?_
   refine rt ?_
   simp [go_sem, Tryz.results108, lowA, highA] <;> grind)
 ·intro hc; try simp at hc
  all_goals try (exfalso; omega; done)
  all_goals (
   refine AW.seq ?_
   refine rgA [4,7] ?_
   refine AW.cond rfl ?_ ?_
   ·intro hc; try simp at hc
    all_goals try (exfalso; omega; done)
    all_goals (
     refine AW.skipN (fun _ h => h) ?_
     refine AW.cond rfl ?_ ?_
     ·intro hc; try simp at hc
      all_goals try (exfalso; omega; done)
      all_goals (
       refine rgA [2,3] ?_
       refine rt ?_
       simp [go_sem, Tryz.results108, lowA, highA] <;> grind)
     ·intro hc; try simp at hc
      all_goals try (exfalso; omega; done)
      all_goals (
       refine rgA [10] ?_
       refine AW.cond rfl ?_ ?_
       ·intro hc; try simp at hc
        all_goals try (exfalso; omega; done)
        all_goals (
         refine rgA [2,3] ?_
         refine rt ?_
         simp [go_sem, Tryz.results108, lowA, highA] <;> grind)
       ·intro hc; try simp at hc
        all_goals try (exfalso; omega; done)
        all_goals (
         refine AW.skipN (fun _ h => h) ?_
         refine rgA [2,3] ?_
         refine rt ?_
         simp [go_sem, Tryz.results108, lowA, highA] <;> grind)))
   ·intro hc; try simp at hc
    all_goals try (exfalso; omega; done)
    all_goals (
     refine rgNA [4,7] (fun _ h => h) ?_
     refine AW.cond rfl ?_ ?_
     ·intro hc; try simp at hc
      all_goals try (exfalso; omega; done)
      all_goals (
       refine rgA [2,3] ?_
       refine rt ?_
       simp [go_sem, Tryz.results108, lowA, highA] <;> grind)
     ·intro hc; try simp at hc
      all_goals try (exfalso; omega; done)
      all_goals (
       refine rgA [10] ?_
       refine AW.cond rfl ?_ ?_
       ·intro hc; try simp at hc
        all_goals try (exfalso; omega; done)
        all_goals (
         refine rgA [2,3] ?_
         refine rt ?_
         simp [go_sem, Tryz.results108, lowA, highA] <;> grind)
       ·intro hc; try simp at hc
        all_goals try (exfalso; omega; done)
        all_goals (
         refine AW.skipN (fun _ h => h) ?_
         refine rgA [2,3] ?_
         refine rt ?_
         simp [go_sem, Tryz.results108, lowA, highA] <;> grind))))
theorem dc_impl_kidBounds (k : Int) : DC Tryz.prog 113 [.int .i64 k] (.tup [.int .i64 (kidLo k), .int .i64 (kidHi k)]) [] := by
 refine DC.intro tiOk Tryz.func113 rfl rfl rfl rfl rfl rfl rfl rfl [] ?_
 refine rgA [0] ?_
 refine AW.seq ?_
 refine rgA [4] ?_
 refine AW.block ?_
 refine rgA [4,5] ?_
 refine AW.cond rfl ?_ ?_
 ·intro hc; try simp at hc
  all_goals try (exfalso; omega; done)
  all_goals (
   refine rgA [2,3] ?_
   refine rt ?_
   simp [go_sem, Tryz.results113, kidLo, kidHi] <;> grind)
 ·intro hc; try simp at hc
  all_goals try (exfalso; omega; done)
  all_goals (
   refine AW.seq ?_
   refine rgA [4,7] ?_
   refine AW.cond rfl ?_ ?_
   ·intro hc; try simp at hc
    all_goals try (exfalso; omega; done)
    all_goals (
     refine AW.skipN (fun _ h => h) ?_
     refine AW.cond rfl ?_ ?_
     ·intro hc; try simp at hc
      all_goals try (exfalso; omega; done)
      all_goals (
       refine rgA [2,3] ?_
       refine rt ?_
       simp [go_sem, Tryz.results113, kidLo, kidHi] <;> grind)
     ·intro hc; try simp at hc
      all_goals try (exfalso; omega; done)
      all_goals (
       refine rgA [10] ?_
       refine AW.cond rfl ?_ ?_
       ·intro hc; try simp at hc
        all_goals try (exfalso; omega; done)
        all_goals (
         refine rgA [2,3] ?_
         refine rt ?_
         simp [go_sem, Tryz.results113, kidLo, kidHi] <;> grind)
       ·intro hc; try simp at hc
        all_goals try (exfalso; omega; done)
        all_goals (
         refine AW.skipN (fun _ h => h) ?_
         refine rgA [2,3] ?_
         refine rt ?_
         simp [go_sem, Tryz.results113, kidLo, kidHi] <;> grind)))
   ·intro hc; try simp at hc
    all_goals try (exfalso; omega; done)
    all_goals (
     refine rgNA [4,7] (fun _ h => h) ?_
     refine AW.cond rfl ?_ ?_
     ·intro hc; try simp at hc
      all_goals try (exfalso; omega; done)
      all_goals (
       refine rgA [2,3] ?_
       refine rt ?_
       simp [go_sem, Tryz.results113, kidLo, kidHi] <;> grind)
     ·intro hc; try simp at hc
      all_goals try (exfalso; omega; done)
      all_goals (
       refine rgA [10] ?_
       refine AW.cond rfl ?_ ?_
       ·intro hc; try simp at hc
        all_goals try (exfalso; omega; done)
        all_goals (
         refine rgA [2,3] ?_
         refine rt ?_
         simp [go_sem, Tryz.results113, kidLo, kidHi] <;> grind)
       ·intro hc; try simp at hc
        all_goals try (exfalso; omega; done)
        all_goals (
         refine AW.skipN (fun _ h => h) ?_
         refine rgA [2,3] ?_
         refine rt ?_
         simp [go_sem, Tryz.results113, kidLo, kidHi] <;> grind))))
theorem dc_spec_l4Many (k : Int) (n : Nat) (hn : n ≤ 24) : DC Tryz.prog 104 [.int .i64 k, .int .i64 (n : Nat)] (.bool (inR n (kidLo k) (kidHi k))) [] := by
 refine DC.intro tiOk Tryz.func104 rfl rfl rfl rfl rfl rfl rfl rfl [] ?_
 refine rgA [0,1] ?_
 refine AW.seq ?_
 refine rgA [1,5] ?_
 refine AW.block ?_
 refine rgA [1,5,6] ?_
 refine AW.cond rfl ?_ ?_
 ·intro hc; try simp at hc
  all_goals try (exfalso; omega; done)
  all_goals (
   refine rgA [4] ?_
   refine rt ?_
   simp [go_sem, Tryz.results104, inR, kidLo, kidHi] <;> grind)
 ·intro hc; try simp at hc
  all_goals try (exfalso; omega; done)
  all_goals (
   refine AW.seq ?_
   refine rgA [1,5,10] ?_
   refine AW.cond rfl ?_ ?_
   ·intro hc; try simp at hc
    all_goals try (exfalso; omega; done)
    all_goals (
     refine AW.skipN (fun _ h => h) ?_
     refine AW.cond rfl ?_ ?_
     ·intro hc; try simp at hc
      all_goals try (exfalso; omega; done)
      all_goals (
       refine rgA [4] ?_
       refine rt ?_
       simp [go_sem, Tryz.results104, inR, kidLo, kidHi] <;> grind)
     ·intro hc; try simp at hc
      all_goals try (exfalso; omega; done)
      all_goals (
       refine rgA [1,15] ?_
       refine AW.cond rfl ?_ ?_
       ·intro hc; try simp at hc
        all_goals try (exfalso; omega; done)
        all_goals (
         refine rgA [4] ?_
         refine rt ?_
         simp [go_sem, Tryz.results104, inR, kidLo, kidHi] <;> grind)
       ·intro hc; try simp at hc
        all_goals try (exfalso; omega; done)
        all_goals (
         refine AW.skipN (fun _ h => h) ?_
         refine rgA [4] ?_
         refine rt ?_
         simp [go_sem, Tryz.results104, inR, kidLo, kidHi] <;> grind)))
   ·intro hc; try simp at hc
    all_goals try (exfalso; omega; done)
    all_goals (
     refine rgNA [1,5,10] (fun _ h => h) ?_
     refine AW.cond rfl ?_ ?_
     ·intro hc; try simp at hc
      all_goals try (exfalso; omega; done)
      all_goals (
       refine rgA [4] ?_
       refine rt ?_
       simp [go_sem, Tryz.results104, inR, kidLo, kidHi] <;> grind)
     ·intro hc; try simp at hc
      all_goals try (exfalso; omega; done)
      all_goals (
       refine rgA [1,15] ?_
       refine AW.cond rfl ?_ ?_
       ·intro hc; try simp at hc
        all_goals try (exfalso; omega; done)
        all_goals (
         refine rgA [4] ?_
         refine rt ?_
         simp [go_sem, Tryz.results104, inR, kidLo, kidHi] <;> grind)
       ·intro hc; try simp at hc
        all_goals try (exfalso; omega; done)
        all_goals (
         refine AW.skipN (fun _ h => h) ?_
         refine rgA [4] ?_
         refine rt ?_
         simp [go_sem, Tryz.results104, inR, kidLo, kidHi] <;> grind))))
theorem dc_spec_l4Arg (s : TStep) : DC Tryz.prog 102 [.ip s.ro] (.bool (decide (s.kind = 5 ∨ s.kind = 6 ∨ s.kind = 7 ∨ s.kind = 8 → lowA s.kind ≤ s.arg ∧ s.arg ≤ highA s.kind))) [] := by
 refine DC.intro tiOk Tryz.func102 rfl rfl rfl rfl rfl rfl rfl rfl [] ?_
 refine rgA [0] ?_
 refine AW.seq ?_
 refine rgA [0,6] ?_
 refine AW.block ?_
 refine rgA [0,6,7] ?_
 refine AW.cond rfl ?_ ?_
 ·intro hc; try simp at hc
  all_goals try (exfalso; omega; done)
  all_goals (
   refine rg [2] ?_
   intro k hk; simp -dsimp (maxSteps := 2000000) [go_sem, -decide_eq_true_eq, -decide_eq_false_iff_not]
   repeat' first | apply And.intro | refine hk _ ?_ | intro hg | (refine CallK.intro (dc_spec_l1In _ _ _) ?_; simp -dsimp (maxSteps := 2000000) [go_sem, -decide_eq_true_eq, -decide_eq_false_iff_not]) | omega | exact True.intro
   all_goals clear hk k
   refine rt ?_
   simp [go_sem, Tryz.results102, inR, lowA, highA] <;> grind)
 ·intro hc; try simp at hc
  all_goals try (exfalso; omega; done)
  all_goals (
   refine AW.seq ?_
   refine rgA [0,6,14] ?_
   refine AW.cond rfl ?_ ?_
   ·intro hc; try simp at hc
    all_goals try (exfalso; omega; done)
    all_goals (
     refine AW.skipN (fun _ h => h) ?_
     refine AW.cond rfl ?_ ?_
     ·intro hc; try simp at hc
      all_goals try (exfalso; omega; done)
      all_goals (
       refine rg [2] ?_
       intro k hk; simp -dsimp (maxSteps := 2000000) [go_sem, -decide_eq_true_eq, -decide_eq_false_iff_not]
       repeat' first | apply And.intro | refine hk _ ?_ | intro hg | (refine CallK.intro (dc_spec_l1In _ _ _) ?_; simp -dsimp (maxSteps := 2000000) [go_sem, -decide_eq_true_eq, -decide_eq_false_iff_not]) | omega | exact True.intro
       all_goals clear hk k
       refine rt ?_
       simp [go_sem, Tryz.results102, inR, lowA, highA] <;> grind)
     ·intro hc; try simp at hc
      all_goals try (exfalso; omega; done)
      all_goals (
       refine rgA [0,22] ?_
       refine AW.cond rfl ?_ ?_
       ·intro hc; try simp at hc
        all_goals try (exfalso; omega; done)
        all_goals (
         refine rg [2] ?_
         intro k hk; simp -dsimp (maxSteps := 2000000) [go_sem, -decide_eq_true_eq, -decide_eq_false_iff_not]
         repeat' first | apply And.intro | refine hk _ ?_ | intro hg | (refine CallK.intro (dc_spec_l1In _ _ _) ?_; simp -dsimp (maxSteps := 2000000) [go_sem, -decide_eq_true_eq, -decide_eq_false_iff_not]) | omega | exact True.intro
         all_goals clear hk k
         refine rt ?_
         simp [go_sem, Tryz.results102, inR, lowA, highA] <;> grind)
       ·intro hc; try simp at hc
        all_goals try (exfalso; omega; done)
        all_goals (
         refine AW.skipN (fun _ h => h) ?_
         refine rgA [2] ?_
         refine rt ?_
         simp [go_sem, Tryz.results102, inR, lowA, highA] <;> grind)))
   ·intro hc; try simp at hc
    all_goals try (exfalso; omega; done)
    all_goals (
     refine rgNA [0,6,14] (fun _ h => h) ?_
     refine AW.cond rfl ?_ ?_
     ·intro hc; try simp at hc
      all_goals try (exfalso; omega; done)
      all_goals (
       refine rg [2] ?_
       intro k hk; simp -dsimp (maxSteps := 2000000) [go_sem, -decide_eq_true_eq, -decide_eq_false_iff_not]
       repeat' first | apply And.intro | refine hk _ ?_ | intro hg | (refine CallK.intro (dc_spec_l1In _ _ _) ?_; simp -dsimp (maxSteps := 2000000) [go_sem, -decide_eq_true_eq, -decide_eq_false_iff_not]) | omega | exact True.intro
       all_goals clear hk k
       refine rt ?_
       simp [go_sem, Tryz.results102, inR, lowA, highA] <;> grind)
     ·intro hc; try simp at hc
      all_goals try (exfalso; omega; done)
      all_goals (
       refine rgA [0,22] ?_
       refine AW.cond rfl ?_ ?_
       ·intro hc; try simp at hc
        all_goals try (exfalso; omega; done)
        all_goals (
         refine rg [2] ?_
         intro k hk; simp -dsimp (maxSteps := 2000000) [go_sem, -decide_eq_true_eq, -decide_eq_false_iff_not]
         repeat' first | apply And.intro | refine hk _ ?_ | intro hg | (refine CallK.intro (dc_spec_l1In _ _ _) ?_; simp -dsimp (maxSteps := 2000000) [go_sem, -decide_eq_true_eq, -decide_eq_false_iff_not]) | omega | exact True.intro
         all_goals clear hk k
         refine rt ?_
         simp [go_sem, Tryz.results102, inR, lowA, highA] <;> grind)
       ·intro hc; try simp at hc
        all_goals try (exfalso; omega; done)
        all_goals (
         refine AW.skipN (fun _ h => h) ?_
         refine rgA [2] ?_
         refine rt ?_
         simp [go_sem, Tryz.results102, inR, lowA, highA] <;> grind))))
theorem dc_spec_l4Bare (s : TStep) (hg : s.gok) : DC Tryz.prog 98 [.ip s.ro] (.bool (!alien s)) [] := by
 obtain ⟨g0, g1, g2⟩ := hg
 refine DC.intro tiOk Tryz.func98 rfl rfl rfl rfl rfl rfl rfl rfl [] ?_
 refine rgA [0] ?_
 refine rg [0,3] ?_
 intro k hk; simp -dsimp (maxSteps := 2000000) [go_sem, -decide_eq_true_eq, -decide_eq_false_iff_not]
 repeat' first | apply And.intro | refine hk _ ?_ | intro hg | (refine CallK.intro (dc_spec_l1In _ _ _) ?_; simp -dsimp (maxSteps := 2000000) [go_sem, -decide_eq_true_eq, -decide_eq_false_iff_not]) | omega | exact True.intro
 all_goals clear hk k
 refine AW.cut ⟨46, [(2, .bool (!alien s))], []⟩ ?_ ?_
 ·skip
  refine rgK ?_
  intro k hk; simp +contextual -dsimp (maxSteps := 2000000) [go_sem, -decide_eq_true_eq, -decide_eq_false_iff_not]
  repeat' first | apply And.intro | refine hk _ ?_ | (intro hg; try simp only [decide_eq_true_eq, decide_eq_false_iff_not] at hg) | omega | exact True.intro
  all_goals clear hk k
  all_goals (show St.Less _ _; exact Less.of rfl (by simp [go_sem, alien, highA, inR] at * <;> grind) (by simp [go_sem]))
 ·skip
  refine rt ?_
  simp [go_sem, Tryz.results98]
theorem dc_impl_parents_next_z (par : Int) : DC Tryz.prog 109 [.op [.nils, .nils], .int .i64 par] (.int .i64 (parF [] par)) [(0, .op [nlc 1 ((nxtL [] par).map I1), nlc 1 ((nxtD [] [] par).map I1)])] := by
 have hwm : IntKind.wrap .i64 (-1) = -1 := wrap64 (by omega) (by omega)
 refine DC.intro tiOk Tryz.func109 rfl rfl rfl rfl rfl rfl rfl (by simp [noW, noWo]) [] ?_
 refine rg [0,1] ?_
 intro k hk; simp -dsimp [go_sem, -decide_eq_true_eq, -decide_eq_false_iff_not, hwm]
 repeat' first | apply And.intro | refine hk _ ?_ | intro hg | omega | exact True.intro
 all_goals clear hk k
 refine rg [0,1,5] ?_
 intro k hk; simp -dsimp [go_sem, -decide_eq_true_eq, -decide_eq_false_iff_not, hwm]
 repeat' first | apply And.intro | refine hk _ ?_ | intro hg | omega | exact True.intro
 all_goals clear hk k
 refine AW.seq ?_
 refine AW.cut ⟨75, [(0, .ptr 1900 2 0 0), (1, .int .i64 par), (5, .int .i64 0), (29, .bool (decide (par ≠ -1)))], [(1900, some ⟨2, [[.nils, .nils]]⟩)]⟩ ?_ ?_
 ·skip
  refine rgK ?_
  intro k hk; simp +contextual -dsimp (maxSteps := 2000000) [go_sem, -decide_eq_true_eq, -decide_eq_false_iff_not, hwm]
  repeat' first | apply And.intro | refine hk _ ?_ | (intro hg; try simp only [decide_eq_true_eq, decide_eq_false_iff_not] at hg) | (refine CallK.intro (dc_impl_inRange _ _ _) ?_; simp +contextual -dsimp (maxSteps := 2000000) [go_sem, -decide_eq_true_eq, -decide_eq_false_iff_not, hwm]) | omega | exact True.intro
  all_goals clear hk k
  all_goals (show St.Less _ _; exact Less.of rfl (by simp [go_sem] <;> grind) (by simp [go_sem]))
 ·skip
  refine AW.cond rfl ?_ ?_
  ·intro hc; try simp at hc
   all_goals try (exfalso; omega; done)
   all_goals (
    refine rg [0,4] ?_
    intro k hk; simp -dsimp [go_sem, -decide_eq_true_eq, -decide_eq_false_iff_not, hwm]
    repeat' first | apply And.intro | refine hk _ ?_ | intro hg | omega | exact True.intro
    all_goals clear hk k
    refine rt ?_
    first | (have hpm : par = -1 := (by assumption); subst hpm; simp [go_sem, Tryz.results109, nxtL, nxtD, parF]; done) | (have hpm : ¬ par = -1 := (by first | assumption | simpa using hc); simp [go_sem, Tryz.results109, nxtL, nxtD, parF, hpm]))
  ·intro hc; try simp at hc
   all_goals try (exfalso; omega; done)
   all_goals (
    refine AW.skipN (fun _ h => h) ?_
    have hpm : par = -1 := by simpa using hc
    refine rg [0,1,6] ?_
    intro k hk; simp -dsimp [go_sem, -decide_eq_true_eq, -decide_eq_false_iff_not, hwm, hpm]
    repeat' first | apply And.intro | refine hk _ ?_ | intro hg | omega | exact True.intro
    all_goals clear hk k
    refine AW.seq ?_
    refine AW.block ?_
    refine AW.loopI (fun _ : Nat => ⟨75, [(0, .ptr 1900 2 0 0), (1, .int .i64 par), (6, .int .i64 (-1))], [(1900, some ⟨2, [[.nils, .nils]]⟩)]⟩) (fun _ => True) (fun _ => 0) (0) (trivial) (Less.of rfl (by simp [go_sem, hpm, hwm]) (by simp [go_sem])) ?_
    rintro i _
    refine AW.seq ?_
    refine rg [0,1,6,34] ?_
    intro k hk; simp -dsimp [go_sem, -decide_eq_true_eq, -decide_eq_false_iff_not, hwm]
    repeat' first | apply And.intro | refine hk _ ?_ | intro hg | omega | exact True.intro
    all_goals clear hk k
    refine AW.cond rfl ?_ ?_
    ·intro hc; try simp at hc
     all_goals try (exfalso; omega; done)
     all_goals (
      refine AW.skipN (fun _ h => h) ?_
      refine AW.block ?_
      refine rgK ?_
      intro k hk; simp -dsimp (maxSteps := 2000000) [go_sem, -decide_eq_true_eq, -decide_eq_false_iff_not, hwm]
      repeat' first | apply And.intro | refine hk _ ?_ | intro hg | omega | exact True.intro
      all_goals clear hk k
      show ∃ _, _
      exfalso; omega)
    ·intro hc; try simp at hc
     all_goals try (exfalso; omega; done)
     all_goals (
      refine AW.exitN (fun _ h => h) ?_
      refine AW.seq ?_
      refine rg [0,1,44] ?_
      intro k hk; simp -dsimp [go_sem, -decide_eq_true_eq, -decide_eq_false_iff_not, hwm]
      repeat' first | apply And.intro | refine hk _ ?_ | intro hg | omega | exact True.intro
      all_goals clear hk k
      refine AW.cond rfl ?_ ?_
      ·intro hc; try simp at hc
       all_goals try (exfalso; omega; done)
       all_goals (
        refine rg [0,4] ?_
        intro k hk; simp -dsimp [go_sem, -decide_eq_true_eq, -decide_eq_false_iff_not, hwm]
        repeat' first | apply And.intro | refine hk _ ?_ | intro hg | omega | exact True.intro
        all_goals clear hk k
        refine rt ?_
        first | (have hpm : par = -1 := (by assumption); subst hpm; simp [go_sem, Tryz.results109, nxtL, nxtD, parF]; done) | (have hpm : ¬ par = -1 := (by first | assumption | simpa using hc); simp [go_sem, Tryz.results109, nxtL, nxtD, parF, hpm]))
      ·intro hc; try simp at hc
       all_goals try (exfalso; omega; done)
       all_goals (
        refine AW.skipN (fun _ h => h) ?_
        refine rg [0,1,7] ?_
        intro k hk; simp -dsimp [go_sem, -decide_eq_true_eq, -decide_eq_false_iff_not, hwm]
        repeat' first | apply And.intro | refine hk _ ?_ | intro hg | omega | exact True.intro
        all_goals clear hk k
        refine AW.seq ?_
        refine rg [0,1,7,46] ?_
        intro k hk; simp -dsimp [go_sem, -decide_eq_true_eq, -decide_eq_false_iff_not, hwm]
        repeat' first | apply And.intro | refine hk _ ?_ | intro hg | omega | exact True.intro
        all_goals clear hk k
        refine AW.cond rfl ?_ ?_
        ·intro hc; try simp at hc
         all_goals try (exfalso; omega; done)
         all_goals (
          refine rgN [0,1,7] (fun _ h => h) ?_
          intro k hk; simp -dsimp (maxSteps := 2000000) [go_sem, -decide_eq_true_eq, -decide_eq_false_iff_not, hwm]
          repeat' first | apply And.intro | refine hk _ ?_ | intro hg | omega | exact True.intro
          all_goals clear hk k
          refine rg [0] ?_
          intro k hk; simp -dsimp (maxSteps := 2000000) [go_sem, -decide_eq_true_eq, -decide_eq_false_iff_not, hwm]
          repeat' first | (refine Chk.keys ?_; simp only [go_sem, List.map_cons, List.map_nil, List.flatMap_cons, List.flatMap_nil, List.flatMap_append, List.append_nil, List.nil_append, List.cons_append]; decide +kernel) | apply And.intro | refine hk _ ?_ | intro hg | omega | exact True.intro
          all_goals clear hk k
          refine AW.fold (nd := ?nd_1) (c := ?c_1) (l := ?l_1) (es := ?es_1) (n := ?n_1) 1900 0 0 63 ?h1_1 ?h2_1 ?h4_1 ?h3_1 ?hn_1 (by decide) ?h6_1 ?kk_1
          (case h1_1 => exact rfl)
          (case h2_1 => exact rfl)
          (case h4_1 => exact rfl)
          (case h3_1 => exact rfl)
          (case hn_1 => simp)
          (case h6_1 => simp [go_sem])
          refine AW.fold (nd := ?nd_2) (c := ?c_2) (l := ?l_2) (es := ?es_2) (n := ?n_2) 1900 0 1 70 ?h1_2 ?h2_2 ?h4_2 ?h3_2 ?hn_2 (by decide) ?h6_2 ?kk_2
          (case h1_2 => exact rfl)
          (case h2_2 => exact rfl)
          (case h4_2 => exact rfl)
          (case h3_2 => exact rfl)
          (case hn_2 => simp)
          (case h6_2 => simp [go_sem])
          refine rg [0,4] ?_
          intro k hk; simp -dsimp [go_sem, -decide_eq_true_eq, -decide_eq_false_iff_not, hwm]
          repeat' first | apply And.intro | refine hk _ ?_ | intro hg | omega | exact True.intro
          all_goals clear hk k
          refine rt ?_
          first | (have hpm : par = -1 := (by assumption); subst hpm; simp [go_sem, Tryz.results109, nxtL, nxtD, parF]; done) | (have hpm : ¬ par = -1 := (by first | assumption | simpa using hc); simp [go_sem, Tryz.results109, nxtL, nxtD, parF, hpm]))
        ·intro hc; try simp at hc
         all_goals try (exfalso; omega; done)
         all_goals (
          refine AW.skipN (fun _ h => h) ?_
          refine rg [0] ?_
          intro k hk; simp -dsimp (maxSteps := 2000000) [go_sem, -decide_eq_true_eq, -decide_eq_false_iff_not, hwm]
          repeat' first | (refine Chk.keys ?_; simp only [go_sem, List.map_cons, List.map_nil, List.flatMap_cons, List.flatMap_nil, List.flatMap_append, List.append_nil, List.nil_append, List.cons_append]; decide +kernel) | apply And.intro | refine hk _ ?_ | intro hg | omega | exact True.intro
          all_goals clear hk k
          refine AW.fold (nd := ?nd_3) (c := ?c_3) (l := ?l_3) (es := ?es_3) (n := ?n_3) 1900 0 0 63 ?h1_3 ?h2_3 ?h4_3 ?h3_3 ?hn_3 (by decide) ?h6_3 ?kk_3
          (case h1_3 => exact rfl)
          (case h2_3 => exact rfl)
          (case h4_3 => exact rfl)
          (case h3_3 => exact rfl)
          (case hn_3 => simp)
          (case h6_3 => simp [go_sem])
          refine AW.fold (nd := ?nd_4) (c := ?c_4) (l := ?l_4) (es := ?es_4) (n := ?n_4) 1900 0 1 70 ?h1_4 ?h2_4 ?h4_4 ?h3_4 ?hn_4 (by decide) ?h6_4 ?kk_4
          (case h1_4 => exact rfl)
          (case h2_4 => exact rfl)
          (case h4_4 => exact rfl)
          (case h3_4 => exact rfl)
          (case hn_4 => simp)
          (case h6_4 => simp [go_sem])
          refine rg [0,4] ?_
          intro k hk; simp -dsimp [go_sem, -decide_eq_true_eq, -decide_eq_false_iff_not, hwm]
          repeat' first | apply And.intro | refine hk _ ?_ | intro hg | omega | exact True.intro
          all_goals clear hk k
          refine rt ?_
          first | (have hpm : par = -1 := (by assumption); subst hpm; simp [go_sem, Tryz.results109, nxtL, nxtD, parF]; done) | (have hpm : ¬ par = -1 := (by first | assumption | simpa using hc); simp [go_sem, Tryz.results109, nxtL, nxtD, parF, hpm])))))
theorem dc_impl_parents_next_s (l d : List Int) (par : Int) (hl : ParOk l) (hd : d = depsOf l) (hn : l ≠ []) (h24 : l.length ≤ 24) : DC Tryz.prog 109 [.op [.osl 1 (l.map I1), .osl 1 (d.map I1)], .int .i64 par] (.int .i64 (parF l par)) [(0, .op [nlc 1 ((nxtL l par).map I1), nlc 1 ((nxtD l d par).map I1)])] := by
 have hlp : 0 < l.length := List.length_pos_iff.2 hn
 have hdl : d.length = l.length := by rw [hd]; exact depsOf_len l
 have hnl := nlc_map (f := I1) hn 1
 have hnd := nlc_map (f := I1) (l := d) (by intro h; rw [h] at hdl; simp at hdl; omega) 1
 have hw1 : IntKind.wrap .i64 ((l.length : Int) - 1) = (l.length : Int) - 1 := wrap64 (by omega) (by omega)
 have htl : List.take l.length (d.map I1) = d.map I1 := List.take_of_length_le (by simp [hdl])
 refine DC.intro tiOk Tryz.func109 rfl rfl rfl rfl rfl rfl rfl (by simp [noW, noWo]) [] ?_
 refine rg [0,1] ?_
 intro k hk; simp -dsimp [go_sem, -decide_eq_true_eq, -decide_eq_false_iff_not, hw1, hdl, htl]
 repeat' first | apply And.intro | refine hk _ ?_ | intro hg | omega | exact True.intro
 all_goals clear hk k
 refine AW.thaw (nd := ?nd_1) (c := ?c_1) (l := ?l_1) (es := ?es_1) 1900 0 0 7001 ?h1_1 ?h2_1 ?h3_1 ?h45_1 ?kk_1
 (case h1_1 => exact rfl)
 (case h2_1 => exact rfl)
 (case h3_1 => exact rfl)
 (case h45_1 => simp [go_sem])
 refine AW.thaw (nd := ?nd_2) (c := ?c_2) (l := ?l_2) (es := ?es_2) 1900 0 1 7002 ?h1_2 ?h2_2 ?h3_2 ?h45_2 ?kk_2
 (case h1_2 => exact rfl)
 (case h2_2 => exact rfl)
 (case h3_2 => exact rfl)
 (case h45_2 => simp [go_sem])
 refine rg [0,1,5] ?_
 intro k hk; simp -dsimp [go_sem, -decide_eq_true_eq, -decide_eq_false_iff_not, hw1, hdl, htl]
 repeat' first | apply And.intro | refine hk _ ?_ | intro hg | omega | exact True.intro
 all_goals clear hk k
 refine AW.seq ?_
 refine AW.cut ⟨75, [(0, .ptr 1900 2 0 0), (1, .int .i64 par), (5, .int .i64 (l.length : Nat)), (29, .bool (decide (parF l par = 3)))], [(7001, some ⟨1, l.map I1⟩), (7002, some ⟨1, d.map I1⟩), (1900, some ⟨2, [[.sl 7001 1 0 l.length, .sl 7002 1 0 l.length]]⟩)]⟩ ?_ ?_
 ·skip
  refine rgK ?_
  intro k hk; simp +contextual -dsimp (maxSteps := 2000000) [go_sem, -decide_eq_true_eq, -decide_eq_false_iff_not, hw1, hdl, htl]
  repeat' first | apply And.intro | refine hk _ ?_ | (intro hg; try simp only [decide_eq_true_eq, decide_eq_false_iff_not] at hg) | (refine CallK.intro (dc_impl_inRange _ _ _) ?_; simp +contextual -dsimp (maxSteps := 2000000) [go_sem, -decide_eq_true_eq, -decide_eq_false_iff_not, hw1, hdl, htl]) | omega | exact True.intro
  all_goals clear hk k
  all_goals (show St.Less _ _; exact Less.of rfl (by simp [go_sem, parF, inR] at * <;> grind) (by simp [go_sem, hdl]))
 ·skip
  refine AW.cond rfl ?_ ?_
  ·intro hc; try simp at hc
   all_goals try (exfalso; omega; done)
   all_goals (
    refine AW.fold (nd := ?nd_3) (c := ?c_3) (l := ?l_3) (es := ?es_3) (n := ?n_3) 1900 0 0 7001 ?h1_3 ?h2_3 ?h4_3 ?h3_3 ?hn_3 (by decide) ?h6_3 ?kk_3
    (case h1_3 => exact rfl)
    (case h2_3 => exact rfl)
    (case h4_3 => exact rfl)
    (case h3_3 => exact rfl)
    (case hn_3 => simp [hdl])
    (case h6_3 => simp [go_sem, hdl])
    refine AW.fold (nd := ?nd_4) (c := ?c_4) (l := ?l_4) (es := ?es_4) (n := ?n_4) 1900 0 1 7002 ?h1_4 ?h2_4 ?h4_4 ?h3_4 ?hn_4 (by decide) ?h6_4 ?kk_4
    (case h1_4 => exact rfl)
    (case h2_4 => exact rfl)
    (case h4_4 => exact rfl)
    (case h3_4 => exact rfl)
    (case hn_4 => simp [hdl])
    (case h6_4 => simp [go_sem, hdl])
    have hp3 : parF l par = 3 := by simpa using hc
    refine rg [0,4] ?_
    intro k hk; simp -dsimp [go_sem, -decide_eq_true_eq, -decide_eq_false_iff_not, hw1, hdl, htl]
    repeat' first | apply And.intro | refine hk _ ?_ | intro hg | omega | exact True.intro
    all_goals clear hk k
    refine rt ?_
    first | (simp [go_sem, Tryz.results109, nxtL, nxtD, hp3, hnl, hnd]; done) | (simp [go_sem, Tryz.results109, nxtL, nxtD, hp1, hnl, hnd]; done) | (simp [go_sem, Tryz.results109, hb, hnl2, hnd2, hp0, hnl, hnd, htl]; done))
  ·intro hc; try simp at hc
   all_goals try (exfalso; omega; done)
   all_goals (
    refine AW.skipN (fun _ h => h) ?_
    have hp3 : ¬ parF l par = 3 := by simpa using hc
    have hpr := parF_not3 hlp hp3
    refine rg [0,1,6] ?_
    intro k hk; simp -dsimp [go_sem, -decide_eq_true_eq, -decide_eq_false_iff_not, hw1, hdl, htl]
    repeat' first | apply And.intro | refine hk _ ?_ | intro hg | omega | exact True.intro
    all_goals clear hk k
    refine AW.seq ?_
    refine AW.block ?_
    refine AW.loopI (fun a : Int => ⟨75, [(0, .ptr 1900 2 0 0), (1, .int .i64 par), (6, .int .i64 a)], [(7001, some ⟨1, l.map I1⟩), (7002, some ⟨1, d.map I1⟩), (1900, some ⟨2, [[.sl 7001 1 0 l.length, .sl 7002 1 0 l.length]]⟩)]⟩) (fun a => -1 ≤ a ∧ a < l.length ∧ upB l a par = upB l ((l.length : Int) - 1) par) (fun a => (a + 1).toNat) ((l.length : Int) - 1) (by refine ⟨by omega, by omega, rfl⟩) (Less.of rfl (by simp [go_sem, hdl]) (by simp [go_sem, hdl])) ?_
    rintro a ⟨ha0, ha1, hinv⟩
    refine AW.seq ?_
    refine rg [0,1,6,34] ?_
    intro k hk; simp -dsimp [go_sem, -decide_eq_true_eq, -decide_eq_false_iff_not, hw1, hdl, htl]
    repeat' first | apply And.intro | refine hk _ ?_ | intro hg | omega | exact True.intro
    all_goals clear hk k
    refine AW.cond rfl ?_ ?_
    ·intro hc; try simp at hc
     all_goals try (exfalso; omega; done)
     all_goals (
      have hlt : par < a := by assumption
      obtain ⟨k, hk⟩ : ∃ k : Nat, a = k := ⟨_, (Int.toNat_of_nonneg (show 0 ≤ a by omega)).symm⟩
      subst hk
      obtain ⟨x, hx⟩ := at_some (l := l) (show k < l.length by omega)
      have hxg : l.getD k 0 = x := by rw [List.getD, hx]; rfl
      have hxl := hl k (by omega)
      rw [hxg] at hxl
      refine AW.skipN (fun _ h => h) ?_
      refine AW.block ?_
      refine rgK ?_
      intro k hk; simp -dsimp (maxSteps := 2000000) [go_sem, -decide_eq_true_eq, -decide_eq_false_iff_not, hw1, hdl, htl, hx]
      repeat' first | apply And.intro | refine hk _ ?_ | intro hg | omega | exact True.intro
      all_goals clear hk k
      show ∃ _, _
      refine ⟨x, ⟨by omega, by omega, ?_⟩, by omega, Less.of rfl (by simp [go_sem]) (by simp [go_sem])⟩
      rw [← hinv, upB_eq hl (show (0 : Int) ≤ (k : Int) by omega) (by omega), if_neg (by omega), Int.toNat_natCast, hxg])
    ·intro hc; try simp at hc
     all_goals try (exfalso; omega; done)
     all_goals (
      refine AW.exitN (fun _ h => h) ?_
      refine AW.seq ?_
      refine rg [0,1,44] ?_
      intro k hk; simp -dsimp [go_sem, -decide_eq_true_eq, -decide_eq_false_iff_not, hw1, hdl, htl]
      repeat' first | apply And.intro | refine hk _ ?_ | intro hg | omega | exact True.intro
      all_goals clear hk k
      refine AW.cond rfl ?_ ?_
      ·intro hc; try simp at hc
       all_goals try (exfalso; omega; done)
       all_goals (
        refine AW.fold (nd := ?nd_5) (c := ?c_5) (l := ?l_5) (es := ?es_5) (n := ?n_5) 1900 0 0 7001 ?h1_5 ?h2_5 ?h4_5 ?h3_5 ?hn_5 (by decide) ?h6_5 ?kk_5
        (case h1_5 => exact rfl)
        (case h2_5 => exact rfl)
        (case h4_5 => exact rfl)
        (case h3_5 => exact rfl)
        (case hn_5 => simp [hdl])
        (case h6_5 => simp [go_sem, hdl])
        refine AW.fold (nd := ?nd_6) (c := ?c_6) (l := ?l_6) (es := ?es_6) (n := ?n_6) 1900 0 1 7002 ?h1_6 ?h2_6 ?h4_6 ?h3_6 ?hn_6 (by decide) ?h6_6 ?kk_6
        (case h1_6 => exact rfl)
        (case h2_6 => exact rfl)
        (case h4_6 => exact rfl)
        (case h3_6 => exact rfl)
        (case hn_6 => simp [hdl])
        (case h6_6 => simp [go_sem, hdl])
        have hup : upB l ((l.length : Int) - 1) par = false := by rw [← hinv]; exact upB_lt hl l.length a (by omega) (by omega) (by omega)
        have hp1 : parF l par = 1 := by unfold parF; rw [if_neg (by omega), if_pos ⟨hlp, hup⟩]
        refine rg [0,4] ?_
        intro k hk; simp -dsimp [go_sem, -decide_eq_true_eq, -decide_eq_false_iff_not, hw1, hdl, htl]
        repeat' first | apply And.intro | refine hk _ ?_ | intro hg | omega | exact True.intro
        all_goals clear hk k
        refine rt ?_
        first | (simp [go_sem, Tryz.results109, nxtL, nxtD, hp3, hnl, hnd]; done) | (simp [go_sem, Tryz.results109, nxtL, nxtD, hp1, hnl, hnd]; done) | (simp [go_sem, Tryz.results109, hb, hnl2, hnd2, hp0, hnl, hnd, htl]; done))
      ·intro hc; try simp at hc
       all_goals try (exfalso; omega; done)
       all_goals (
        refine AW.skipN (fun _ h => h) ?_
        have hpa : a = par := by first | assumption | omega
        have hup : upB l ((l.length : Int) - 1) par = true := by rw [← hinv, upB_eq hl (by omega) (by omega), if_pos hpa]
        have hp0 : parF l par = 0 := by unfold parF; rw [if_neg (by omega), if_neg (by rw [hup]; simp)]
        refine rg [0,1,7] ?_
        intro k hk; simp -dsimp [go_sem, -decide_eq_true_eq, -decide_eq_false_iff_not, hw1, hdl, htl]
        repeat' first | apply And.intro | refine hk _ ?_ | intro hg | omega | exact True.intro
        all_goals clear hk k
        refine AW.seq ?_
        refine rg [0,1,7,46] ?_
        intro k hk; simp -dsimp [go_sem, -decide_eq_true_eq, -decide_eq_false_iff_not, hw1, hdl, htl]
        repeat' first | apply And.intro | refine hk _ ?_ | intro hg | omega | exact True.intro
        all_goals clear hk k
        refine AW.cond rfl ?_ ?_
        ·intro hc; try simp at hc
         all_goals try (exfalso; omega; done)
         all_goals (
          obtain ⟨b, hb⟩ : ∃ b : Nat, par = b := ⟨_, (Int.toNat_of_nonneg hpr.1).symm⟩
          have hdb : d[b]? = some (dep l b) := by rw [hd]; exact depsOf_at (by omega)
          have hds := dep_small hl (a := (b : Int)) (by omega)
          have hw2 : IntKind.wrap .i64 (dep l b + 1) = dep l b + 1 := wrap64 (by omega) (by omega)
          have hdg : d.getD b 0 = dep l b := by rw [List.getD, hdb]; rfl
          have hnl2 : nxtL l par = l ++ [par] := nxtL_app hp0
          have hnd2 : nxtD l d par = d ++ [dep l b + 1] := by rw [nxtD, if_pos hp0, if_pos hpr.1, hb, Int.toNat_natCast, hdg]
          rw [hb] at hnl2 hnd2 hp0
          refine rgN [0,1,7] (fun _ h => h) ?_
          intro k hk; simp -dsimp (maxSteps := 2000000) [go_sem, -decide_eq_true_eq, -decide_eq_false_iff_not, hw1, hdl, htl, hb, hdb, hw2]
          repeat' first | apply And.intro | refine hk _ ?_ | intro hg | omega | exact True.intro
          all_goals clear hk k
          refine rg [0] ?_
          intro k hk; simp -dsimp (maxSteps := 2000000) [go_sem, -decide_eq_true_eq, -decide_eq_false_iff_not, hw1, hdl, htl]
          repeat' first | (refine Chk.keys ?_; simp only [go_sem, List.map_cons, List.map_nil, List.flatMap_cons, List.flatMap_nil, List.flatMap_append, List.append_nil, List.nil_append, List.cons_append]; decide +kernel) | apply And.intro | refine hk _ ?_ | intro hg | omega | exact True.intro
          all_goals clear hk k
          refine AW.fold (nd := ?nd_7) (c := ?c_7) (l := ?l_7) (es := ?es_7) (n := ?n_7) 1900 0 0 63 ?h1_7 ?h2_7 ?h4_7 ?h3_7 ?hn_7 (by decide) ?h6_7 ?kk_7
          (case h1_7 => exact rfl)
          (case h2_7 => exact rfl)
          (case h4_7 => exact rfl)
          (case h3_7 => exact rfl)
          (case hn_7 => simp [hdl])
          (case h6_7 => simp [go_sem, hdl])
          refine AW.fold (nd := ?nd_8) (c := ?c_8) (l := ?l_8) (es := ?es_8) (n := ?n_8) 1900 0 1 70 ?h1_8 ?h2_8 ?h4_8 ?h3_8 ?hn_8 (by decide) ?h6_8 ?kk_8
          (case h1_8 => exact rfl)
          (case h2_8 => exact rfl)
          (case h4_8 => exact rfl)
          (case h3_8 => exact rfl)
          (case hn_8 => simp [hdl])
          (case h6_8 => simp [go_sem, hdl])
          refine rg [0,4] ?_
          intro k hk; simp -dsimp [go_sem, -decide_eq_true_eq, -decide_eq_false_iff_not, hw1, hdl, htl]
          repeat' first | apply And.intro | refine hk _ ?_ | intro hg | omega | exact True.intro
          all_goals clear hk k
          refine rt ?_
          first | (simp [go_sem, Tryz.results109, nxtL, nxtD, hp3, hnl, hnd]; done) | (simp [go_sem, Tryz.results109, nxtL, nxtD, hp1, hnl, hnd]; done) | (simp [go_sem, Tryz.results109, hb, hnl2, hnd2, hp0, hnl, hnd, htl]; done))
        ·intro hc; try simp at hc
         all_goals try (exfalso; omega; done)
         all_goals (
          refine AW.skipN (fun _ h => h) ?_
          refine rg [0] ?_
          intro k hk; simp -dsimp (maxSteps := 2000000) [go_sem, -decide_eq_true_eq, -decide_eq_false_iff_not, hw1, hdl, htl]
          repeat' first | (refine Chk.keys ?_; simp only [go_sem, List.map_cons, List.map_nil, List.flatMap_cons, List.flatMap_nil, List.flatMap_append, List.append_nil, List.nil_append, List.cons_append]; decide +kernel) | apply And.intro | refine hk _ ?_ | intro hg | omega | exact True.intro
          all_goals clear hk k
          refine AW.fold (nd := ?nd_9) (c := ?c_9) (l := ?l_9) (es := ?es_9) (n := ?n_9) 1900 0 0 63 ?h1_9 ?h2_9 ?h4_9 ?h3_9 ?hn_9 (by decide) ?h6_9 ?kk_9
          (case h1_9 => exact rfl)
          (case h2_9 => exact rfl)
          (case h4_9 => exact rfl)
          (case h3_9 => exact rfl)
          (case hn_9 => simp [hdl])
          (case h6_9 => simp [go_sem, hdl])
          refine AW.fold (nd := ?nd_10) (c := ?c_10) (l := ?l_10) (es := ?es_10) (n := ?n_10) 1900 0 1 70 ?h1_10 ?h2_10 ?h4_10 ?h3_10 ?hn_10 (by decide) ?h6_10 ?kk_10
          (case h1_10 => exact rfl)
          (case h2_10 => exact rfl)
          (case h4_10 => exact rfl)
          (case h3_10 => exact rfl)
          (case hn_10 => simp [hdl])
          (case h6_10 => simp [go_sem, hdl])
          refine rg [0,4] ?_
          intro k hk; simp -dsimp [go_sem, -decide_eq_true_eq, -decide_eq_false_iff_not, hw1, hdl, htl]
          repeat' first | apply And.intro | refine hk _ ?_ | intro hg | omega | exact True.intro
          all_goals clear hk k
          refine rt ?_
          first | (simp [go_sem, Tryz.results109, nxtL, nxtD, hp3, hnl, hnd]; done) | (simp [go_sem, Tryz.results109, nxtL, nxtD, hp1, hnl, hnd]; done) | (simp [go_sem, Tryz.results109, hb, hnl2, hnd2, hp0, hnl, hnd, htl]; done)))))
theorem dc_parents_next (l d : List Int) (par : Int) (hl : ParOk l) (hd : d = depsOf l) (h24 : l.length ≤ 24) : DC Tryz.prog 109 [.op [nlc 1 (l.map I1), nlc 1 (d.map I1)], .int .i64 par] (.int .i64 (parF l par)) [(0, .op [nlc 1 ((nxtL l par).map I1), nlc 1 ((nxtD l d par).map I1)])] := by
  by_cases hn : l = []
  · subst hn; subst hd; exact dc_impl_parents_next_z par
  · have hdl : d.length = l.length := by rw [hd]; exact depsOf_len l
    rw [nlc_map hn, nlc_map (l := d) (by intro h; rw [h] at hdl; exact hn (List.eq_nil_of_length_eq_zero hdl.symm))]
    exact dc_impl_parents_next_s l d par hl hd hn h24
theorem dc_impl_parents_last (L D : List (List AV)) (v : Int) (hD : D.length ≤ 1000) : DC Tryz.prog 110 [.ip [.isl 1 L, .isl 1 (D ++ [[.int .i64 v]])]] (.int .i64 v) [] := by
 have hw1 : IntKind.wrap .i64 (D.length : Int) = (D.length : Int) := wrap64 (by omega) (by omega)
 have hat : (D ++ [[AV.int .i64 v]])[D.length]? = some [AV.int .i64 v] := List.getElem?_concat_length
 refine DC.intro tiOk Tryz.func110 rfl rfl rfl rfl rfl rfl rfl rfl [] ?_
 refine rg [0] ?_
 intro k hk; simp -dsimp [go_sem, -decide_eq_true_eq, -decide_eq_false_iff_not, hw1, hat]
 repeat' first | apply And.intro | refine hk _ ?_ | intro hg | omega | exact True.intro
 all_goals clear hk k
 refine rg [2] ?_
 intro k hk; simp -dsimp (maxSteps := 2000000) [go_sem, -decide_eq_true_eq, -decide_eq_false_iff_not, hw1, hat]
 repeat' first | (refine Chk.keys ?_; simp only [go_sem, List.map_cons, List.map_nil, List.flatMap_cons, List.flatMap_nil, List.flatMap_append, List.append_nil, List.nil_append, List.cons_append]; decide +kernel) | apply And.intro | refine hk _ ?_ | intro hg | omega | exact True.intro
 all_goals clear hk k
 refine rt ?_
 simp [go_sem, Tryz.results110]
end Go.AM
namespace Go.AM
open Go.Proofs
theorem dc_spec_l4Deep (p : List TStep) (hp : p.length ≤ 24) (m : Nat) (hm : m ≤ p.length) (hl : ParOk ((pars p).take m)) (a : Int) (ha : -1 ≤ a ∧ a < m) : DC Tryz.prog 100 [.isl 6 (p.map TStep.ro), .int .i64 a] (.int .i64 (dep ((pars p).take m) a)) [] := by
 have hL : ((pars p).take m).length = m := take_len hm
 have hd1 := dep_small hl (a := a) (by omega)
 refine DC.intro tiOk Tryz.func100 rfl rfl rfl rfl rfl rfl rfl rfl [] ?_
 refine rgA [0,1] ?_
 refine rgA [0,1,5] ?_
 refine AW.seq ?_
 refine AW.block ?_
 refine AW.loopI (fun j : Int × Int => ⟨20, [(0, .isl 6 (p.map TStep.ro)), (1, .int .i64 j.1), (5, .int .i64 j.2)], []⟩) (fun j => -1 ≤ j.1 ∧ j.1 < m ∧ j.2 + dep ((pars p).take m) j.1 = dep ((pars p).take m) a ∧ 0 ≤ j.2) (fun j => (j.1 + 1).toNat) ((a, 0)) (by refine ⟨by simp only; omega, by simp only; omega, by simp only; omega, by simp only; omega⟩) (Less.of rfl (by simp [go_sem]) (by simp [go_sem])) ?_
 rintro ⟨b, n⟩ ⟨hb1, hb2, hinv, hn0⟩
 simp only at hb1 hb2 hinv hn0
 have hd2 := dep_small hl (a := b) (by omega)
 have hn50 : n < 50 := by omega
 refine AW.seq ?_
 refine AW.cut ⟨20, [(0, .isl 6 (p.map TStep.ro)), (1, .int .i64 b), (5, .int .i64 n), (11, .bool (decide (0 ≤ b)))], []⟩ ?_ ?_
 ·skip
  refine rgK ?_
  intro k hk; simp +contextual -dsimp [go_sem, -decide_eq_true_eq, -decide_eq_false_iff_not]
  repeat' first | apply And.intro | refine hk _ ?_ | (intro hg; try simp only [decide_eq_true_eq, decide_eq_false_iff_not] at hg) | omega | exact True.intro
  all_goals clear hk k
  all_goals (show St.Less _ _; exact Less.of rfl (by simp [go_sem] <;> first | omega | grind) (by simp [go_sem]))
 ·skip
  refine AW.cond rfl ?_ ?_
  ·intro hc; try simp at hc
   all_goals try (exfalso; omega; done)
   all_goals (
    have h0 : 0 ≤ b := by simpa using hc
    obtain ⟨k, hk⟩ : ∃ k : Nat, b = k := ⟨_, (Int.toNat_of_nonneg h0).symm⟩
    subst hk
    obtain ⟨x, hx⟩ := at_some (l := p) (show k < p.length by omega)
    have hpk := hl k (by omega)
    have hpa := pars_at hx (m := m) (by omega)
    rw [hpa] at hpk
    have hde := dep_eq hl h0 (by omega)
    rw [Int.toNat_natCast, hpa] at hde
    have hwn : IntKind.wrap .i64 (n + 1) = n + 1 := wrap64 (by omega) (by omega)
    refine AW.skipN (fun _ h => h) ?_
    refine AW.block ?_
    refine rg [0,1,5] ?_
    intro k hk; simp -dsimp [go_sem, -decide_eq_true_eq, -decide_eq_false_iff_not, hx, hwn]
    repeat' first | apply And.intro | refine hk _ ?_ | intro hg | omega | exact True.intro
    all_goals clear hk k
    refine rgK ?_
    intro k hk; simp -dsimp [go_sem, -decide_eq_true_eq, -decide_eq_false_iff_not, hx, hwn]
    repeat' first | apply And.intro | refine hk _ ?_ | intro hg | omega | exact True.intro
    all_goals clear hk k
    show ∃ _, _
    refine ⟨(x.par, n + 1), ⟨by simp only; omega, by simp only; omega, by simp only; omega, by simp only; omega⟩, by simp only; omega, Less.of rfl (by simp [go_sem]) (by simp [go_sem])⟩)
  ·intro hc; try simp at hc
   all_goals try (exfalso; omega; done)
   all_goals (
    refine AW.exitN (fun _ h => h) ?_
    refine rgA [4] ?_
    refine rt ?_
    have hbn : b < 0 := (by simpa using hc)
    rw [dep_neg hbn] at hinv
    rw [← hinv]
    simp [go_sem, Tryz.results100])
theorem dc_spec_l4Line (p : List TStep) (hp : p.length ≤ 24) (i : Nat) (x : TStep) (hx : p[i]? = some x) (h0 : 0 < i) (hl : ParOk ((pars p).take i)) : DC Tryz.prog 99 [.isl 6 (p.map TStep.ro), .int .i64 (i : Nat)] (.bool (upB ((pars p).take i) ((i : Int) - 1) x.par)) [] := by
 have hi := at_lt hx
 have hL : ((pars p).take i).length = i := take_len (by omega)
 have hwi : IntKind.wrap .i64 ((i : Int) - 1) = (i : Int) - 1 := wrap64 (by omega) (by omega)
 refine DC.intro tiOk Tryz.func99 rfl rfl rfl rfl rfl rfl rfl rfl [] ?_
 refine rg [0,1] ?_
 intro k hk; simp -dsimp [go_sem, -decide_eq_true_eq, -decide_eq_false_iff_not, hx, hwi]
 repeat' first | apply And.intro | refine hk _ ?_ | intro hg | omega | exact True.intro
 all_goals clear hk k
 refine AW.seq ?_
 refine rg [0,1,5] ?_
 intro k hk; simp -dsimp [go_sem, -decide_eq_true_eq, -decide_eq_false_iff_not, hx, hwi]
 repeat' first | apply And.intro | refine hk _ ?_ | intro hg | omega | exact True.intro
 all_goals clear hk k
 refine AW.block ?_
 refine AW.loopI (fun a : Int => ⟨22, [(0, .isl 6 (p.map TStep.ro)), (1, .int .i64 (i : Nat)), (5, .int .i64 a)], []⟩) (fun a => -1 ≤ a ∧ a < i ∧ upB ((pars p).take i) a x.par = upB ((pars p).take i) ((i : Int) - 1) x.par) (fun a => (a + 1).toNat) ((i : Int) - 1) (by refine ⟨by omega, by omega, rfl⟩) (Less.of rfl (by simp [go_sem]) (by simp [go_sem])) ?_
 rintro a ⟨ha0, ha1, hinv⟩
 refine AW.seq ?_
 refine rg [0,1,5,9] ?_
 intro k hk; simp -dsimp [go_sem, -decide_eq_true_eq, -decide_eq_false_iff_not, hx, hwi]
 repeat' first | apply And.intro | refine hk _ ?_ | intro hg | omega | exact True.intro
 all_goals clear hk k
 refine AW.cond rfl ?_ ?_
 ·intro hc; try simp at hc
  all_goals (
   have h0a : 0 ≤ a := by simpa using hc
   obtain ⟨k, hk⟩ : ∃ k : Nat, a = k := ⟨_, (Int.toNat_of_nonneg h0a).symm⟩
   subst hk
   obtain ⟨y, hy⟩ := at_some (l := p) (show k < p.length by omega)
   have hpk := hl k (by omega)
   have hpa := pars_at hy (m := i) (by omega)
   rw [hpa] at hpk
   refine AW.skipN (fun _ h => h) ?_
   refine AW.seq ?_
   refine AW.block ?_
   refine rg [0,1,5,21] ?_
   intro k hk; simp -dsimp (maxSteps := 2000000) [go_sem, -decide_eq_true_eq, -decide_eq_false_iff_not, hx, hwi, hy]
   repeat' first | apply And.intro | refine hk _ ?_ | intro hg | omega | exact True.intro
   all_goals clear hk k
   refine AW.cond rfl ?_ ?_
   ·intro hc; try simp at hc
    all_goals (
     refine rg [4] ?_
     intro k hk; simp -dsimp [go_sem, -decide_eq_true_eq, -decide_eq_false_iff_not, hx, hwi, hy]
     repeat' first | apply And.intro | refine hk _ ?_ | intro hg | omega | exact True.intro
     all_goals clear hk k
     refine rt ?_
     first | (have hu : upB ((pars p).take i) ((i : Int) - 1) x.par = true := (by rw [← hinv, upB_eq hl h0a (by omega), if_pos (by first | assumption | simpa using hc)]); simp [go_sem, Tryz.results99, hu]; done) | (have hu : upB ((pars p).take i) ((i : Int) - 1) x.par = false := (by rw [← hinv]; exact upB_neg (by omega)); simp [go_sem, Tryz.results99, hu]))
   ·intro hc; try simp at hc
    all_goals (
     refine AW.skipN (fun _ h => h) ?_
     refine rgK ?_
     intro k hk; simp -dsimp [go_sem, -decide_eq_true_eq, -decide_eq_false_iff_not, hx, hwi, hy]
     repeat' first | apply And.intro | refine hk _ ?_ | intro hg | omega | exact True.intro
     all_goals clear hk k
     show ∃ _, _
     refine ⟨y.par, ⟨by omega, by omega, ?_⟩, by omega, Less.of rfl (by simp [go_sem]) (by simp [go_sem])⟩
     rw [← hinv, upB_eq hl h0a (by omega), if_neg (by first | assumption | simpa using hc), Int.toNat_natCast, hpa]))
 ·intro hc; try simp at hc
  all_goals (
   refine AW.exitN (fun _ h => h) ?_
   refine rg [4] ?_
   intro k hk; simp -dsimp [go_sem, -decide_eq_true_eq, -decide_eq_false_iff_not, hx, hwi]
   repeat' first | apply And.intro | refine hk _ ?_ | intro hg | omega | exact True.intro
   all_goals clear hk k
   refine rt ?_
   first | (have hu : upB ((pars p).take i) ((i : Int) - 1) x.par = true := (by rw [← hinv, upB_eq hl h0a (by omega), if_pos (by first | assumption | simpa using hc)]); simp [go_sem, Tryz.results99, hu]; done) | (have hu : upB ((pars p).take i) ((i : Int) - 1) x.par = false := (by rw [← hinv]; exact upB_neg (by omega)); simp [go_sem, Tryz.results99, hu]))
end Go.AM
namespace Go.AM
open Go.Proofs
theorem dc_impl_isUnder (p : List TStep) (hl : ParOk (pars p)) (a t : Nat) (ha : a < p.length) : DC Tryz.prog 95 [.isl 6 (p.map TStep.ro), .int .i64 (a : Nat), .int .i64 (t : Nat)] (.bool (upB (pars p) a t)) [] := by
 have hpl := pars_len p
 refine DC.intro tiOk Tryz.func95 rfl rfl rfl rfl rfl rfl rfl rfl [] ?_
 refine rgA [0,1,2] ?_
 refine AW.seq ?_
 refine AW.block ?_
 refine AW.loopI (fun i : Int => ⟨18, [(0, .isl 6 (p.map TStep.ro)), (1, .int .i64 i), (2, .int .i64 (t : Nat))], []⟩) (fun i => -1 ≤ i ∧ i < p.length ∧ upB (pars p) i t = upB (pars p) a t) (fun i => (i + 1).toNat) ((a : Int)) (⟨by omega, by omega, rfl⟩) (Less.of rfl (by simp [go_sem]) (by simp [go_sem])) ?_
 rintro i ⟨h0, h1, hinv⟩
 refine AW.seq ?_
 refine rgA [0,1,2,9] ?_
 refine AW.cond rfl ?_ ?_
 ·intro hc; try simp at hc
  all_goals (
   have hlt : (t : Int) < i := by first | assumption | omega
   obtain ⟨m, rfl⟩ : ∃ m : Nat, i = m := ⟨_, (Int.toNat_of_nonneg (show 0 ≤ i by omega)).symm⟩
   obtain ⟨x, hx⟩ := at_some (l := p) (show m < p.length by omega)
   have hxp := nS_at hx
   have hpm := hl m (by omega)
   rw [pars_get (show m < p.length by omega), hxp] at hpm
   refine AW.skipN (fun _ h => h) ?_
   refine AW.block ?_
   refine rgK ?_
   intro k hk; simp -dsimp [go_sem, -decide_eq_true_eq, -decide_eq_false_iff_not, hx]
   repeat' first | apply And.intro | refine hk _ ?_ | intro hg | omega | exact True.intro
   all_goals clear hk k
   show ∃ _, _
   refine ⟨x.par, ⟨hpm.1, by omega, ?_⟩, by omega, Less.of rfl (by simp [go_sem]) (by simp [go_sem])⟩
   rw [← hinv, up_par hl (j := m) (x := t) (by omega) (by omega), pars_get (show m < p.length by omega), hxp])
 ·intro hc; try simp at hc
  all_goals (
   refine AW.exitN (fun _ h => h) ?_
   refine rgA [6] ?_
   refine rt ?_
   rw [← hinv, up_dec hl h0 (by omega) (by omega)]; simp [go_sem, Tryz.results95])
theorem dc_impl_under (p : List TStep) (hp : p.length ≤ 24) (hl : PreOk (pars p)) (a : Nat) (ha : a < p.length) : DC Tryz.prog 78 [.isl 6 (p.map TStep.ro), .int .i64 (a : Nat)] (.osl 1 ((undL p a p.length).map I1)) [] := by
 have hpl := pars_len p
 refine DC.intro tiOk Tryz.func78 rfl rfl rfl rfl rfl rfl rfl rfl [1000] ?_
 refine rgA [0,1] ?_
 refine rgA [0,1,5] ?_
 refine AW.seq ?_
 refine rgA [0,1,5,6] ?_
 refine AW.block ?_
 refine AW.rename (nd := ?nd_1) 7 22 ?h1_1 ?h2_1 ?h4_1 ?kk_1
 (case h1_1 => exact rfl)
 (case h2_1 => simp [go_sem])
 (case h4_1 => simp [go_sem])
 refine AW.loopI (fun i : Nat => ⟨24, [(0, .isl 6 (p.map TStep.ro)), (1, .int .i64 (a : Nat)), (5, .sl 22 1 0 (undL p a i).length), (6, .int .i64 (i : Nat))], [(22, some ⟨1, (undL p a i).map I1⟩)]⟩) (fun i => a ≤ i ∧ i ≤ p.length) (fun i => p.length - i) (a) (⟨Nat.le_refl _, by omega⟩) (Less.of rfl (by simp [go_sem, undL_low p a a (Nat.le_refl _)]) (by simp [go_sem, undL_low p a a (Nat.le_refl _)])) ?_
 rintro i ⟨hi0, hi⟩
 refine AW.rename (nd := ?nd_2) 22 7 ?h1_2 ?h2_2 ?h4_2 ?kk_2
 (case h1_2 => exact rfl)
 (case h2_2 => simp [go_sem])
 (case h4_2 => simp [go_sem])
 refine AW.seq ?_
 refine rgA [0,1,5,6,12] ?_
 refine AW.cond rfl ?_ ?_
 ·intro hc; try simp at hc
  all_goals (
   have hlt : i < p.length := by first | assumption | omega
   have hul := undL_len p a i
   refine AW.skipN (fun _ h => h) ?_
   refine AW.seq ?_
   refine AW.block ?_
   refine rg [0,1,5,6,18] ?_
   intro k hk; simp -dsimp (maxSteps := 2000000) [go_sem, -decide_eq_true_eq, -decide_eq_false_iff_not]
   repeat' first | apply And.intro | refine hk _ ?_ | intro hg | (refine CallK.intro (dc_impl_isUnder p hl.1 i a hlt) ?_; simp -dsimp (maxSteps := 2000000) [go_sem, -decide_eq_true_eq, -decide_eq_false_iff_not]) | omega | exact True.intro
   all_goals clear hk k
   refine AW.cond rfl ?_ ?_
   ·intro hc; try simp at hc
    all_goals (
     have hks := undL_y hi0 (show upB (pars p) i a = true by simpa using hc)
     refine rgNA [0,1,5,6] (fun _ h => h) ?_
     try (have hks := undL_n (show ¬ upB (pars p) i a = true by simpa using hc))
     try (refine AW.rename (nd := ?nd_3) 7 22 ?h1_3 ?h2_3 ?h4_3 ?kk_3; (case h1_3 => exact rfl); (case h2_3 => simp [go_sem]); (case h4_3 => simp [go_sem]))
     refine rgKA ?_
     show ∃ _, _
     have hw := wrapi hlt (by omega)
     refine ⟨i + 1, ⟨by omega, by omega⟩, by omega, Less.of rfl (by simp [go_sem, hw, hks] <;> omega) (by simp [go_sem, hks])⟩)
   ·intro hc; try simp at hc
    all_goals (
     refine AW.skipN (fun _ h => h) ?_
     try (have hks := undL_n (show ¬ upB (pars p) i a = true by simpa using hc))
     try (refine AW.rename (nd := ?nd_4) 7 22 ?h1_4 ?h2_4 ?h4_4 ?kk_4; (case h1_4 => exact rfl); (case h2_4 => simp [go_sem]); (case h4_4 => simp [go_sem]))
     refine rgKA ?_
     show ∃ _, _
     have hw := wrapi hlt (by omega)
     refine ⟨i + 1, ⟨by omega, by omega⟩, by omega, Less.of rfl (by simp [go_sem, hw, hks] <;> omega) (by simp [go_sem, hks])⟩))
 ·intro hc; try simp at hc
  all_goals (
   refine AW.exitN (fun _ h => h) ?_
   refine rgA [4] ?_
   refine rt ?_
   obtain rfl : i = p.length := (by omega)
   simp [go_sem, Tryz.results78])
theorem dc_spec_l4Under (p : List TStep) (hp : p.length ≤ 24) (hl : PreOk (pars p)) (a : Nat) (ha : a < p.length) : DC Tryz.prog 84 [.isl 6 (p.map TStep.ro), .int .i64 (a : Nat)] (.osl 1 ((undL p a p.length).map I1)) [] := by
 have hpl := pars_len p
 have hea := en_self hl (show a < (pars p).length by omega)
 have hel := en_le hl.1 a a (Nat.le_refl _) (show a < (pars p).length by omega)
 have htk : List.take p.length (pars p) = pars p := List.take_of_length_le (by omega)
 have hlk : ParOk (List.take p.length (pars p)) := by rw [htk]; exact hl.1
 have hw0 : IntKind.wrap .i64 ((a : Int) + 1) = (a : Int) + 1 := wrap64 (by omega) (by omega)
 refine DC.intro tiOk Tryz.func84 rfl rfl rfl rfl rfl rfl rfl rfl [1000] ?_
 refine rg [0,1] ?_
 intro k hk; simp -dsimp [go_sem, -decide_eq_true_eq, -decide_eq_false_iff_not, htk]
 repeat' first | apply And.intro | refine hk _ ?_ | intro hg | omega | exact True.intro
 all_goals clear hk k
 refine rg [0,1,5] ?_
 intro k hk; simp -dsimp [go_sem, -decide_eq_true_eq, -decide_eq_false_iff_not, htk]
 repeat' first | apply And.intro | refine hk _ ?_ | intro hg | omega | exact True.intro
 all_goals clear hk k
 refine AW.seq ?_
 refine rg [0,1,5,6] ?_
 intro k hk; simp -dsimp [go_sem, -decide_eq_true_eq, -decide_eq_false_iff_not, htk]
 repeat' first | apply And.intro | refine hk _ ?_ | intro hg | omega | exact True.intro
 all_goals clear hk k
 refine AW.block ?_
 refine AW.rename (nd := ?nd_1) 8 29 ?h1_1 ?h2_1 ?h4_1 ?kk_1
 (case h1_1 => exact rfl)
 (case h2_1 => simp [go_sem])
 (case h4_1 => simp [go_sem])
 refine AW.loopI (fun i : Nat => ⟨31, [(0, .isl 6 (p.map TStep.ro)), (1, .int .i64 (a : Nat)), (5, .sl 29 1 0 (undL p a i).length), (6, .int .i64 (i : Nat))], [(29, some ⟨1, (undL p a i).map I1⟩)]⟩) (fun i => a < i ∧ i ≤ en (pars p) a) (fun i => p.length - i) (a + 1) (⟨by omega, by omega⟩) (Less.of rfl (by simp [go_sem, undL_one hl ha, hw0]) (by simp [go_sem, undL_one hl ha])) ?_
 rintro i ⟨hi0, hi⟩
 refine AW.rename (nd := ?nd_2) 29 8 ?h1_2 ?h2_2 ?h4_2 ?kk_2
 (case h1_2 => exact rfl)
 (case h2_2 => simp [go_sem])
 (case h4_2 => simp [go_sem])
 refine AW.seq ?_
 rcases Nat.lt_or_ge i p.length with hil | hil
 all_goals (
  refine rg [0,1,5,6,23] ?_
  intro k hk; simp +contextual -dsimp (maxSteps := 2000000) [go_sem, -decide_eq_true_eq, -decide_eq_false_iff_not, htk, hil]
  repeat' first | apply And.intro | refine hk _ ?_ | (intro hg; try simp only [decide_eq_true_eq, decide_eq_false_iff_not] at hg) | ((first | refine CallK.intro ((dc_spec_l4Deep p hp p.length (Nat.le_refl _) hlk (i : Int) (by omega))) ?_ | refine CallK.intro ((dc_spec_l4Deep p hp p.length (Nat.le_refl _) hlk (a : Int) (by omega))) ?_); simp +contextual -dsimp (maxSteps := 2000000) [go_sem, -decide_eq_true_eq, -decide_eq_false_iff_not, htk, hil]) | omega | exact True.intro
  all_goals clear hk k
  all_goals (
   refine AW.cond rfl ?_ ?_
   ·intro hc; try simp at hc
    all_goals (
     have hlt : i < p.length := by first | omega | (simp at hc; omega)
     have hdp : dep (pars p) a < dep (pars p) i := by first | omega | (simp at hc; omega)
     have hie := (deep_iff hl (show a < (pars p).length by omega) (show i < (pars p).length by omega) hi0 hi).1 hdp
     have hks := undL_yes hl ha hlt (by omega) hie
     have hul := undL_len p a i
     refine AW.skipN (fun _ h => h) ?_
     refine AW.seq ?_
     refine AW.block ?_
     refine rgN [0,1,5,6] (fun _ h => h) ?_
     intro k hk; simp -dsimp [go_sem, -decide_eq_true_eq, -decide_eq_false_iff_not, htk]
     repeat' first | apply And.intro | refine hk _ ?_ | intro hg | omega | exact True.intro
     all_goals clear hk k
     refine rgK ?_
     intro k hk; simp -dsimp [go_sem, -decide_eq_true_eq, -decide_eq_false_iff_not, htk]
     repeat' first | apply And.intro | refine hk _ ?_ | intro hg | omega | exact True.intro
     all_goals clear hk k
     show ∃ _, _
     have hw := wrapi hlt (by omega)
     refine ⟨i + 1, ⟨by omega, by omega⟩, by omega, Less.of rfl (by simp [go_sem, hw, hks] <;> omega) (by simp [go_sem, hks])⟩)
   ·intro hc; try simp at hc
    all_goals (
     refine AW.exitN (fun _ h => h) ?_
     refine rg [4] ?_
     intro k hk; simp -dsimp [go_sem, -decide_eq_true_eq, -decide_eq_false_iff_not, htk]
     repeat' first | apply And.intro | refine hk _ ?_ | intro hg | omega | exact True.intro
     all_goals clear hk k
     refine rt ?_
     have hen : en (pars p) a ≤ i := (by rcases Nat.lt_or_ge i (en (pars p) a) with h | h; exact absurd ((deep_iff hl (show a < (pars p).length by omega) (show i < (pars p).length by omega) hi0 hi).2 h) (by first | omega | (simp at hc; omega)); exact h); rw [undL_far hl ha hen p.length (by omega) (Nat.le_refl _)]; simp [go_sem, Tryz.results84])))
end Go.AM
namespace Go.AM
open Go.Proofs
theorem dc_impl_reckon (k a b : Int) (hk : 3 ≤ k ∧ k ≤ 9) (ha : small a = true) (hb : small b = true) (h9 : k = 9 → (a = 0 ∨ a = 1) ∧ (b = 0 ∨ b = 1)) : DC Tryz.prog 97 [.int .i64 k, .int .i64 a, .int .i64 b] (.tup [.int .i64 (if k = 6 ∧ b = 0 then 0 else reckV k a b), .bool (!(decide (k = 6) && decide (b = 0)))]) [] := by
 have a1 := small_iff.1 ha
 have b1 := small_iff.1 hb
 have m1 := small_mul ha hb
 have d1 := small_div (b := b) ha
 have hwa : IntKind.wrap .i64 (a + b) = a + b := wrap64 (by omega) (by omega)
 have hws : IntKind.wrap .i64 (a - b) = a - b := wrap64 (by omega) (by omega)
 have hwm : IntKind.wrap .i64 (a * b) = a * b := wrap64 (by omega) (by omega)
 have hwd : IntKind.wrap .i64 (a.tdiv b) = a.tdiv b := wrap64 (by omega) (by omega)
 have hwn : IntKind.wrap .i64 (1 - a) = 1 - a := wrap64 (by omega) (by omega)
 refine DC.intro tiOk Tryz.func97 rfl rfl rfl rfl rfl rfl rfl rfl [] ?_
 refine rg [0,1,2] ?_
 intro k hk; simp -dsimp [go_sem, -decide_eq_true_eq, -decide_eq_false_iff_not, hwa, hws, hwm, hwd]
 repeat' first | apply And.intro | refine hk _ ?_ | intro hg | omega | exact True.intro
 all_goals clear hk k
 refine AW.seq ?_
 refine rg [1,2,8] ?_
 intro k hk; simp -dsimp [go_sem, -decide_eq_true_eq, -decide_eq_false_iff_not, hwa, hws, hwm, hwd]
 repeat' first | apply And.intro | refine hk _ ?_ | intro hg | omega | exact True.intro
 all_goals clear hk k
 refine AW.block ?_
 refine rg [1,2,8,9] ?_
 intro k hk; simp -dsimp [go_sem, -decide_eq_true_eq, -decide_eq_false_iff_not, hwa, hws, hwm, hwd]
 repeat' first | apply And.intro | refine hk _ ?_ | intro hg | omega | exact True.intro
 all_goals clear hk k
 refine AW.cond rfl ?_ ?_
 ·intro hc; try simp at hc
  all_goals try (exfalso; omega; done)
  all_goals (
   refine rg [6,7] ?_
   intro k hk; simp -dsimp [go_sem, -decide_eq_true_eq, -decide_eq_false_iff_not, hwa, hws, hwm, hwd]
   repeat' first | apply And.intro | refine hk _ ?_ | intro hg | omega | exact True.intro
   all_goals clear hk k
   refine rt ?_
   first | (simp [go_sem, Tryz.results97, reckV, *] <;> omega) | (have hk9 : k = 9 := (by omega); obtain ⟨h8, h7⟩ := h9 hk9; subst hk9; rcases h8 with rfl | rfl <;> rcases h7 with rfl | rfl <;> simp [go_sem, Tryz.results97, reckV] <;> decide))
 ·intro hc; try simp at hc
  all_goals try (exfalso; omega; done)
  all_goals (
   refine rg [1,2,8,14] ?_
   intro k hk; simp -dsimp [go_sem, -decide_eq_true_eq, -decide_eq_false_iff_not, hwa, hws, hwm, hwd]
   repeat' first | apply And.intro | refine hk _ ?_ | intro hg | omega | exact True.intro
   all_goals clear hk k
   refine AW.cond rfl ?_ ?_
   ·intro hc; try simp at hc
    all_goals try (exfalso; omega; done)
    all_goals (
     refine rg [6,7] ?_
     intro k hk; simp -dsimp [go_sem, -decide_eq_true_eq, -decide_eq_false_iff_not, hwa, hws, hwm, hwd]
     repeat' first | apply And.intro | refine hk _ ?_ | intro hg | omega | exact True.intro
     all_goals clear hk k
     refine rt ?_
     first | (simp [go_sem, Tryz.results97, reckV, *] <;> omega) | (have hk9 : k = 9 := (by omega); obtain ⟨h8, h7⟩ := h9 hk9; subst hk9; rcases h8 with rfl | rfl <;> rcases h7 with rfl | rfl <;> simp [go_sem, Tryz.results97, reckV] <;> decide))
   ·intro hc; try simp at hc
    all_goals try (exfalso; omega; done)
    all_goals (
     refine rg [1,2,8,19] ?_
     intro k hk; simp -dsimp [go_sem, -decide_eq_true_eq, -decide_eq_false_iff_not, hwa, hws, hwm, hwd]
     repeat' first | apply And.intro | refine hk _ ?_ | intro hg | omega | exact True.intro
     all_goals clear hk k
     refine AW.cond rfl ?_ ?_
     ·intro hc; try simp at hc
      all_goals try (exfalso; omega; done)
      all_goals (
       refine rg [6,7] ?_
       intro k hk; simp -dsimp [go_sem, -decide_eq_true_eq, -decide_eq_false_iff_not, hwa, hws, hwm, hwd]
       repeat' first | apply And.intro | refine hk _ ?_ | intro hg | omega | exact True.intro
       all_goals clear hk k
       refine rt ?_
       first | (simp [go_sem, Tryz.results97, reckV, *] <;> omega) | (have hk9 : k = 9 := (by omega); obtain ⟨h8, h7⟩ := h9 hk9; subst hk9; rcases h8 with rfl | rfl <;> rcases h7 with rfl | rfl <;> simp [go_sem, Tryz.results97, reckV] <;> decide))
     ·intro hc; try simp at hc
      all_goals try (exfalso; omega; done)
      all_goals (
       refine rg [1,2,8,24] ?_
       intro k hk; simp -dsimp [go_sem, -decide_eq_true_eq, -decide_eq_false_iff_not, hwa, hws, hwm, hwd]
       repeat' first | apply And.intro | refine hk _ ?_ | intro hg | omega | exact True.intro
       all_goals clear hk k
       refine AW.cond rfl ?_ ?_
       ·intro hc; try simp at hc
        all_goals try (exfalso; omega; done)
        all_goals (
         refine AW.seq ?_
         refine rg [1,2,27] ?_
         intro k hk; simp -dsimp [go_sem, -decide_eq_true_eq, -decide_eq_false_iff_not, hwa, hws, hwm, hwd]
         repeat' first | apply And.intro | refine hk _ ?_ | intro hg | omega | exact True.intro
         all_goals clear hk k
         refine AW.cond rfl ?_ ?_
         ·intro hc; try simp at hc
          all_goals try (exfalso; omega; done)
          all_goals (
           refine rg [6,7] ?_
           intro k hk; simp -dsimp [go_sem, -decide_eq_true_eq, -decide_eq_false_iff_not, hwa, hws, hwm, hwd]
           repeat' first | apply And.intro | refine hk _ ?_ | intro hg | omega | exact True.intro
           all_goals clear hk k
           refine rt ?_
           first | (simp [go_sem, Tryz.results97, reckV, *] <;> omega) | (have hk9 : k = 9 := (by omega); obtain ⟨h8, h7⟩ := h9 hk9; subst hk9; rcases h8 with rfl | rfl <;> rcases h7 with rfl | rfl <;> simp [go_sem, Tryz.results97, reckV] <;> decide))
         ·intro hc; try simp at hc
          all_goals try (exfalso; omega; done)
          all_goals (
           refine AW.skipN (fun _ h => h) ?_
           refine rg [6,7] ?_
           intro k hk; simp -dsimp [go_sem, -decide_eq_true_eq, -decide_eq_false_iff_not, hwa, hws, hwm, hwd]
           repeat' first | apply And.intro | refine hk _ ?_ | intro hg | omega | exact True.intro
           all_goals clear hk k
           refine rt ?_
           first | (simp [go_sem, Tryz.results97, reckV, *] <;> omega) | (have hk9 : k = 9 := (by omega); obtain ⟨h8, h7⟩ := h9 hk9; subst hk9; rcases h8 with rfl | rfl <;> rcases h7 with rfl | rfl <;> simp [go_sem, Tryz.results97, reckV] <;> decide)))
       ·intro hc; try simp at hc
        all_goals try (exfalso; omega; done)
        all_goals (
         refine rg [1,2,8,31] ?_
         intro k hk; simp -dsimp [go_sem, -decide_eq_true_eq, -decide_eq_false_iff_not, hwa, hws, hwm, hwd]
         repeat' first | apply And.intro | refine hk _ ?_ | intro hg | omega | exact True.intro
         all_goals clear hk k
         refine AW.cond rfl ?_ ?_
         ·intro hc; try simp at hc
          all_goals try (exfalso; omega; done)
          all_goals (
           refine rg [6,7] ?_
           intro k hk; simp -dsimp (maxSteps := 2000000) [go_sem, -decide_eq_true_eq, -decide_eq_false_iff_not, hwa, hws, hwm, hwd]
           repeat' first | apply And.intro | refine hk _ ?_ | intro hg | (refine CallK.intro (dc_impl_codeIf _ _) ?_; simp -dsimp (maxSteps := 2000000) [go_sem, -decide_eq_true_eq, -decide_eq_false_iff_not, hwa, hws, hwm, hwd]) | omega | exact True.intro
           all_goals clear hk k
           refine rt ?_
           first | (simp [go_sem, Tryz.results97, reckV, *] <;> omega) | (have hk9 : k = 9 := (by omega); obtain ⟨h8, h7⟩ := h9 hk9; subst hk9; rcases h8 with rfl | rfl <;> rcases h7 with rfl | rfl <;> simp [go_sem, Tryz.results97, reckV] <;> decide))
         ·intro hc; try simp at hc
          all_goals try (exfalso; omega; done)
          all_goals (
           refine rg [1,2,37] ?_
           intro k hk; simp -dsimp [go_sem, -decide_eq_true_eq, -decide_eq_false_iff_not, hwa, hws, hwm, hwd]
           repeat' first | apply And.intro | refine hk _ ?_ | intro hg | omega | exact True.intro
           all_goals clear hk k
           refine AW.cond rfl ?_ ?_
           ·intro hc; try simp at hc
            all_goals try (exfalso; omega; done)
            all_goals (
             refine rg [6,7] ?_
             intro k hk; simp -dsimp (maxSteps := 2000000) [go_sem, -decide_eq_true_eq, -decide_eq_false_iff_not, hwa, hws, hwm, hwd]
             repeat' first | apply And.intro | refine hk _ ?_ | intro hg | (refine CallK.intro (dc_impl_codeIf _ _) ?_; simp -dsimp (maxSteps := 2000000) [go_sem, -decide_eq_true_eq, -decide_eq_false_iff_not, hwa, hws, hwm, hwd]) | omega | exact True.intro
             all_goals clear hk k
             refine rt ?_
             first | (simp [go_sem, Tryz.results97, reckV, *] <;> omega) | (have hk9 : k = 9 := (by omega); obtain ⟨h8, h7⟩ := h9 hk9; subst hk9; rcases h8 with rfl | rfl <;> rcases h7 with rfl | rfl <;> simp [go_sem, Tryz.results97, reckV] <;> decide))
           ·intro hc; try simp at hc
            all_goals try (exfalso; omega; done)
            all_goals (
             refine AW.skipN (fun _ h => h) ?_
             refine rg [6,7] ?_
             intro k hk; simp -dsimp [go_sem, -decide_eq_true_eq, -decide_eq_false_iff_not, hwa, hws, hwm, hwd]
             repeat' first | apply And.intro | refine hk _ ?_ | intro hg | omega | exact True.intro
             all_goals clear hk k
             refine rt ?_
             first | (simp [go_sem, Tryz.results97, reckV, *] <;> omega) | (have hk9 : k = 9 := (by omega); obtain ⟨h8, h7⟩ := h9 hk9; subst hk9; rcases h8 with rfl | rfl <;> rcases h7 with rfl | rfl <;> simp [go_sem, Tryz.results97, reckV] <;> decide)))))))
end Go.AM
namespace Go.AM
open Go.Proofs
theorem dc_impl_isTwo (k : Int) : DC Tryz.prog 96 [.int .i64 k] (.bool (isTwoB k)) [] := by
 refine DC.intro tiOk Tryz.func96 rfl rfl rfl rfl rfl rfl rfl rfl [] ?_
 refine rgA [0] ?_
 refine rg [2] ?_
 intro k hk; simp -dsimp (maxSteps := 2000000) [go_sem, -decide_eq_true_eq, -decide_eq_false_iff_not]
 repeat' first | apply And.intro | refine hk _ ?_ | intro hg | (refine CallK.intro (dc_impl_inRange _ _ _) ?_; simp -dsimp (maxSteps := 2000000) [go_sem, -decide_eq_true_eq, -decide_eq_false_iff_not]) | omega | exact True.intro
 all_goals clear hk k
 refine rt ?_
 simp [go_sem, Tryz.results96, isTwoB]
theorem dc_spec_l3Two (k : Int) : DC Tryz.prog 125 [.int .i64 k] (.bool (isTwoB k)) [] := by
 refine DC.intro tiOk Tryz.func125 rfl rfl rfl rfl rfl rfl rfl rfl [] ?_
 refine rgA [0] ?_
 refine rg [2] ?_
 intro k hk; simp -dsimp (maxSteps := 2000000) [go_sem, -decide_eq_true_eq, -decide_eq_false_iff_not]
 repeat' first | apply And.intro | refine hk _ ?_ | intro hg | (refine CallK.intro (dc_spec_l1In _ _ _) ?_; simp -dsimp (maxSteps := 2000000) [go_sem, -decide_eq_true_eq, -decide_eq_false_iff_not]) | omega | exact True.intro
 all_goals clear hk k
 refine rt ?_
 simp [go_sem, Tryz.results125, isTwoB]
theorem dc_impl_nodeFault (n : TNode) (a : Int) (ha : 0 ≤ a ∧ a ≤ 1048576) : DC Tryz.prog 123 [.agg n.ro, .int .i64 a] (.int .i64 (nodeF n a)) [] := by
 have hw : IntKind.wrap .i64 (a - 1) = a - 1 := wrap64 (by omega) (by omega)
 refine DC.intro tiOk Tryz.func123 rfl rfl rfl rfl rfl rfl rfl rfl [] ?_
 refine rg [1,2] ?_
 intro k hk; simp -dsimp [go_sem, -decide_eq_true_eq, -decide_eq_false_iff_not, hw]
 repeat' first | apply And.intro | refine hk _ ?_ | intro hg | omega | exact True.intro
 all_goals clear hk k
 refine AW.seq ?_
 refine AW.block ?_
 refine rg [1,2,6] ?_
 intro k hk; simp +contextual -dsimp (maxSteps := 2000000) [go_sem, -decide_eq_true_eq, -decide_eq_false_iff_not, hw]
 repeat' first | apply And.intro | refine hk _ ?_ | (intro hg; try simp only [decide_eq_true_eq, decide_eq_false_iff_not] at hg) | omega | exact True.intro
 all_goals clear hk k
 all_goals (
  refine AW.cond rfl ?_ ?_
  ·intro hc; try simp at hc
   all_goals try (exfalso; omega; done)
   all_goals (
    refine rg [2,5] ?_
    intro k hk; simp -dsimp [go_sem, -decide_eq_true_eq, -decide_eq_false_iff_not, hw]
    repeat' first | apply And.intro | refine hk _ ?_ | intro hg | omega | exact True.intro
    all_goals clear hk k
    refine AW.seq ?_
    refine rg [2,5,17] ?_
    intro k hk; simp -dsimp [go_sem, -decide_eq_true_eq, -decide_eq_false_iff_not, hw]
    repeat' first | apply And.intro | refine hk _ ?_ | intro hg | omega | exact True.intro
    all_goals clear hk k
    refine AW.cond rfl ?_ ?_
    ·intro hc; try simp at hc
     all_goals try (exfalso; omega; done)
     all_goals (
      refine rgN [2,5] (fun _ h => h) ?_
      intro k hk; simp -dsimp [go_sem, -decide_eq_true_eq, -decide_eq_false_iff_not, hw]
      repeat' first | apply And.intro | refine hk _ ?_ | intro hg | omega | exact True.intro
      all_goals clear hk k
      refine rg [4] ?_
      intro k hk; simp +contextual -dsimp (maxSteps := 2000000) [go_sem, -decide_eq_true_eq, -decide_eq_false_iff_not, hw]
      repeat' first | (refine Chk.keys ?_; simp only [go_sem, List.map_cons, List.map_nil, List.flatMap_cons, List.flatMap_nil, List.flatMap_append, List.append_nil, List.nil_append, List.cons_append]; decide +kernel) | apply And.intro | refine hk _ ?_ | (intro hg; try simp only [decide_eq_true_eq, decide_eq_false_iff_not] at hg) | ((first | refine CallK.intro (dc_impl_codeIf _ _) ?_ | refine CallK.intro (dc_impl_inRange _ _ _) ?_ | refine CallK.intro (dc_impl_firstCode [_, _] (by simp)) ?_ | refine CallK.intro (dc_impl_firstCode [_, _, _] (by simp)) ?_ | refine CallK.intro (dc_impl_firstCode [_, _, _, _] (by simp)) ?_); simp +contextual -dsimp (maxSteps := 2000000) [go_sem, -decide_eq_true_eq, -decide_eq_false_iff_not, hw]) | omega | exact True.intro
      all_goals clear hk k
      all_goals (
       refine rt ?_
       simp [go_sem, Tryz.results123, nodeF, firstC_cons, firstC_nil, inR, isTwoB] at * <;> grind))
    ·intro hc; try simp at hc
     all_goals try (exfalso; omega; done)
     all_goals (
      refine AW.skipN (fun _ h => h) ?_
      refine rg [4] ?_
      intro k hk; simp +contextual -dsimp (maxSteps := 2000000) [go_sem, -decide_eq_true_eq, -decide_eq_false_iff_not, hw]
      repeat' first | (refine Chk.keys ?_; simp only [go_sem, List.map_cons, List.map_nil, List.flatMap_cons, List.flatMap_nil, List.flatMap_append, List.append_nil, List.nil_append, List.cons_append]; decide +kernel) | apply And.intro | refine hk _ ?_ | (intro hg; try simp only [decide_eq_true_eq, decide_eq_false_iff_not] at hg) | ((first | refine CallK.intro (dc_impl_codeIf _ _) ?_ | refine CallK.intro (dc_impl_inRange _ _ _) ?_ | refine CallK.intro (dc_impl_firstCode [_, _] (by simp)) ?_ | refine CallK.intro (dc_impl_firstCode [_, _, _] (by simp)) ?_ | refine CallK.intro (dc_impl_firstCode [_, _, _, _] (by simp)) ?_); simp +contextual -dsimp (maxSteps := 2000000) [go_sem, -decide_eq_true_eq, -decide_eq_false_iff_not, hw]) | omega | exact True.intro
      all_goals clear hk k
      all_goals (
       refine rt ?_
       simp [go_sem, Tryz.results123, nodeF, firstC_cons, firstC_nil, inR, isTwoB] at * <;> grind)))
  ·intro hc; try simp at hc
   all_goals try (exfalso; omega; done)
   all_goals (
    refine rg [1,2,35] ?_
    intro k hk; simp -dsimp [go_sem, -decide_eq_true_eq, -decide_eq_false_iff_not, hw]
    repeat' first | apply And.intro | refine hk _ ?_ | intro hg | omega | exact True.intro
    all_goals clear hk k
    refine AW.cond rfl ?_ ?_
    ·intro hc; try simp at hc
     all_goals try (exfalso; omega; done)
     all_goals (
      refine rg [4] ?_
      intro k hk; simp +contextual -dsimp (maxSteps := 2000000) [go_sem, -decide_eq_true_eq, -decide_eq_false_iff_not, hw]
      repeat' first | (refine Chk.keys ?_; simp only [go_sem, List.map_cons, List.map_nil, List.flatMap_cons, List.flatMap_nil, List.flatMap_append, List.append_nil, List.nil_append, List.cons_append]; decide +kernel) | apply And.intro | refine hk _ ?_ | (intro hg; try simp only [decide_eq_true_eq, decide_eq_false_iff_not] at hg) | ((first | refine CallK.intro (dc_impl_codeIf _ _) ?_ | refine CallK.intro (dc_impl_inRange _ _ _) ?_ | refine CallK.intro (dc_impl_firstCode [_, _] (by simp)) ?_ | refine CallK.intro (dc_impl_firstCode [_, _, _] (by simp)) ?_ | refine CallK.intro (dc_impl_firstCode [_, _, _, _] (by simp)) ?_); simp +contextual -dsimp (maxSteps := 2000000) [go_sem, -decide_eq_true_eq, -decide_eq_false_iff_not, hw]) | omega | exact True.intro
      all_goals clear hk k
      all_goals (
       refine rt ?_
       simp [go_sem, Tryz.results123, nodeF, firstC_cons, firstC_nil, inR, isTwoB] at * <;> grind))
    ·intro hc; try simp at hc
     all_goals try (exfalso; omega; done)
     all_goals (
      refine rg [1,2,57] ?_
      intro k hk; simp -dsimp (maxSteps := 2000000) [go_sem, -decide_eq_true_eq, -decide_eq_false_iff_not, hw]
      repeat' first | apply And.intro | refine hk _ ?_ | intro hg | (refine CallK.intro (dc_impl_isTwo _) ?_; simp -dsimp (maxSteps := 2000000) [go_sem, -decide_eq_true_eq, -decide_eq_false_iff_not, hw]) | omega | exact True.intro
      all_goals clear hk k
      refine AW.cond rfl ?_ ?_
      ·intro hc; try simp at hc
       all_goals try (exfalso; omega; done)
       all_goals (
        refine rg [4] ?_
        intro k hk; simp +contextual -dsimp (maxSteps := 2000000) [go_sem, -decide_eq_true_eq, -decide_eq_false_iff_not, hw]
        repeat' first | (refine Chk.keys ?_; simp only [go_sem, List.map_cons, List.map_nil, List.flatMap_cons, List.flatMap_nil, List.flatMap_append, List.append_nil, List.nil_append, List.cons_append]; decide +kernel) | apply And.intro | refine hk _ ?_ | (intro hg; try simp only [decide_eq_true_eq, decide_eq_false_iff_not] at hg) | ((first | refine CallK.intro (dc_impl_codeIf _ _) ?_ | refine CallK.intro (dc_impl_inRange _ _ _) ?_ | refine CallK.intro (dc_impl_firstCode [_, _] (by simp)) ?_ | refine CallK.intro (dc_impl_firstCode [_, _, _] (by simp)) ?_ | refine CallK.intro (dc_impl_firstCode [_, _, _, _] (by simp)) ?_); simp +contextual -dsimp (maxSteps := 2000000) [go_sem, -decide_eq_true_eq, -decide_eq_false_iff_not, hw]) | omega | exact True.intro
        all_goals clear hk k
        all_goals (
         refine rt ?_
         simp [go_sem, Tryz.results123, nodeF, firstC_cons, firstC_nil, inR, isTwoB] at * <;> grind))
      ·intro hc; try simp at hc
       all_goals try (exfalso; omega; done)
       all_goals (
        refine AW.skipN (fun _ h => h) ?_
        refine rg [4] ?_
        intro k hk; simp -dsimp [go_sem, -decide_eq_true_eq, -decide_eq_false_iff_not, hw]
        repeat' first | apply And.intro | refine hk _ ?_ | intro hg | omega | exact True.intro
        all_goals clear hk k
        refine rt ?_
        simp [go_sem, Tryz.results123, nodeF, firstC_cons, firstC_nil, inR, isTwoB] at * <;> grind))))
set_option maxHeartbeats 2000000 in
theorem dc_spec_l3Node (n : TNode) (a : Int) (ha : 0 ≤ a ∧ a ≤ 1048576) : DC Tryz.prog 117 [.ip n.ro, .int .i64 a] (.int .i64 (nodeF n a)) [] := by
 have hw : IntKind.wrap .i64 (a - 1) = a - 1 := wrap64 (by omega) (by omega)
 refine DC.intro tiOk Tryz.func117 rfl rfl rfl rfl rfl rfl rfl rfl [] ?_
 refine rg [0,1] ?_
 intro k hk; simp -dsimp [go_sem, -decide_eq_true_eq, -decide_eq_false_iff_not, hw]
 repeat' first | apply And.intro | refine hk _ ?_ | intro hg | omega | exact True.intro
 all_goals clear hk k
 refine AW.seq ?_
 refine rg [0,1,11] ?_
 intro k hk; simp -dsimp (maxSteps := 2000000) [go_sem, -decide_eq_true_eq, -decide_eq_false_iff_not, hw]
 repeat' first | apply And.intro | refine hk _ ?_ | intro hg | (refine CallK.intro (dc_spec_l1In _ _ _) ?_; simp -dsimp (maxSteps := 2000000) [go_sem, -decide_eq_true_eq, -decide_eq_false_iff_not, hw]) | omega | exact True.intro
 all_goals clear hk k
 refine AW.cond rfl ?_ ?_
 ·intro hc; try simp at hc
  all_goals try (exfalso; omega; done)
  all_goals (
   refine rg [4] ?_
   intro k hk; simp -dsimp [go_sem, -decide_eq_true_eq, -decide_eq_false_iff_not, hw]
   repeat' first | apply And.intro | refine hk _ ?_ | intro hg | omega | exact True.intro
   all_goals clear hk k
   refine rt ?_
   simp [go_sem, Tryz.results117, nodeF, firstC_cons, firstC_nil, inR, isTwoB] at * <;> grind)
 ·intro hc; try simp at hc
  all_goals try (exfalso; omega; done)
  all_goals (
   refine AW.skipN (fun _ h => h) ?_
   refine rg [0,1,5] ?_
   intro k hk; simp -dsimp [go_sem, -decide_eq_true_eq, -decide_eq_false_iff_not, hw]
   repeat' first | apply And.intro | refine hk _ ?_ | intro hg | omega | exact True.intro
   all_goals clear hk k
   refine AW.seq ?_
   refine AW.cut ⟨114, [(0, .ip n.ro), (1, .int .i64 a), (5, .bool (decide (n.kind ≤ 2))), (56, .bool (decide ((n.kind ≤ 2 ∧ (n.left ≠ 0 ∨ n.right ≠ 0)) ∨ (2 < n.kind ∧ n.val ≠ 0) ∨ (n.kind = 10 ∧ n.right ≠ 0))))], []⟩ ?_ ?_
   ·skip
    refine rgK ?_
    intro k hk; simp +contextual -dsimp (maxSteps := 2000000) [go_sem, -decide_eq_true_eq, -decide_eq_false_iff_not, hw]
    repeat' first | apply And.intro | refine hk _ ?_ | (intro hg; try simp only [decide_eq_true_eq, decide_eq_false_iff_not] at hg) | omega | exact True.intro
    all_goals clear hk k
    all_goals (show St.Less _ _; exact Less.of rfl (by simp [go_sem] <;> first | omega | grind) (by simp [go_sem]))
   ·skip
    refine AW.cond rfl ?_ ?_
    ·intro hc; try simp at hc
     all_goals try (exfalso; omega; done)
     all_goals (
      refine rg [4] ?_
      intro k hk; simp -dsimp [go_sem, -decide_eq_true_eq, -decide_eq_false_iff_not, hw]
      repeat' first | apply And.intro | refine hk _ ?_ | intro hg | omega | exact True.intro
      all_goals clear hk k
      refine rt ?_
      simp [go_sem, Tryz.results117, nodeF, firstC_cons, firstC_nil, inR, isTwoB] at * <;> grind)
    ·intro hc; try simp at hc
     all_goals try (exfalso; omega; done)
     all_goals (
      refine AW.skipN (fun _ h => h) ?_
      refine AW.seq ?_
      refine AW.cut ⟨114, [(0, .ip n.ro), (1, .int .i64 a), (5, .bool (decide (n.kind ≤ 2))), (84, .bool (decide ((n.kind = 1 ∧ (n.val < 0 ∨ 9999 < n.val)) ∨ (n.kind = 2 ∧ (n.val < 0 ∨ 3 < n.val)))))], []⟩ ?_ ?_
      ·skip
       refine rgK ?_
       intro k hk; simp +contextual -dsimp (maxSteps := 2000000) [go_sem, -decide_eq_true_eq, -decide_eq_false_iff_not, hw]
       repeat' first | apply And.intro | refine hk _ ?_ | (intro hg; try simp only [decide_eq_true_eq, decide_eq_false_iff_not] at hg) | (refine CallK.intro (dc_spec_l1In _ _ _) ?_; simp +contextual -dsimp (maxSteps := 2000000) [go_sem, -decide_eq_true_eq, -decide_eq_false_iff_not, hw]) | omega | exact True.intro
       all_goals clear hk k
       all_goals (show St.Less _ _; exact Less.of rfl (by simp [go_sem, inR] <;> first | omega | grind [inR]) (by simp [go_sem]))
      ·skip
       refine AW.cond rfl ?_ ?_
       ·intro hc; try simp at hc
        all_goals try (exfalso; omega; done)
        all_goals (
         refine rg [4] ?_
         intro k hk; simp -dsimp [go_sem, -decide_eq_true_eq, -decide_eq_false_iff_not, hw]
         repeat' first | apply And.intro | refine hk _ ?_ | intro hg | omega | exact True.intro
         all_goals clear hk k
         refine rt ?_
         simp [go_sem, Tryz.results117, nodeF, firstC_cons, firstC_nil, inR, isTwoB] at * <;> grind)
       ·intro hc; try simp at hc
        all_goals try (exfalso; omega; done)
        all_goals (
         refine AW.skipN (fun _ h => h) ?_
         refine AW.seq ?_
         refine rg [113] ?_
         intro k hk; simp +contextual -dsimp (maxSteps := 2000000) [go_sem, -decide_eq_true_eq, -decide_eq_false_iff_not, hw]
         repeat' first | apply And.intro | refine hk _ ?_ | (intro hg; try simp only [decide_eq_true_eq, decide_eq_false_iff_not] at hg) | ((first | refine CallK.intro (dc_spec_l1In _ _ _) ?_ | refine CallK.intro (dc_spec_l3Two _) ?_); simp +contextual -dsimp (maxSteps := 2000000) [go_sem, -decide_eq_true_eq, -decide_eq_false_iff_not, hw]) | omega | exact True.intro
         all_goals clear hk k
         all_goals (
          refine AW.cond rfl ?_ ?_
          ·intro hc; try simp at hc
           all_goals try (exfalso; omega; done)
           all_goals (
            refine rg [4] ?_
            intro k hk; simp -dsimp [go_sem, -decide_eq_true_eq, -decide_eq_false_iff_not, hw]
            repeat' first | apply And.intro | refine hk _ ?_ | intro hg | omega | exact True.intro
            all_goals clear hk k
            refine rt ?_
            simp [go_sem, Tryz.results117, nodeF, firstC_cons, firstC_nil, inR, isTwoB] at * <;> grind)
          ·intro hc; try simp at hc
           all_goals try (exfalso; omega; done)
           all_goals (
            refine AW.skipN (fun _ h => h) ?_
            refine rg [4] ?_
            intro k hk; simp -dsimp [go_sem, -decide_eq_true_eq, -decide_eq_false_iff_not, hw]
            repeat' first | apply And.intro | refine hk _ ?_ | intro hg | omega | exact True.intro
            all_goals clear hk k
            refine rt ?_
            simp [go_sem, Tryz.results117, nodeF, firstC_cons, firstC_nil, inR, isTwoB] at * <;> grind)))))
end Go.AM
namespace Go.AM
open Go.Proofs
set_option maxHeartbeats 4000000 in
theorem dc_impl_eval (e : List TNode) (vars : List Int) (hn : 1 ≤ e.length ∧ e.length ≤ 16) (hp : PartsOk e e.length) (ht : typU e e.length = false) (hv : vars.length = 4) (hs : ∀ v ∈ vars, small v = true) : DC Tryz.prog 80 [.isl 4 (e.map TNode.ro), .isl 1 (vars.map I1)] (.tup [.int .i64 (if evalB e vars = true then evalI e vars else 0), .bool (evalB e vars)]) [] := by
 refine DC.intro tiOk Tryz.func80 rfl rfl rfl rfl rfl rfl rfl rfl [] ?_
 refine rgA [0,1] ?_
 refine rgA [0,1,6] ?_
 refine AW.seq ?_
 refine rgA [1,6,12,13,14] ?_
 refine AW.block ?_
 refine AW.rename (nd := ?nd_1) 11 69 ?h1_1 ?h2_1 ?h4_1 ?kk_1
 (case h1_1 => exact rfl)
 (case h2_1 => simp [go_sem])
 (case h4_1 => simp [go_sem])
 refine AW.loopI (fun i : Nat => ⟨77, [(1, .isl 1 (vars.map I1)), (6, .sl 69 1 0 i), (12, .isl 4 (e.map TNode.ro)), (13, .int .i64 e.length), (14, .int .i64 (i : Nat))], [(69, some ⟨1, (evL e vars i).map I1⟩)]⟩) (fun i => i ≤ e.length ∧ evOk e vars i = true) (fun i => e.length - i) (0) (⟨Nat.zero_le _, rfl⟩) (Less.of rfl (by simp [go_sem, evL]) (by simp [go_sem, evL])) ?_
 rintro i ⟨hi, hok⟩
 refine AW.rename (nd := ?nd_2) 69 11 ?h1_2 ?h2_2 ?h4_2 ?kk_2
 (case h1_2 => exact rfl)
 (case h2_2 => simp [go_sem])
 (case h4_2 => simp [go_sem])
 refine rgA [1,6,12,13,14,15] ?_
 refine AW.seq ?_
 refine AW.cond rfl ?_ ?_
 ·intro hc; try simp at hc
  all_goals (
   have hlt : i < e.length := by first | assumption | omega
   obtain ⟨x, hx⟩ := at_some hlt
   obtain ⟨f1, f2, f3, f4⟩ := ev_facts hp ht hv hs hx hok
   have hlen := evL_len e vars i
   have htk : List.take i ((evL e vars i).map I1) = (evL e vars i).map I1 := List.take_of_length_le (by simp [hlen])
   refine AW.skipN (fun _ h => h) ?_
   refine AW.seq ?_
   refine AW.block ?_
   refine rg [1,6,8,12,13,14] ?_
   intro k hk; simp -dsimp [go_sem, -decide_eq_true_eq, -decide_eq_false_iff_not, hx, hlen]
   repeat' first | apply And.intro | refine hk _ ?_ | intro hg | omega | exact True.intro
   all_goals clear hk k
   refine rg [1,6,8,9,10,12,13,14] ?_
   intro k hk; simp -dsimp [go_sem, -decide_eq_true_eq, -decide_eq_false_iff_not, hx, hlen]
   repeat' first | apply And.intro | refine hk _ ?_ | intro hg | omega | exact True.intro
   all_goals clear hk k
   refine AW.seq ?_
   refine AW.block ?_
   refine rg [1,6,8,9,10,12,13,14,20] ?_
   intro k hk; simp -dsimp [go_sem, -decide_eq_true_eq, -decide_eq_false_iff_not, hx, hlen]
   repeat' first | apply And.intro | refine hk _ ?_ | intro hg | omega | exact True.intro
   all_goals clear hk k
   refine AW.cond rfl ?_ ?_
   ·intro hc; try simp at hc
    all_goals (
     have hk2 : x.kind = 2 := by simpa using hc
     obtain ⟨u, hu, hu0, hu2, hu4⟩ := f2 hk2
     have hul := at_lt hu
     have hu3 : ∀ h, vars[x.val.toNat]'h = u := fun h => by have h9 := hu; rw [List.getElem?_eq_getElem h] at h9; exact Option.some.inj h9
     refine rgN [1,6,9,10,12,13,14] (fun _ h => h) ?_
     intro k hk; simp -dsimp [go_sem, -decide_eq_true_eq, -decide_eq_false_iff_not, hx, hlen, hu, hu3]
     repeat' first | apply And.intro | refine hk _ ?_ | intro hg | omega | exact True.intro
     all_goals clear hk k
     refine AW.seq ?_
     refine AW.cut ⟨77, [(1, .isl 1 (vars.map I1)), (6, .sl 11 1 0 i), (9, .int .i64 (evV x vars (evL e vars i))), (12, .isl 4 (e.map TNode.ro)), (13, .int .i64 e.length), (14, .int .i64 (i : Nat)), (65, .bool (evBad x vars (evL e vars i)))], [(11, some ⟨1, (evL e vars i).map I1⟩)]⟩ ?_ ?_
     ·skip
      refine rgK ?_
      intro k hk; simp +contextual -dsimp (maxSteps := 2000000) [go_sem, -decide_eq_true_eq, -decide_eq_false_iff_not, hx, hlen]
      repeat' first | apply And.intro | refine hk _ ?_ | (intro hg; try simp only [decide_eq_true_eq, decide_eq_false_iff_not] at hg) | (refine CallK.intro (dc_impl_inRange _ _ _) ?_; simp +contextual -dsimp (maxSteps := 2000000) [go_sem, -decide_eq_true_eq, -decide_eq_false_iff_not, hx, hlen]) | omega | exact True.intro
      all_goals clear hk k
      all_goals (show St.Less _ _; exact Less.of rfl (by first | (simp [go_sem, evV, evBad, reckV, small, *] at * <;> grind [reckV, isTwoB, inR, small]) | grind) (by simp [go_sem]))
     ·skip
      refine AW.cond rfl ?_ ?_
      ·intro hc; try simp at hc
       all_goals (
        refine rg [4,5] ?_
        intro k hk; simp -dsimp [go_sem, -decide_eq_true_eq, -decide_eq_false_iff_not, hx, hlen]
        repeat' first | apply And.intro | refine hk _ ?_ | intro hg | omega | exact True.intro
        all_goals clear hk k
        refine rt ?_
        first | (rw [ev_bad hlt hx hc]; simp [go_sem, Tryz.results80]; done) | (have he : evalB e vars = true := hok; rw [he, hzi]; simp [go_sem, Tryz.results80]))
      ·intro hc; try simp at hc
       all_goals (
        refine AW.skipN (fun _ h => h) ?_
        refine rgN [1,6,12,13,14] (fun _ h => h) ?_
        intro k hk; simp -dsimp [go_sem, -decide_eq_true_eq, -decide_eq_false_iff_not, hx, hlen]
        repeat' first | apply And.intro | refine hk _ ?_ | intro hg | omega | exact True.intro
        all_goals clear hk k
        refine rgK ?_
        intro k hk; simp -dsimp [go_sem, -decide_eq_true_eq, -decide_eq_false_iff_not, hx, hlen]
        repeat' first | apply And.intro | refine hk _ ?_ | intro hg | omega | exact True.intro
        all_goals clear hk k
        show ∃ _, _
        have hw := wrapi hlt (by omega)
        refine ⟨i + 1, ⟨by omega, ev_next hx hok (by simpa using hc)⟩, by omega, Less.of rfl (by simp [go_sem, hw]) (by rw [evL_succ hx]; simp [go_sem, htk])⟩))
   ·intro hc; try simp at hc
    all_goals (
     refine rg [1,6,8,9,10,12,13,14,29] ?_
     intro k hk; simp -dsimp [go_sem, -decide_eq_true_eq, -decide_eq_false_iff_not, hx, hlen]
     repeat' first | apply And.intro | refine hk _ ?_ | intro hg | omega | exact True.intro
     all_goals clear hk k
     refine AW.cond rfl ?_ ?_
     ·intro hc; try simp at hc
      all_goals (
       have hk10 : x.kind = 10 := by simpa using hc
       obtain ⟨u, hu, hu0, hu1, hu2, hu4⟩ := f3 hk10
       have hul := at_lt hu
       have hus := small_iff.1 hu4
       have hwn : IntKind.wrap .i64 (1 - u) = 1 - u := wrap64 (by omega) (by omega)
       have hu3 : ∀ h, (evL e vars i)[x.left.toNat]'h = u := fun h => by have h9 := hu; rw [List.getElem?_eq_getElem h] at h9; exact Option.some.inj h9
       refine rgN [1,6,9,10,12,13,14] (fun _ h => h) ?_
       intro k hk; simp -dsimp (maxSteps := 2000000) [go_sem, -decide_eq_true_eq, -decide_eq_false_iff_not, hx, hlen, hu, hu3, hwn]
       repeat' first | apply And.intro | refine hk _ ?_ | intro hg | omega | exact True.intro
       all_goals clear hk k
       refine AW.seq ?_
       refine AW.cut ⟨77, [(1, .isl 1 (vars.map I1)), (6, .sl 11 1 0 i), (9, .int .i64 (evV x vars (evL e vars i))), (12, .isl 4 (e.map TNode.ro)), (13, .int .i64 e.length), (14, .int .i64 (i : Nat)), (65, .bool (evBad x vars (evL e vars i)))], [(11, some ⟨1, (evL e vars i).map I1⟩)]⟩ ?_ ?_
       ·skip
        refine rgK ?_
        intro k hk; simp +contextual -dsimp (maxSteps := 2000000) [go_sem, -decide_eq_true_eq, -decide_eq_false_iff_not, hx, hlen]
        repeat' first | apply And.intro | refine hk _ ?_ | (intro hg; try simp only [decide_eq_true_eq, decide_eq_false_iff_not] at hg) | (refine CallK.intro (dc_impl_inRange _ _ _) ?_; simp +contextual -dsimp (maxSteps := 2000000) [go_sem, -decide_eq_true_eq, -decide_eq_false_iff_not, hx, hlen]) | omega | exact True.intro
        all_goals clear hk k
        all_goals (show St.Less _ _; exact Less.of rfl (by first | (simp [go_sem, evV, evBad, reckV, small, *] at * <;> grind [reckV, isTwoB, inR, small]) | grind) (by simp [go_sem]))
       ·skip
        refine AW.cond rfl ?_ ?_
        ·intro hc; try simp at hc
         all_goals (
          refine rg [4,5] ?_
          intro k hk; simp -dsimp [go_sem, -decide_eq_true_eq, -decide_eq_false_iff_not, hx, hlen]
          repeat' first | apply And.intro | refine hk _ ?_ | intro hg | omega | exact True.intro
          all_goals clear hk k
          refine rt ?_
          first | (rw [ev_bad hlt hx hc]; simp [go_sem, Tryz.results80]; done) | (have he : evalB e vars = true := hok; rw [he, hzi]; simp [go_sem, Tryz.results80]))
        ·intro hc; try simp at hc
         all_goals (
          refine AW.skipN (fun _ h => h) ?_
          refine rgN [1,6,12,13,14] (fun _ h => h) ?_
          intro k hk; simp -dsimp [go_sem, -decide_eq_true_eq, -decide_eq_false_iff_not, hx, hlen]
          repeat' first | apply And.intro | refine hk _ ?_ | intro hg | omega | exact True.intro
          all_goals clear hk k
          refine rgK ?_
          intro k hk; simp -dsimp [go_sem, -decide_eq_true_eq, -decide_eq_false_iff_not, hx, hlen]
          repeat' first | apply And.intro | refine hk _ ?_ | intro hg | omega | exact True.intro
          all_goals clear hk k
          show ∃ _, _
          have hw := wrapi hlt (by omega)
          refine ⟨i + 1, ⟨by omega, ev_next hx hok (by simpa using hc)⟩, by omega, Less.of rfl (by simp [go_sem, hw]) (by rw [evL_succ hx]; simp [go_sem, htk])⟩))
     ·intro hc; try simp at hc
      all_goals (
       refine rg [1,6,8,9,10,12,13,14,39] ?_
       intro k hk; simp -dsimp (maxSteps := 2000000) [go_sem, -decide_eq_true_eq, -decide_eq_false_iff_not, hx, hlen]
       repeat' first | apply And.intro | refine hk _ ?_ | intro hg | (refine CallK.intro (dc_impl_isTwo _) ?_; simp -dsimp (maxSteps := 2000000) [go_sem, -decide_eq_true_eq, -decide_eq_false_iff_not, hx, hlen]) | omega | exact True.intro
       all_goals clear hk k
       refine AW.cond rfl ?_ ?_
       ·intro hc; try simp at hc
        all_goals (
         have h2k : isTwoB x.kind = true := by simpa using hc
         have hlr := (nodeF_parts (show nodeF x i = 0 by have := hp i hlt; rwa [nodeAt_at hx] at this)).2.1 h2k
         obtain ⟨g1, g2, g3, g4⟩ := hlr
         obtain ⟨u, hu⟩ := at_some (l := (evL e vars i)) (i := x.left.toNat) (by omega)
         obtain ⟨v, hvv⟩ := at_some (l := (evL e vars i)) (i := x.right.toNat) (by omega)
         have hgu : gI (evL e vars i) x.left = u := by unfold gI; rw [List.getD_eq_getElem?_getD, hu]; rfl
         have hgv : gI (evL e vars i) x.right = v := by unfold gI; rw [List.getD_eq_getElem?_getD, hvv]; rfl
         have hff := f4 h2k
         rw [hgu, hgv] at hff
         obtain ⟨e1, e2, e3, e4⟩ := hff
         have hu3 : ∀ h, (evL e vars i)[x.left.toNat]'h = u := fun h => by have h9 := hu; rw [List.getElem?_eq_getElem h] at h9; exact Option.some.inj h9
         have hvv3 : ∀ h, (evL e vars i)[x.right.toNat]'h = v := fun h => by have h9 := hvv; rw [List.getElem?_eq_getElem h] at h9; exact Option.some.inj h9
         refine rgN [1,6,9,10,12,13,14] (fun _ h => h) ?_
         intro k hk; simp -dsimp (maxSteps := 2000000) [go_sem, -decide_eq_true_eq, -decide_eq_false_iff_not, hx, hlen, hu, hu3, hvv, hvv3]
         repeat' first | (refine Chk.keys ?_; simp only [go_sem, List.map_cons, List.map_nil, List.flatMap_cons, List.flatMap_nil, List.flatMap_append, List.append_nil, List.nil_append, List.cons_append]; decide +kernel) | apply And.intro | refine hk _ ?_ | intro hg | (refine CallK.intro (dc_impl_reckon x.kind u v e1 e2 e3 e4) ?_; simp -dsimp (maxSteps := 2000000) [go_sem, -decide_eq_true_eq, -decide_eq_false_iff_not, hx, hlen, hu, hu3, hvv, hvv3]) | omega | exact True.intro
         all_goals clear hk k
         refine AW.seq ?_
         refine AW.cut ⟨77, [(1, .isl 1 (vars.map I1)), (6, .sl 11 1 0 i), (9, .int .i64 (evV x vars (evL e vars i))), (12, .isl 4 (e.map TNode.ro)), (13, .int .i64 e.length), (14, .int .i64 (i : Nat)), (65, .bool (evBad x vars (evL e vars i)))], [(11, some ⟨1, (evL e vars i).map I1⟩)]⟩ ?_ ?_
         ·skip
          refine rgK ?_
          intro k hk; simp +contextual -dsimp (maxSteps := 2000000) [go_sem, -decide_eq_true_eq, -decide_eq_false_iff_not, hx, hlen]
          repeat' first | apply And.intro | refine hk _ ?_ | (intro hg; try simp only [decide_eq_true_eq, decide_eq_false_iff_not] at hg) | (refine CallK.intro (dc_impl_inRange _ _ _) ?_; simp +contextual -dsimp (maxSteps := 2000000) [go_sem, -decide_eq_true_eq, -decide_eq_false_iff_not, hx, hlen]) | omega | exact True.intro
          all_goals clear hk k
          all_goals (show St.Less _ _; exact Less.of rfl (by first | (simp [go_sem, evV, evBad, reckV, small, *] at * <;> grind [reckV, isTwoB, inR, small]) | grind) (by simp [go_sem]))
         ·skip
          refine AW.cond rfl ?_ ?_
          ·intro hc; try simp at hc
           all_goals (
            refine rg [4,5] ?_
            intro k hk; simp -dsimp [go_sem, -decide_eq_true_eq, -decide_eq_false_iff_not, hx, hlen]
            repeat' first | apply And.intro | refine hk _ ?_ | intro hg | omega | exact True.intro
            all_goals clear hk k
            refine rt ?_
            first | (rw [ev_bad hlt hx hc]; simp [go_sem, Tryz.results80]; done) | (have he : evalB e vars = true := hok; rw [he, hzi]; simp [go_sem, Tryz.results80]))
          ·intro hc; try simp at hc
           all_goals (
            refine AW.skipN (fun _ h => h) ?_
            refine rgN [1,6,12,13,14] (fun _ h => h) ?_
            intro k hk; simp -dsimp [go_sem, -decide_eq_true_eq, -decide_eq_false_iff_not, hx, hlen]
            repeat' first | apply And.intro | refine hk _ ?_ | intro hg | omega | exact True.intro
            all_goals clear hk k
            refine rgK ?_
            intro k hk; simp -dsimp [go_sem, -decide_eq_true_eq, -decide_eq_false_iff_not, hx, hlen]
            repeat' first | apply And.intro | refine hk _ ?_ | intro hg | omega | exact True.intro
            all_goals clear hk k
            show ∃ _, _
            have hw := wrapi hlt (by omega)
            refine ⟨i + 1, ⟨by omega, ev_next hx hok (by simpa using hc)⟩, by omega, Less.of rfl (by simp [go_sem, hw]) (by rw [evL_succ hx]; simp [go_sem, htk])⟩))
       ·intro hc; try simp at hc
        all_goals (
         refine AW.skipN (fun _ h => h) ?_
         refine AW.seq ?_
         refine AW.cut ⟨77, [(1, .isl 1 (vars.map I1)), (6, .sl 11 1 0 i), (9, .int .i64 (evV x vars (evL e vars i))), (12, .isl 4 (e.map TNode.ro)), (13, .int .i64 e.length), (14, .int .i64 (i : Nat)), (65, .bool (evBad x vars (evL e vars i)))], [(11, some ⟨1, (evL e vars i).map I1⟩)]⟩ ?_ ?_
         ·skip
          refine rgK ?_
          intro k hk; simp +contextual -dsimp (maxSteps := 2000000) [go_sem, -decide_eq_true_eq, -decide_eq_false_iff_not, hx, hlen]
          repeat' first | apply And.intro | refine hk _ ?_ | (intro hg; try simp only [decide_eq_true_eq, decide_eq_false_iff_not] at hg) | (refine CallK.intro (dc_impl_inRange _ _ _) ?_; simp +contextual -dsimp (maxSteps := 2000000) [go_sem, -decide_eq_true_eq, -decide_eq_false_iff_not, hx, hlen]) | omega | exact True.intro
          all_goals clear hk k
          all_goals (show St.Less _ _; exact Less.of rfl (by first | (simp [go_sem, evV, evBad, reckV, small, *] at * <;> grind [reckV, isTwoB, inR, small]) | grind) (by simp [go_sem]))
         ·skip
          refine AW.cond rfl ?_ ?_
          ·intro hc; try simp at hc
           all_goals (
            refine rg [4,5] ?_
            intro k hk; simp -dsimp [go_sem, -decide_eq_true_eq, -decide_eq_false_iff_not, hx, hlen]
            repeat' first | apply And.intro | refine hk _ ?_ | intro hg | omega | exact True.intro
            all_goals clear hk k
            refine rt ?_
            first | (rw [ev_bad hlt hx hc]; simp [go_sem, Tryz.results80]; done) | (have he : evalB e vars = true := hok; rw [he, hzi]; simp [go_sem, Tryz.results80]))
          ·intro hc; try simp at hc
           all_goals (
            refine AW.skipN (fun _ h => h) ?_
            refine rgN [1,6,12,13,14] (fun _ h => h) ?_
            intro k hk; simp -dsimp [go_sem, -decide_eq_true_eq, -decide_eq_false_iff_not, hx, hlen]
            repeat' first | apply And.intro | refine hk _ ?_ | intro hg | omega | exact True.intro
            all_goals clear hk k
            refine rgK ?_
            intro k hk; simp -dsimp [go_sem, -decide_eq_true_eq, -decide_eq_false_iff_not, hx, hlen]
            repeat' first | apply And.intro | refine hk _ ?_ | intro hg | omega | exact True.intro
            all_goals clear hk k
            show ∃ _, _
            have hw := wrapi hlt (by omega)
            refine ⟨i + 1, ⟨by omega, ev_next hx hok (by simpa using hc)⟩, by omega, Less.of rfl (by simp [go_sem, hw]) (by rw [evL_succ hx]; simp [go_sem, htk])⟩)))))
 ·intro hc; try simp at hc
  all_goals (
   refine AW.exitN (fun _ h => h) ?_
   obtain rfl : i = e.length := (by omega)
   have hlen := evL_len e vars e.length
   have hwl : IntKind.wrap .i64 ((e.length : Int) - 1) = (e.length : Int) - 1 := wrap64 (by omega) (by omega)
   have hnt : ((e.length : Int) - 1).toNat = e.length - 1 := by omega
   obtain ⟨z, hz⟩ := at_some (l := evL e vars e.length) (i := e.length - 1) (by omega)
   have hz3 : ∀ h, (evL e vars e.length)[e.length - 1]'h = z := fun h => by have h9 := hz; rw [List.getElem?_eq_getElem h] at h9; exact Option.some.inj h9
   have hzi : evalI e vars = z := by unfold evalI lastI; rw [hlen, List.getD_eq_getElem?_getD, hz]; rfl
   refine rg [4,5] ?_
   intro k hk; simp -dsimp (maxSteps := 2000000) [go_sem, -decide_eq_true_eq, -decide_eq_false_iff_not, hwl, hnt, hz, hz3, hlen]
   repeat' first | apply And.intro | refine hk _ ?_ | intro hg | omega | exact True.intro
   all_goals clear hk k
   refine rt ?_
   first | (rw [ev_bad hlt hx hc]; simp [go_sem, Tryz.results80]; done) | (have he : evalB e vars = true := hok; rw [he, hzi]; simp [go_sem, Tryz.results80]))
end Go.AM
namespace Go.AM
section
variable {P : Program} {st : St} {K : Exit → St → Prop}
end
end Go.AM
namespace Go.AM
def labRes (lab : Labs) : Labs := fun b => match lab b with
 | some (.res, _) => none
 | l => l
theorem labRes_res {lab : Labs} {b : Nat} {q : List (Nat × Nat)} (h : lab b = some (.res, q)) : labRes lab b = none := by simp [labRes, h]
theorem labRes_none {lab : Labs} {b : Nat} (h : lab b = none) : labRes lab b = none := by simp [labRes, h]
theorem labRes_still {lab : Labs} {b : Nat} (h : still (lab b)) : labRes lab b = lab b := by
 unfold labRes
 split
 ·rename_i h2; rw [h2] at h; exact h.elim
 ·rfl
theorem DC.frz {P : Program} {f : FuncId} {args : List AV} {res : AV} (h : DC P f args res []) : DC P f args (unown res) [] := by
 refine ⟨h.body, ?_⟩
 intro w lab vals hl hv hf
 refine (h.calls w lab vals hl hv hf).mono fun e w' he => ?_
 obtain ⟨v, lab', rfl, hT, _, hE, hfr⟩ := he
 refine ⟨v, labRes lab', rfl, .imm _ _ _ (hT.unown (fun b hb => labRes_none hb) (fun b q hb => labRes_res hb)), by simp, ?_, ?_⟩
 ·refine ⟨hE.size, hE.os, hE.out, ?_, hE.blk⟩
  intro b hb hs
  obtain ⟨h1, h2⟩ := hE.kept b hb hs
  refine ⟨?_, h2⟩
  have : labRes lab' b = lab' b := labRes_still (by rw [h1]; exact hs)
  rw [this, h1]
 ·intro b hb
  apply hfr
  intro hn
  exact hb (labRes_none hn)
end Go.AM
namespace Go.AM
end Go.AM
namespace Go.AM
theorem DC.lns {P : Program} {f : FuncId} {args : List AV} {es : Nat} {l : List (List AV)} {muts : List (Nat × AV)} (h : DC P f args (.isl es l) muts) : DC P f args (.lns l.length) muts := by
 refine ⟨h.body, ?_⟩
 intro w lab vals hlen hv hf
 refine (h.calls w lab vals hlen hv hf).mono fun e w' he => ?_
 obtain ⟨v, lab', rfl, hT, hM, hE, hfr⟩ := he
 refine ⟨v, lab', rfl, ?_, hM, hE, hfr⟩
 cases hT with
 | imm _ _ _ hI =>
  cases hI with
  | nsl => exact .imm _ _ _ (.lns _ _ _)
  | esl => exact .imm _ _ _ (.lns _ _ _)
  | isl => exact .imm _ _ _ (.lns _ _ _)
end Go.AM
namespace Go.AM
def labFz (lab : Labs) (id : Nat) : Labs := fun b => match lab b with
 | some (.obj k, p) => if k = id then none else some (.obj k, p)
 | l => l
theorem labFz_hit {lab : Labs} {id b : Nat} {q : List (Nat × Nat)} (h : lab b = some (.obj id, q)) : labFz lab id b = none := by simp [labFz, h]
theorem labFz_none {lab : Labs} {id b : Nat} (h : lab b = none) : labFz lab id b = none := by simp [labFz, h]
theorem labFz_other {lab : Labs} {id k b : Nat} {q : List (Nat × Nat)} (h : lab b = some (.obj k, q)) (hk : k ≠ id) : labFz lab id b = some (.obj k, q) := by simp [labFz, h, hk]
theorem labFz_still {lab : Labs} {id b : Nat} (h : still (lab b)) : labFz lab id b = lab b := by
 unfold labFz
 split
 ·rename_i h2; rw [h2] at h; exact h.elim
 ·rfl
theorem labFz_live {lab : Labs} {id b : Nat} (h : labFz lab id b ≠ none) : lab b ≠ none := by
 intro e; exact h (labFz_none e)
section
variable {P : Program} {st : St} {K : Exit → St → Prop}
theorem RepL.freeze {w0 : World} {lab0 : Labs} {a : Act} {w : World} {lab : Labs} {loc : Locs} {s id es i len : Nat} {nd : Node} (hR : RepL w0 lab0 st a w lab loc) (h1 : st.obj id = some nd) (h2 : st.slot s = some (.sl id es i len))
  (hes : nd.es = es) (hb : i + len ≤ nd.l.length) (ht : ∀ c ∈ nd.l, ∀ x ∈ c, AV.tree x = true) :
  RepL w0 lab0 ⟨st.n, (s, .isl es (((nd.l.drop i).take len).map (·.map unown))) :: st.slots, (id, none) :: st.objs⟩ a w (labFz lab id) (fun k => if k = id then none else loc k) := by
 have hloc : ∀ k b base, (fun k => if k = id then none else loc k) k = some (b, base) → loc k = some (b, base) := by
  intro k b base h
  simp only at h
  split at h
  ·cases h
  ·exact h
 have hV : ∀ x v, V w lab loc x v → V w (labFz lab id) (fun k => if k = id then none else loc k) x v := fun x v hv =>
  hv.mono (fun b _ h => ⟨labFz_none h, rfl⟩) (Nat.le_refl _) fun k _ b base h => ⟨hloc k b base h, fun _ h => h⟩
 refine ⟨hR.size, hR.defers, ?_, ?_, ?_, fun b h => hR.fresh b (labFz_live h), ?_⟩
 ·intro s' x hx
  simp only [St.slot, look] at hx
  split at hx
  ·rename_i e; subst e
   cases hx
   obtain ⟨b, base, hl, ho⟩ := hR.objs id nd h1
   obtain ⟨c, cap, hv, k1, k2, k3⟩ := (hR.slots _ _ h2).inv_sl hl
   refine .imm _ _ ?_
   rw [hv]
   have hll : ((nd.l.drop i).take len).length = len := by simp; omega
   by_cases hz : len = 0
   ·subst hz
    simp only [List.take_zero, List.map_nil]
    exact .esl _ _ _
   have hc : c = ⟨b, base + i * es, none⟩ := by rcases k2 with h | h; omega; exact h
   subst hc
   have hres := I.isl (w := w) (lab := labFz lab id) es (((nd.l.drop i).take len).map (·.map unown)) b (base + i * es) cap
    (fun i' j => (w.cell? ⟨b, base + i * es + i' * es + j, none⟩).getD undef) (labFz_hit ho.hlab) ho.blk.lt (by rw [List.length_map, hll]; exact k1)
    (by
     intro c hc
     obtain ⟨c', hc', rfl⟩ := List.mem_map.1 hc
     rw [List.length_map, ← hes]
     exact ho.es c' (List.mem_of_mem_drop (List.mem_of_mem_take hc')))
    (by
     intro c hc x hx
     obtain ⟨c', hc', rfl⟩ := List.mem_map.1 hc
     obtain ⟨y, hy, rfl⟩ := List.mem_map.1 hx
     exact unown_plain (ht c' (List.mem_of_mem_drop (List.mem_of_mem_take hc')) y hy))
    ?_ ?_
   ·rw [List.length_map, hll] at hres; exact hres
   ·intro i' j hi hj
    rw [List.length_map, hll] at hi
    have hi2 : i + i' < nd.l.length := by omega
    have hc : nd.l[i + i']? = some nd.l[i + i'] := List.getElem?_eq_getElem hi2
    have hcl := ho.es _ (List.mem_of_getElem? hc)
    obtain ⟨v, hv, _⟩ := ho.cells (i + i') _ j _ hc (List.getElem?_eq_getElem (by omega))
    rw [hes, Nat.add_mul, ← Nat.add_assoc] at hv
    rw [hv]; rfl
   ·intro i' c j x hi hj
    simp only [List.getElem?_map, Option.map_eq_some_iff] at hi
    obtain ⟨c', hc', rfl⟩ := hi
    simp only [List.getElem?_map, Option.map_eq_some_iff] at hj
    obtain ⟨y, hy, rfl⟩ := hj
    have hc2 : nd.l[i + i']? = some c' := by
     rw [List.getElem?_take] at hc'
     split at hc'
     ·rwa [List.getElem?_drop] at hc'
     ·cases hc'
    obtain ⟨v, hv, hcv⟩ := ho.cells (i + i') c' j y hc2 hy
    rw [hes, Nat.add_mul, ← Nat.add_assoc] at hv
    simp only [hv, Option.getD_some]
    refine (Cell.tree hcv (ht c' (List.mem_of_getElem? hc2) y (List.mem_of_getElem? hy))).unown (fun b h => labFz_none h) ?_
    intro b' q hq
    exact labFz_hit (by rw [hq]; rfl)
  ·exact hV _ _ (hR.slots s' x hx)
 ·intro k nk hk
  simp only [St.obj, look] at hk
  split at hk
  ·simp at hk
  ·rename_i hne
   have hne' : k ≠ id := fun e => hne e
   obtain ⟨b, base, hl, ho⟩ := hR.objs k nk hk
   refine ⟨b, base, by rw [if_neg hne']; exact hl, labFz_other ho.hlab hne', ho.blk, ho.es, ?_⟩
   intro i2 c2 j2 z hi hj
   obtain ⟨v, hv, hcv⟩ := ho.cells i2 c2 j2 z hi hj
   refine ⟨v, hv, hcv.imp (hV _ _) fun hT => hT.move (fun b _ h => ⟨labFz_none h, rfl⟩) ?_ (Nat.le_refl _)⟩
   intro b' q _ hq
   exact ⟨by rw [labFz_other (k := k) (q := (Lab.app (.obj k, [(i2, j2)]) q).2) (by rw [hq]; rfl) hne']; rfl, rfl⟩
 ·intro k hk
  simp only [St.obj, look] at hk
  split at hk
  ·rename_i e; simp [e]
  ·have := hR.dead k hk
   split
   ·rfl
   ·exact this
 ·have e := hR.ext
  refine ⟨e.size, e.os, e.out, ?_, e.blk⟩
  intro b hb hs
  obtain ⟨k1, k2⟩ := e.kept b hb hs
  exact ⟨by rw [labFz_still (by rw [k1]; exact hs), k1], k2⟩
theorem AW.freeze {code : Code} (s id : Nat) {es i len : Nat} {nd : Node} {l' : List (List AV)} (h1 : st.obj id = some nd) (h2 : st.slot s = some (.sl id es i len)) (hes : nd.es = es) (hb : i + len ≤ nd.l.length) (ht : ∀ c ∈ nd.l, ∀ x ∈ c, AV.tree x = true)
  (hl : ((nd.l.drop i).take len).map (·.map unown) = l')
  (h : AW P code ⟨st.n, (s, .isl es l') :: st.slots, (id, none) :: st.objs⟩ K) : AW P code st K := by
 subst hl
 exact AW.ghost (fun _ _ _ _ ⟨_, _, hR⟩ => ⟨_, _, hR.freeze h1 h2 hes hb ht⟩) h
end
end Go.AM
namespace Go.AM
section
variable {P : Program} {st : St} {K : Exit → St → Prop}
theorem RepL.rowUndef {w0 : World} {lab0 : Labs} {a : Act} {w : World} {lab : Labs} {loc : Locs} {id i : Nat} {nd : Node} {c : List AV} (hR : RepL w0 lab0 st a w lab loc) (h1 : st.obj id = some nd) (h2 : nd.l[i]? = some c) :
  RepL w0 lab0 ⟨st.n, st.slots, (id, some ⟨nd.es, nd.l.set i (List.replicate nd.es .undef)⟩) :: st.objs⟩ a w lab loc := by
 refine ⟨hR.size, hR.defers, hR.slots, ?_, ?_, hR.fresh, hR.ext⟩
 ·intro k nk hk
  simp only [St.obj, look] at hk
  split at hk
  ·rename_i e; subst e
   simp at hk; subst hk
   obtain ⟨b, base, hl, ho⟩ := hR.objs k nd h1
   refine ⟨b, base, hl, ho.hlab, by simpa using ho.blk, ?_, ?_⟩
   ·intro z hz
    rcases List.mem_or_eq_of_mem_set hz with hz | hz
    ·exact ho.es z hz
    ·subst hz; simp
   ·intro i2 c2 j2 z hi hj
    rcases set_get hi with ⟨rfl, rfl, hlt⟩ | ⟨hne, hi⟩
    ·rw [List.getElem?_replicate] at hj
     split at hj
     ·rename_i hjl
      cases hj
      have hc : nd.l[i2]? = some nd.l[i2] := List.getElem?_eq_getElem hlt
      have hcl := ho.es _ (List.mem_of_getElem? hc)
      obtain ⟨v, hv, _⟩ := ho.cells i2 _ j2 _ hc (List.getElem?_eq_getElem (by omega))
      exact ⟨v, hv, Or.inl (.undef v)⟩
     ·cases hj
    ·exact ho.cells i2 c2 j2 z hi hj
  ·exact hR.objs k nk hk
 ·intro k hk
  simp only [St.obj, look] at hk
  split at hk
  ·simp at hk
  ·exact hR.dead k hk
theorem RepL.cellUndef {w0 : World} {lab0 : Labs} {a : Act} {w : World} {lab : Labs} {loc : Locs} {id i : Nat} (j : Nat) {nd : Node} {c : List AV} (hR : RepL w0 lab0 st a w lab loc) (h1 : st.obj id = some nd) (h2 : nd.l[i]? = some c) :
  RepL w0 lab0 ⟨st.n, st.slots, (id, some ⟨nd.es, nd.l.set i (c.set j .undef)⟩) :: st.objs⟩ a w lab loc := by
 refine ⟨hR.size, hR.defers, hR.slots, ?_, ?_, hR.fresh, hR.ext⟩
 ·intro k nk hk
  simp only [St.obj, look] at hk
  split at hk
  ·rename_i e; subst e
   simp at hk; subst hk
   obtain ⟨b, base, hl, ho⟩ := hR.objs k nd h1
   have hcl := ho.es _ (List.mem_of_getElem? h2)
   refine ⟨b, base, hl, ho.hlab, by simpa using ho.blk, ?_, ?_⟩
   ·intro z hz
    rcases List.mem_or_eq_of_mem_set hz with hz | hz
    ·exact ho.es z hz
    ·subst hz; simpa using hcl
   ·intro i2 c2 j2 z hi hj
    rcases set_get hi with ⟨rfl, rfl, hlt⟩ | ⟨hne, hi⟩
    ·rcases set_get hj with ⟨rfl, rfl, hjl⟩ | ⟨_, hj⟩
     ·obtain ⟨v, hv, _⟩ := ho.cells i2 _ j2 _ h2 (List.getElem?_eq_getElem hjl)
      exact ⟨v, hv, Or.inl (.undef v)⟩
     ·exact ho.cells i2 _ j2 z h2 hj
    ·exact ho.cells i2 c2 j2 z hi hj
  ·exact hR.objs k nk hk
 ·intro k hk
  simp only [St.obj, look] at hk
  split at hk
  ·simp at hk
  ·exact hR.dead k hk
theorem AW.cellUndef {code : Code} (id i j : Nat) {nd : Node} {c : List AV} (h1 : st.obj id = some nd) (h2 : nd.l[i]? = some c)
  (h : AW P code ⟨st.n, st.slots, (id, some ⟨nd.es, nd.l.set i (c.set j .undef)⟩) :: st.objs⟩ K) : AW P code st K :=
 AW.ghost (fun _ _ _ _ ⟨lab, loc, hR⟩ => ⟨lab, loc, hR.cellUndef j h1 h2⟩) h
theorem AW.rowUndef {code : Code} (id i : Nat) {nd : Node} {c : List AV} (h1 : st.obj id = some nd) (h2 : nd.l[i]? = some c)
  (h : AW P code ⟨st.n, st.slots, (id, some ⟨nd.es, nd.l.set i (List.replicate nd.es .undef)⟩) :: st.objs⟩ K) : AW P code st K :=
 AW.ghost (fun _ _ _ _ ⟨lab, loc, hR⟩ => ⟨lab, loc, hR.rowUndef h1 h2⟩) h
end
end Go.AM
namespace Go.AM
def Gh (s : St) (Q : St → Prop) : Prop := ∃ s', (∀ w0 lab0 a w, Rep w0 lab0 s a w → Rep w0 lab0 s' a w) ∧ Q s'
theorem Gh.done {s : St} {Q : St → Prop} (h : Q s) : Gh s Q := ⟨s, fun _ _ _ _ h => h, h⟩
theorem Gh.ghost {s s' : St} {Q : St → Prop} (hr : ∀ w0 lab0 a w, Rep w0 lab0 s a w → Rep w0 lab0 s' a w) (h : Gh s' Q) : Gh s Q := by
 obtain ⟨s2, h1, h2⟩ := h
 exact ⟨s2, fun w0 lab0 a w h => h1 w0 lab0 a w (hr w0 lab0 a w h), h2⟩
theorem Gh.fold {st : St} {Q : St → Prop} (id i j id' : Nat) {es n : Nat} {nd : Node} {c : List AV} {l : List (List AV)} (h1 : st.obj id = some nd) (h2 : nd.l[i]? = some c)
  (h4 : st.obj id' = some ⟨es, l⟩) (h3 : c[j]? = some (.sl id' es 0 n)) (hn : n = l.length) (h5 : id ≠ id') (h6 : ∀ c ∈ l, ∀ x ∈ c, AV.tree x = true)
  (h : Gh ⟨st.n, st.slots, (id', none) :: (id, some ⟨nd.es, nd.l.set i (c.set j (.osl es l))⟩) :: st.objs⟩ Q) : Gh st Q :=
 Gh.ghost (fun _ _ _ _ hR => hR.fold h1 h2 (by rw [h3, hn]) h4 h5 h6) h
theorem AW.ghostK {P : Program} {c : Code} {st : St} {A : Exit → Prop} {Q : St → Prop} (h : AW P c st fun e s => A e ∧ Gh s Q) : AW P c st fun e s => A e ∧ Q s := by
 refine ⟨fun w0 lab0 a w hR => wp_mono (h.go w0 lab0 a w hR) ?_⟩
 rintro e a' w' ⟨⟨s, ⟨h1, s2, h2, h3⟩, h4⟩, h5⟩
 exact ⟨⟨s2, ⟨h1, h3⟩, h2 _ _ _ _ h4⟩, h5⟩
theorem DC.introG {P : Program} {ti : TI} (hT : TOk P ti) {f : FuncId} {fn : Func} {c : Code} {args xs0 : List AV} {po : PlanO} {res : AV} {muts : List (Nat × AV)} (hfn : P.funcs[f]? = some fn) (hb : fn.body = some c) (hname : (fn.name == "runtime.NumGoroutine") = false)
  {rs : List ResultVar} (hrs : fn.results.toList = rs) {n : Nat} (hn' : fn.ntmps = n) (hn : (decide (args.length ≤ n)) = true) (h0 : argsIn 0 args = some (xs0, po)) (hc : (apart po && decide (po.map (·.2.1)).Nodup && po.all (fun e => !decide (e.1.1 = .tmp))) = true)
  (hm : (muts.all fun q => noW q.1 c && decide (q.1 < 900) && decide (q.1 < args.length)) = true) (ow : List Nat)
  (h : AW P c ⟨n, enumFrom 0 xs0, po.map fun e => (e.2.1, some e.2.2)⟩ fun e s => (e = .normal ∨ e = .ret) ∧ Gh s fun s => (muts.all fun q => match s.slot q.1 with | some x => !isFn x | none => true) = true ∧ finOk ti rs ow muts s res) : DC P f args res muts :=
 DC.intro hT hfn hb hname hrs hn' hn h0 hc hm ow (AW.ghostK h)
end Go.AM
namespace Go.AM
open Go.Proofs
theorem dc_impl_board_stop (p : List TStep) (hp : p.length ≤ 24) (c : TChart) (st : Int) : DC Tryz.prog 68 [.op (brow p c), .int .i64 st] (.tup []) [(0, .op (brow p (endF p.length st c)))] := by
 refine DC.introG tiOk Tryz.func68 rfl rfl rfl rfl rfl rfl rfl (by simp [noW, noWo]) [] ?_
 refine rgE (fun _ => []) ?_
 intro k hk; simp -dsimp (maxSteps := 2000000) [go_sem, -decide_eq_true_eq, -decide_eq_false_iff_not]
 repeat' first | (refine Chk.keys ?_; simp only [go_sem, List.map_cons, List.map_nil, List.flatMap_cons, List.flatMap_nil, List.flatMap_append, List.append_nil, List.nil_append, List.cons_append]; decide +kernel) | apply And.intro | refine hk _ ?_ | intro hg | omega | exact True.intro
 all_goals clear hk k
 refine ⟨.intro, And.intro (.inl rfl) ?_⟩
 refine Gh.fold 1900 0 4 13 rfl rfl rfl rfl (by simp) (by decide) (by simp [go_sem]) ?_
 refine Gh.fold 1900 0 5 19 rfl rfl rfl rfl (by simp) (by decide) (by simp [go_sem]) ?_
 refine Gh.done ?_
 simp [go_sem, Tryz.results68, endF]
end Go.AM
namespace Go.AM
open Go.Proofs
theorem dc_impl_board_choose (p : List TStep) (hP : ProcOk p) (f : Nat) (hE : ∀ (k : Int) (c : TChart), 0 ≤ k → k.toNat < p.length → WfC p c → mE (pars p) k.toNat ≤ f → DC Tryz.prog 54 [.op (brow p c), .int .i64 k] (.tup []) [(0, .op (brow p (goF p f true k.toNat c)))]) (a : Nat) (ha : a < p.length) (h3 : (nS p a).kind = 3) (c : TChart) (hw : WfC p c) (hm : mE (pars p) a ≤ f + 1) : DC Tryz.prog 79 [.op (brow p c), .osl 1 ((kids p (a : Int)).map I1)] (.tup []) [(0, .op (brow p (if chF p c.vars (kids p (a : Int)) < 0 then endF p.length 3 c else goF p f true (chF p c.vars (kids p (a : Int))).toNat c)))] := by
 have hkl := kids_len p (a : Int)
 have hp := hP.len.2
 refine DC.introG tiOk Tryz.func79 rfl rfl rfl rfl rfl rfl rfl (by simp [noW, noWo]) [] ?_
 refine rgA [0,9,10,11] ?_
 refine AW.block ?_
 refine AW.loopI (fun i : Nat => ⟨46, [(0, .ptr 1900 6 0 0), (9, .sl 1901 1 0 (kids p (a : Int)).length), (10, .int .i64 (kids p (a : Int)).length), (11, .int .i64 (i : Nat))], [(1901, some ⟨1, (kids p (a : Int)).map I1⟩), (1900, some ⟨6, [brow p c]⟩)]⟩) (fun i => i ≤ (kids p (a : Int)).length ∧ chF p c.vars (kids p (a : Int)) = chF p c.vars ((kids p (a : Int)).drop i) ∧ ∀ j u, j < i → (kids p (a : Int))[j]? = some u → (nS p u.toNat).cond.length ≠ 0) (fun i => (kids p (a : Int)).length - i) (0) (⟨Nat.zero_le _, rfl, fun j u h => by omega⟩) (Less.of rfl (by simp [go_sem]) (by simp [go_sem])) ?_
 rintro i ⟨hi, hinv, hno⟩
 refine rgA [0,9,10,11,12] ?_
 refine AW.seq ?_
 refine AW.cond rfl ?_ ?_
 ·intro hc; try simp [-List.length_eq_zero_iff] at hc
  all_goals try (exfalso; omega; done)
  all_goals (
   have hlt : i < (kids p (a : Int)).length := by first | assumption | omega
   obtain ⟨u, hu⟩ := at_some hlt
   have hum := List.mem_of_getElem? hu
   obtain ⟨m, rfl, ham, hmp, hpm, hme⟩ := hP.kid hum
   have hum2 := kids_bd hum
   obtain ⟨x, hx⟩ := at_some (l := p) (i := m) (by omega)
   have hxn := nS_at hx
   have hst := chF_step (p := p) (vars := c.vars) hu
   have hgd : 0 < (nS p m).cond.length → EGood (nS p m).cond := fun h => hP.cond hmp h
   rw [Int.toNat_natCast] at hst
   rw [hxn] at hst hgd
   have hx3 : ∀ h, p[m]'h = x := fun h => by have h9 := hx; rw [List.getElem?_eq_getElem h] at h9; exact Option.some.inj h9
   have hu3 : ∀ h, (kids p (a : Int))[i]'h = ((m : Nat) : Int) := fun h => by have h9 := hu; rw [List.getElem?_eq_getElem h] at h9; exact Option.some.inj h9
   refine AW.skipN (fun _ h => h) ?_
   refine AW.seq ?_
   refine AW.block ?_
   refine rg [0,5,9,10,11] ?_
   intro k hk; simp -dsimp [go_sem, -decide_eq_true_eq, -decide_eq_false_iff_not, hx, hu, hx3, hu3]
   repeat' first | apply And.intro | refine hk _ ?_ | intro hg | omega | exact True.intro
   all_goals clear hk k
   refine rg [0,5,6,7,9,10,11] ?_
   intro k hk; simp -dsimp [go_sem, -decide_eq_true_eq, -decide_eq_false_iff_not, hx, hu, hx3, hu3]
   repeat' first | apply And.intro | refine hk _ ?_ | intro hg | omega | exact True.intro
   all_goals clear hk k
   refine AW.seq ?_
   refine rg [0,5,6,7,8,9,10,11] ?_
   intro k hk; simp -dsimp (maxSteps := 2000000) [go_sem, -decide_eq_true_eq, -decide_eq_false_iff_not, hx, hu, hx3, hu3]
   repeat' first | apply And.intro | refine hk _ ?_ | intro hg | omega | exact True.intro
   all_goals clear hk k
   refine AW.thaw (nd := ?nd_1) (c := ?c_1) (l := ?l_1) (es := ?es_1) 1900 0 3 7003 ?h1_1 ?h2_1 ?h3_1 ?h45_1 ?kk_1
   (case h1_1 => exact rfl)
   (case h2_1 => exact rfl)
   (case h3_1 => exact rfl)
   (case h45_1 => simp [go_sem])
   refine rg [0,5,6,7,8,9,10,11,25] ?_
   intro k hk; simp -dsimp [go_sem, -decide_eq_true_eq, -decide_eq_false_iff_not, hx, hu, hx3, hu3]
   repeat' first | apply And.intro | refine hk _ ?_ | intro hg | omega | exact True.intro
   all_goals clear hk k
   refine AW.cond rfl ?_ ?_
   ·intro hc; try simp [-List.length_eq_zero_iff] at hc
    all_goals try (exfalso; omega; done)
    all_goals (
     have hg := hgd (by first | omega | assumption | contradiction | (exact List.length_pos_iff.2 (by assumption)) | (exact List.length_eq_zero_iff.2 (by assumption)) | (simp_all; done) | (simp_all; omega))
     refine rgN [0,5,6,7,9,10,11] (fun _ h => h) ?_
     intro k hk; simp -dsimp (maxSteps := 2000000) [go_sem, -decide_eq_true_eq, -decide_eq_false_iff_not, hx, hu, hx3, hu3]
     repeat' first | apply And.intro | refine hk _ ?_ | intro hg | (refine CallK.intro (dc_impl_eval x.cond c.vars hg.len hg.parts hg.ty hw.vars hw.small) ?_; simp -dsimp (maxSteps := 2000000) [go_sem, -decide_eq_true_eq, -decide_eq_false_iff_not, hx, hu, hx3, hu3]) | omega | exact True.intro
     all_goals clear hk k
     refine AW.seq ?_
     refine AW.fold (nd := ?nd_2) (c := ?c_2) (l := ?l_2) (es := ?es_2) (n := ?n_2) 1900 0 3 7003 ?h1_2 ?h2_2 ?h4_2 ?h3_2 ?hn_2 (by decide) ?h6_2 ?kk_2
     (case h1_2 => exact rfl)
     (case h2_2 => exact rfl)
     (case h4_2 => exact rfl)
     (case h3_2 => exact rfl)
     (case hn_2 => simp)
     (case h6_2 => simp [go_sem])
     refine rg [0,5,6,9,10,11,37] ?_
     intro k hk; simp -dsimp [go_sem, -decide_eq_true_eq, -decide_eq_false_iff_not, hx, hu, hx3, hu3]
     repeat' first | apply And.intro | refine hk _ ?_ | intro hg | omega | exact True.intro
     all_goals clear hk k
     refine AW.cond rfl ?_ ?_
     ·intro hc; try simp [-List.length_eq_zero_iff] at hc
      all_goals try (exfalso; omega; done)
      all_goals (
       refine AW.reg tiOk (fun _ => [0]) [0] ?_
       intro k hk; simp -dsimp (maxSteps := 2000000) [go_sem, -decide_eq_true_eq, -decide_eq_false_iff_not, hx, hu, hx3, hu3]
       repeat' first | apply And.intro | refine hk _ ?_ | intro hg | (refine CallK.intro (dc_impl_board_stop p hp c 3) ?_; simp -dsimp (maxSteps := 2000000) [go_sem, -decide_eq_true_eq, -decide_eq_false_iff_not, hx, hu, hx3, hu3]) | omega | exact True.intro
       all_goals clear hk k
       refine AW.ret ⟨.inr rfl, ?_⟩
       refine Gh.done ?_
       first | (rw [hinv, hst, if_pos (show x.cond.length = 0 by first | omega | assumption | contradiction | (exact List.length_pos_iff.2 (by assumption)) | (exact List.length_eq_zero_iff.2 (by assumption)) | (simp_all; done) | (simp_all; omega)), if_neg (by omega)]; simp [go_sem, Tryz.results79]; done) | (rw [hinv, hst, if_neg (show ¬ x.cond.length = 0 by first | omega | assumption | contradiction | (exact List.length_pos_iff.2 (by assumption)) | (exact List.length_eq_zero_iff.2 (by assumption)) | (simp_all; done) | (simp_all; omega)), if_pos (show evalB x.cond c.vars = false by first | omega | assumption | contradiction | (exact List.length_pos_iff.2 (by assumption)) | (exact List.length_eq_zero_iff.2 (by assumption)) | (simp_all; done) | (simp_all; omega)), if_pos (by omega)]; simp [go_sem, Tryz.results79]; done) | (rw [hinv, hst, if_neg (show ¬ x.cond.length = 0 by first | omega | assumption | contradiction | (exact List.length_pos_iff.2 (by assumption)) | (exact List.length_eq_zero_iff.2 (by assumption)) | (simp_all; done) | (simp_all; omega)), if_neg (show ¬ evalB x.cond c.vars = false by first | omega | assumption | contradiction | (exact List.length_pos_iff.2 (by assumption)) | (exact List.length_eq_zero_iff.2 (by assumption)) | (simp_all; done) | (simp_all; omega)), if_pos (show evalI x.cond c.vars = 1 by first | omega | assumption | contradiction | (exact List.length_pos_iff.2 (by assumption)) | (exact List.length_eq_zero_iff.2 (by assumption)) | (simp_all; done) | (simp_all; omega)), if_neg (by omega)]; simp [go_sem, Tryz.results79]; done) | (exfalso; have hks := hP.many ha; rw [h3] at hks; have h9 := hks.1; simp [kidLo] at h9; have hne : (kids p (a : Int)) ≠ [] := (by intro e; rw [e] at h9; simp at h9); have h8 := last_at hne; have h7 := hno _ _ (by omega) h8; exact h7 ((hP.last h3 (List.mem_of_getElem? h8)).2 rfl)))
     ·intro hc; try simp [-List.length_eq_zero_iff] at hc
      all_goals try (exfalso; omega; done)
      all_goals (
       refine AW.skipN (fun _ h => h) ?_
       refine rg [0,5,9,10,11,41] ?_
       intro k hk; simp -dsimp [go_sem, -decide_eq_true_eq, -decide_eq_false_iff_not, hx, hu, hx3, hu3]
       repeat' first | apply And.intro | refine hk _ ?_ | intro hg | omega | exact True.intro
       all_goals clear hk k
       refine AW.cond rfl ?_ ?_
       ·intro hc; try simp [-List.length_eq_zero_iff] at hc
        all_goals try (exfalso; omega; done)
        all_goals (
         refine AW.reg tiOk (fun _ => [0]) [0] ?_
         intro k hk; simp -dsimp (maxSteps := 2000000) [go_sem, -decide_eq_true_eq, -decide_eq_false_iff_not, hx, hu, hx3, hu3]
         repeat' first | apply And.intro | refine hk _ ?_ | intro hg | (refine CallK.intro (hE (m : Int) c (by omega) (by omega) hw (by rw [Int.toNat_natCast]; omega)) ?_; simp -dsimp (maxSteps := 2000000) [go_sem, -decide_eq_true_eq, -decide_eq_false_iff_not, hx, hu, hx3, hu3]) | omega | exact True.intro
         all_goals clear hk k
         refine AW.ret ⟨.inr rfl, ?_⟩
         refine Gh.done ?_
         first | (rw [hinv, hst, if_pos (show x.cond.length = 0 by first | omega | assumption | contradiction | (exact List.length_pos_iff.2 (by assumption)) | (exact List.length_eq_zero_iff.2 (by assumption)) | (simp_all; done) | (simp_all; omega)), if_neg (by omega)]; simp [go_sem, Tryz.results79]; done) | (rw [hinv, hst, if_neg (show ¬ x.cond.length = 0 by first | omega | assumption | contradiction | (exact List.length_pos_iff.2 (by assumption)) | (exact List.length_eq_zero_iff.2 (by assumption)) | (simp_all; done) | (simp_all; omega)), if_pos (show evalB x.cond c.vars = false by first | omega | assumption | contradiction | (exact List.length_pos_iff.2 (by assumption)) | (exact List.length_eq_zero_iff.2 (by assumption)) | (simp_all; done) | (simp_all; omega)), if_pos (by omega)]; simp [go_sem, Tryz.results79]; done) | (rw [hinv, hst, if_neg (show ¬ x.cond.length = 0 by first | omega | assumption | contradiction | (exact List.length_pos_iff.2 (by assumption)) | (exact List.length_eq_zero_iff.2 (by assumption)) | (simp_all; done) | (simp_all; omega)), if_neg (show ¬ evalB x.cond c.vars = false by first | omega | assumption | contradiction | (exact List.length_pos_iff.2 (by assumption)) | (exact List.length_eq_zero_iff.2 (by assumption)) | (simp_all; done) | (simp_all; omega)), if_pos (show evalI x.cond c.vars = 1 by first | omega | assumption | contradiction | (exact List.length_pos_iff.2 (by assumption)) | (exact List.length_eq_zero_iff.2 (by assumption)) | (simp_all; done) | (simp_all; omega)), if_neg (by omega)]; simp [go_sem, Tryz.results79]; done) | (exfalso; have hks := hP.many ha; rw [h3] at hks; have h9 := hks.1; simp [kidLo] at h9; have hne : (kids p (a : Int)) ≠ [] := (by intro e; rw [e] at h9; simp at h9); have h8 := last_at hne; have h7 := hno _ _ (by omega) h8; exact h7 ((hP.last h3 (List.mem_of_getElem? h8)).2 rfl)))
       ·intro hc; try simp [-List.length_eq_zero_iff] at hc
        all_goals try (exfalso; omega; done)
        all_goals (
         refine AW.skipN (fun _ h => h) ?_
         refine rgK ?_
         intro k hk; simp -dsimp [go_sem, -decide_eq_true_eq, -decide_eq_false_iff_not, hx, hu, hx3, hu3]
         repeat' first | apply And.intro | refine hk _ ?_ | intro hg | omega | exact True.intro
         all_goals clear hk k
         show ∃ _, _
         have hw := wrapi hlt (by omega)
         have h1 : ¬ x.cond.length = 0 := by first | omega | assumption | contradiction | (exact List.length_pos_iff.2 (by assumption)) | (exact List.length_eq_zero_iff.2 (by assumption)) | (simp_all; done) | (simp_all; omega)
         have h2 : ¬ evalB x.cond c.vars = false := by first | omega | assumption | contradiction | (exact List.length_pos_iff.2 (by assumption)) | (exact List.length_eq_zero_iff.2 (by assumption)) | (simp_all; done) | (simp_all; omega)
         have h3 : ¬ evalI x.cond c.vars = 1 := by first | omega | assumption | contradiction | (exact List.length_pos_iff.2 (by assumption)) | (exact List.length_eq_zero_iff.2 (by assumption)) | (simp_all; done) | (simp_all; omega)
         rw [if_neg h1, if_neg h2, if_neg h3] at hst
         refine ⟨i + 1, ⟨by omega, by rw [hinv, hst], fun j u hj huj => ?_⟩, by omega, Less.of rfl (by simp [go_sem, hw]) (by simp [go_sem])⟩
         rcases Nat.lt_or_ge j i with h8 | h8
         ·exact hno j u h8 huj
         ·(obtain rfl : j = i := (by omega)); (rw [hu] at huj); (obtain rfl := Option.some.inj huj); (rw [Int.toNat_natCast, hxn]; exact h1))))
   ·intro hc; try simp [-List.length_eq_zero_iff] at hc
    all_goals try (exfalso; omega; done)
    all_goals (
     refine AW.skipN (fun _ h => h) ?_
     refine AW.seq ?_
     refine AW.fold (nd := ?nd_3) (c := ?c_3) (l := ?l_3) (es := ?es_3) (n := ?n_3) 1900 0 3 7003 ?h1_3 ?h2_3 ?h4_3 ?h3_3 ?hn_3 (by decide) ?h6_3 ?kk_3
     (case h1_3 => exact rfl)
     (case h2_3 => exact rfl)
     (case h4_3 => exact rfl)
     (case h3_3 => exact rfl)
     (case hn_3 => simp)
     (case h6_3 => simp [go_sem])
     refine rg [0,5,6,9,10,11,37] ?_
     intro k hk; simp -dsimp [go_sem, -decide_eq_true_eq, -decide_eq_false_iff_not, hx, hu, hx3, hu3]
     repeat' first | apply And.intro | refine hk _ ?_ | intro hg | omega | exact True.intro
     all_goals clear hk k
     refine AW.cond rfl ?_ ?_
     ·intro hc; try simp [-List.length_eq_zero_iff] at hc
      all_goals try (exfalso; omega; done)
      all_goals (
       refine AW.reg tiOk (fun _ => [0]) [0] ?_
       intro k hk; simp -dsimp (maxSteps := 2000000) [go_sem, -decide_eq_true_eq, -decide_eq_false_iff_not, hx, hu, hx3, hu3]
       repeat' first | apply And.intro | refine hk _ ?_ | intro hg | (refine CallK.intro (dc_impl_board_stop p hp c 3) ?_; simp -dsimp (maxSteps := 2000000) [go_sem, -decide_eq_true_eq, -decide_eq_false_iff_not, hx, hu, hx3, hu3]) | omega | exact True.intro
       all_goals clear hk k
       refine AW.ret ⟨.inr rfl, ?_⟩
       refine Gh.done ?_
       first | (rw [hinv, hst, if_pos (show x.cond.length = 0 by first | omega | assumption | contradiction | (exact List.length_pos_iff.2 (by assumption)) | (exact List.length_eq_zero_iff.2 (by assumption)) | (simp_all; done) | (simp_all; omega)), if_neg (by omega)]; simp [go_sem, Tryz.results79]; done) | (rw [hinv, hst, if_neg (show ¬ x.cond.length = 0 by first | omega | assumption | contradiction | (exact List.length_pos_iff.2 (by assumption)) | (exact List.length_eq_zero_iff.2 (by assumption)) | (simp_all; done) | (simp_all; omega)), if_pos (show evalB x.cond c.vars = false by first | omega | assumption | contradiction | (exact List.length_pos_iff.2 (by assumption)) | (exact List.length_eq_zero_iff.2 (by assumption)) | (simp_all; done) | (simp_all; omega)), if_pos (by omega)]; simp [go_sem, Tryz.results79]; done) | (rw [hinv, hst, if_neg (show ¬ x.cond.length = 0 by first | omega | assumption | contradiction | (exact List.length_pos_iff.2 (by assumption)) | (exact List.length_eq_zero_iff.2 (by assumption)) | (simp_all; done) | (simp_all; omega)), if_neg (show ¬ evalB x.cond c.vars = false by first | omega | assumption | contradiction | (exact List.length_pos_iff.2 (by assumption)) | (exact List.length_eq_zero_iff.2 (by assumption)) | (simp_all; done) | (simp_all; omega)), if_pos (show evalI x.cond c.vars = 1 by first | omega | assumption | contradiction | (exact List.length_pos_iff.2 (by assumption)) | (exact List.length_eq_zero_iff.2 (by assumption)) | (simp_all; done) | (simp_all; omega)), if_neg (by omega)]; simp [go_sem, Tryz.results79]; done) | (exfalso; have hks := hP.many ha; rw [h3] at hks; have h9 := hks.1; simp [kidLo] at h9; have hne : (kids p (a : Int)) ≠ [] := (by intro e; rw [e] at h9; simp at h9); have h8 := last_at hne; have h7 := hno _ _ (by omega) h8; exact h7 ((hP.last h3 (List.mem_of_getElem? h8)).2 rfl)))
     ·intro hc; try simp [-List.length_eq_zero_iff] at hc
      all_goals try (exfalso; omega; done)
      all_goals (
       refine AW.skipN (fun _ h => h) ?_
       refine rg [0,5,9,10,11,41] ?_
       intro k hk; simp -dsimp [go_sem, -decide_eq_true_eq, -decide_eq_false_iff_not, hx, hu, hx3, hu3]
       repeat' first | apply And.intro | refine hk _ ?_ | intro hg | omega | exact True.intro
       all_goals clear hk k
       refine AW.cond rfl ?_ ?_
       ·intro hc; try simp [-List.length_eq_zero_iff] at hc
        all_goals try (exfalso; omega; done)
        all_goals (
         refine AW.reg tiOk (fun _ => [0]) [0] ?_
         intro k hk; simp -dsimp (maxSteps := 2000000) [go_sem, -decide_eq_true_eq, -decide_eq_false_iff_not, hx, hu, hx3, hu3]
         repeat' first | apply And.intro | refine hk _ ?_ | intro hg | (refine CallK.intro (hE (m : Int) c (by omega) (by omega) hw (by rw [Int.toNat_natCast]; omega)) ?_; simp -dsimp (maxSteps := 2000000) [go_sem, -decide_eq_true_eq, -decide_eq_false_iff_not, hx, hu, hx3, hu3]) | omega | exact True.intro
         all_goals clear hk k
         refine AW.ret ⟨.inr rfl, ?_⟩
         refine Gh.done ?_
         first | (rw [hinv, hst, if_pos (show x.cond.length = 0 by first | omega | assumption | contradiction | (exact List.length_pos_iff.2 (by assumption)) | (exact List.length_eq_zero_iff.2 (by assumption)) | (simp_all; done) | (simp_all; omega)), if_neg (by omega)]; simp [go_sem, Tryz.results79]; done) | (rw [hinv, hst, if_neg (show ¬ x.cond.length = 0 by first | omega | assumption | contradiction | (exact List.length_pos_iff.2 (by assumption)) | (exact List.length_eq_zero_iff.2 (by assumption)) | (simp_all; done) | (simp_all; omega)), if_pos (show evalB x.cond c.vars = false by first | omega | assumption | contradiction | (exact List.length_pos_iff.2 (by assumption)) | (exact List.length_eq_zero_iff.2 (by assumption)) | (simp_all; done) | (simp_all; omega)), if_pos (by omega)]; simp [go_sem, Tryz.results79]; done) | (rw [hinv, hst, if_neg (show ¬ x.cond.length = 0 by first | omega | assumption | contradiction | (exact List.length_pos_iff.2 (by assumption)) | (exact List.length_eq_zero_iff.2 (by assumption)) | (simp_all; done) | (simp_all; omega)), if_neg (show ¬ evalB x.cond c.vars = false by first | omega | assumption | contradiction | (exact List.length_pos_iff.2 (by assumption)) | (exact List.length_eq_zero_iff.2 (by assumption)) | (simp_all; done) | (simp_all; omega)), if_pos (show evalI x.cond c.vars = 1 by first | omega | assumption | contradiction | (exact List.length_pos_iff.2 (by assumption)) | (exact List.length_eq_zero_iff.2 (by assumption)) | (simp_all; done) | (simp_all; omega)), if_neg (by omega)]; simp [go_sem, Tryz.results79]; done) | (exfalso; have hks := hP.many ha; rw [h3] at hks; have h9 := hks.1; simp [kidLo] at h9; have hne : (kids p (a : Int)) ≠ [] := (by intro e; rw [e] at h9; simp at h9); have h8 := last_at hne; have h7 := hno _ _ (by omega) h8; exact h7 ((hP.last h3 (List.mem_of_getElem? h8)).2 rfl)))
       ·intro hc; try simp [-List.length_eq_zero_iff] at hc
        all_goals try (exfalso; omega; done)
        all_goals (
         refine AW.skipN (fun _ h => h) ?_
         refine rgK ?_
         intro k hk; simp -dsimp [go_sem, -decide_eq_true_eq, -decide_eq_false_iff_not, hx, hu, hx3, hu3]
         repeat' first | apply And.intro | refine hk _ ?_ | intro hg | omega | exact True.intro
         all_goals clear hk k
         show ∃ _, _
         have hw := wrapi hlt (by omega)
         have h1 : ¬ x.cond.length = 0 := by first | omega | assumption | contradiction | (exact List.length_pos_iff.2 (by assumption)) | (exact List.length_eq_zero_iff.2 (by assumption)) | (simp_all; done) | (simp_all; omega)
         have h2 : ¬ evalB x.cond c.vars = false := by first | omega | assumption | contradiction | (exact List.length_pos_iff.2 (by assumption)) | (exact List.length_eq_zero_iff.2 (by assumption)) | (simp_all; done) | (simp_all; omega)
         have h3 : ¬ evalI x.cond c.vars = 1 := by first | omega | assumption | contradiction | (exact List.length_pos_iff.2 (by assumption)) | (exact List.length_eq_zero_iff.2 (by assumption)) | (simp_all; done) | (simp_all; omega)
         rw [if_neg h1, if_neg h2, if_neg h3] at hst
         refine ⟨i + 1, ⟨by omega, by rw [hinv, hst], fun j u hj huj => ?_⟩, by omega, Less.of rfl (by simp [go_sem, hw]) (by simp [go_sem])⟩
         rcases Nat.lt_or_ge j i with h8 | h8
         ·exact hno j u h8 huj
         ·(obtain rfl : j = i := (by omega)); (rw [hu] at huj); (obtain rfl := Option.some.inj huj); (rw [Int.toNat_natCast, hxn]; exact h1)))))
 ·intro hc; try simp [-List.length_eq_zero_iff] at hc
  all_goals try (exfalso; omega; done)
  all_goals (
   refine AW.exit ?_
   refine And.intro (.inl rfl) ?_
   refine Gh.done ?_
   first | (rw [hinv, hst, if_pos (show x.cond.length = 0 by first | omega | assumption | contradiction | (exact List.length_pos_iff.2 (by assumption)) | (exact List.length_eq_zero_iff.2 (by assumption)) | (simp_all; done) | (simp_all; omega)), if_neg (by omega)]; simp [go_sem, Tryz.results79]; done) | (rw [hinv, hst, if_neg (show ¬ x.cond.length = 0 by first | omega | assumption | contradiction | (exact List.length_pos_iff.2 (by assumption)) | (exact List.length_eq_zero_iff.2 (by assumption)) | (simp_all; done) | (simp_all; omega)), if_pos (show evalB x.cond c.vars = false by first | omega | assumption | contradiction | (exact List.length_pos_iff.2 (by assumption)) | (exact List.length_eq_zero_iff.2 (by assumption)) | (simp_all; done) | (simp_all; omega)), if_pos (by omega)]; simp [go_sem, Tryz.results79]; done) | (rw [hinv, hst, if_neg (show ¬ x.cond.length = 0 by first | omega | assumption | contradiction | (exact List.length_pos_iff.2 (by assumption)) | (exact List.length_eq_zero_iff.2 (by assumption)) | (simp_all; done) | (simp_all; omega)), if_neg (show ¬ evalB x.cond c.vars = false by first | omega | assumption | contradiction | (exact List.length_pos_iff.2 (by assumption)) | (exact List.length_eq_zero_iff.2 (by assumption)) | (simp_all; done) | (simp_all; omega)), if_pos (show evalI x.cond c.vars = 1 by first | omega | assumption | contradiction | (exact List.length_pos_iff.2 (by assumption)) | (exact List.length_eq_zero_iff.2 (by assumption)) | (simp_all; done) | (simp_all; omega)), if_neg (by omega)]; simp [go_sem, Tryz.results79]; done) | (exfalso; have hks := hP.many ha; rw [h3] at hks; have h9 := hks.1; simp [kidLo] at h9; have hne : (kids p (a : Int)) ≠ [] := (by intro e; rw [e] at h9; simp at h9); have h8 := last_at hne; have h7 := hno _ _ (by omega) h8; exact h7 ((hP.last h3 (List.mem_of_getElem? h8)).2 rfl)))
end Go.AM
namespace Go.AM
open Go.Proofs
theorem dc_impl_kids (p : List TStep) (a : Int) (hp : p.length ≤ 24) : DC Tryz.prog 52 [.isl 6 (p.map TStep.ro), .int .i64 a] (.osl 1 ((kids p a).map I1)) [] := by
 refine DC.intro tiOk Tryz.func52 rfl rfl rfl rfl rfl rfl rfl rfl [1000] ?_
 refine rgA [0,1] ?_
 refine rgA [0,1,5] ?_
 refine AW.seq ?_
 refine rgA [1,5,9,10,11] ?_
 refine AW.block ?_
 refine AW.rename (nd := ?nd_1) 8 27 ?h1_1 ?h2_1 ?h4_1 ?kk_1
 (case h1_1 => exact rfl)
 (case h2_1 => simp [go_sem])
 (case h4_1 => simp [go_sem])
 refine AW.loopI (fun i : Nat => ⟨30, [(1, .int .i64 a), (5, .sl 27 1 0 (kidU p a i).length), (9, .isl 6 (p.map TStep.ro)), (10, .int .i64 p.length), (11, .int .i64 i)], [(27, some ⟨1, (kidU p a i).map I1⟩)]⟩) (fun i => i ≤ p.length) (fun i => p.length - i) (0) (by simp) (Less.of rfl (by simp [go_sem, kidU]) (by simp [go_sem, kidU])) ?_
 rintro i hi
 refine AW.rename (nd := ?nd_2) 27 8 ?h1_2 ?h2_2 ?h4_2 ?kk_2
 (case h1_2 => exact rfl)
 (case h2_2 => simp [go_sem])
 (case h4_2 => simp [go_sem])
 refine rgA [1,5,9,10,11,12] ?_
 refine AW.seq ?_
 refine AW.cond rfl ?_ ?_
 ·intro hc; try simp at hc
  all_goals (
   have hlt : i < p.length := by assumption
   obtain ⟨x, hx⟩ := at_some hlt
   have hkl := kidU_len p a i
   refine AW.skipN (fun _ h => h) ?_
   refine AW.seq ?_
   refine AW.block ?_
   refine rg [1,5,6,7,9,10,11] ?_
   intro k hk; simp -dsimp [go_sem, -decide_eq_true_eq, -decide_eq_false_iff_not, hx]
   repeat' first | apply And.intro | refine hk _ ?_ | intro hg | omega | exact True.intro
   all_goals clear hk k
   refine AW.cut ⟨30, [(1, .int .i64 a), (5, .sl 8 1 0 (kidU p a i).length), (6, .int .i64 i), (9, .isl 6 (p.map TStep.ro)), (10, .int .i64 p.length), (11, .int .i64 i), (23, .bool (decide (0 < i ∧ x.par = a)))], [(8, some ⟨1, (kidU p a i).map I1⟩)]⟩ ?_ ?_
   ·skip
    refine rgK ?_
    intro k hk; simp +contextual -dsimp (maxSteps := 2000000) [go_sem, -decide_eq_true_eq, -decide_eq_false_iff_not, hx]
    repeat' first | apply And.intro | refine hk _ ?_ | (intro hg; try simp only [decide_eq_true_eq, decide_eq_false_iff_not] at hg) | omega | exact True.intro
    all_goals clear hk k
    all_goals (show St.Less _ _; exact Less.of rfl (by simp [go_sem] <;> first | omega | grind) (by simp [go_sem]))
   ·skip
    refine AW.cond rfl ?_ ?_
    ·intro hc; try simp at hc
     all_goals (
      have hks := kidU_yes hx (by simpa using hc)
      refine rgN [1,5,9,10,11] (fun _ h => h) ?_
      intro k hk; simp -dsimp [go_sem, -decide_eq_true_eq, -decide_eq_false_iff_not, hx]
      repeat' first | apply And.intro | refine hk _ ?_ | intro hg | omega | exact True.intro
      all_goals clear hk k
      try (have hks := kidU_not hx (by simpa using hc))
      try (refine AW.rename (nd := ?nd_3) 8 27 ?h1_3 ?h2_3 ?h4_3 ?kk_3; (case h1_3 => exact rfl); (case h2_3 => simp [go_sem]); (case h4_3 => simp [go_sem]))
      refine rgK ?_
      intro k hk; simp -dsimp [go_sem, -decide_eq_true_eq, -decide_eq_false_iff_not, hx]
      repeat' first | apply And.intro | refine hk _ ?_ | intro hg | omega | exact True.intro
      all_goals clear hk k
      show ∃ _, _
      have hw := wrapi hlt (by omega)
      refine ⟨i + 1, by omega, by omega, Less.of rfl (by simp [go_sem, hw, hks] <;> omega) (by simp [go_sem, hks])⟩)
    ·intro hc; try simp at hc
     all_goals (
      refine AW.skipN (fun _ h => h) ?_
      try (have hks := kidU_not hx (by simpa using hc))
      try (refine AW.rename (nd := ?nd_4) 8 27 ?h1_4 ?h2_4 ?h4_4 ?kk_4; (case h1_4 => exact rfl); (case h2_4 => simp [go_sem]); (case h4_4 => simp [go_sem]))
      refine rgK ?_
      intro k hk; simp -dsimp [go_sem, -decide_eq_true_eq, -decide_eq_false_iff_not, hx]
      repeat' first | apply And.intro | refine hk _ ?_ | intro hg | omega | exact True.intro
      all_goals clear hk k
      show ∃ _, _
      have hw := wrapi hlt (by omega)
      refine ⟨i + 1, by omega, by omega, Less.of rfl (by simp [go_sem, hw, hks] <;> omega) (by simp [go_sem, hks])⟩))
 ·intro hc; try simp at hc
  all_goals (
   refine AW.exitN (fun _ h => h) ?_
   refine rgA [4] ?_
   refine rt ?_
   rw [kids_end (by omega)]; simp [go_sem, Tryz.results52])
theorem dc_spec_l4Kids (p : List TStep) (a : Int) (hp : p.length ≤ 24) (h0 : (nS p 0).par ≠ a) : DC Tryz.prog 77 [.isl 6 (p.map TStep.ro), .int .i64 a] (.osl 1 ((kids p a).map I1)) [] := by
 refine DC.intro tiOk Tryz.func77 rfl rfl rfl rfl rfl rfl rfl rfl [1000] ?_
 refine rgA [0,1] ?_
 refine rgA [0,1,5] ?_
 refine AW.seq ?_
 refine rgA [0,1,5,6] ?_
 refine AW.block ?_
 refine AW.rename (nd := ?nd_1) 7 24 ?h1_1 ?h2_1 ?h4_1 ?kk_1
 (case h1_1 => exact rfl)
 (case h2_1 => simp [go_sem])
 (case h4_1 => simp [go_sem])
 refine AW.loopI (fun i : Nat => ⟨26, [(0, .isl 6 (p.map TStep.ro)), (1, .int .i64 a), (5, .sl 24 1 0 (kidU p a i).length), (6, .int .i64 i)], [(24, some ⟨1, (kidU p a i).map I1⟩)]⟩) (fun i => i ≤ p.length) (fun i => p.length - i) (0) (by simp) (Less.of rfl (by simp [go_sem, kidU]) (by simp [go_sem, kidU])) ?_
 rintro i hi
 refine AW.rename (nd := ?nd_2) 24 7 ?h1_2 ?h2_2 ?h4_2 ?kk_2
 (case h1_2 => exact rfl)
 (case h2_2 => simp [go_sem])
 (case h4_2 => simp [go_sem])
 refine AW.seq ?_
 refine rgA [0,1,5,6,11] ?_
 refine AW.cond rfl ?_ ?_
 ·intro hc; try simp at hc
  all_goals (
   have hlt : i < p.length := by assumption
   obtain ⟨x, hx⟩ := at_some hlt
   have hi0 : x.par = a → 0 < i := fun h => by rcases Nat.eq_zero_or_pos i with h1 | h1; (exfalso; subst h1; rw [nS_at hx] at h0; exact h0 h); exact h1
   have hkl := kidU_len p a i
   refine AW.skipN (fun _ h => h) ?_
   refine AW.seq ?_
   refine AW.block ?_
   refine rg [0,1,5,6,20] ?_
   intro k hk; simp -dsimp (maxSteps := 2000000) [go_sem, -decide_eq_true_eq, -decide_eq_false_iff_not, hx]
   repeat' first | apply And.intro | refine hk _ ?_ | intro hg | omega | exact True.intro
   all_goals clear hk k
   refine AW.cond rfl ?_ ?_
   ·intro hc; try simp at hc
    all_goals (
     have hxa : x.par = a := by simpa using hc
     have hks := kidU_yes hx ⟨hi0 hxa, hxa⟩
     refine rgN [0,1,5,6] (fun _ h => h) ?_
     intro k hk; simp -dsimp [go_sem, -decide_eq_true_eq, -decide_eq_false_iff_not, hx]
     repeat' first | apply And.intro | refine hk _ ?_ | intro hg | omega | exact True.intro
     all_goals clear hk k
     try (have hks := kidU_not hx (fun h => absurd h.2 (by simpa using hc)))
     try (refine AW.rename (nd := ?nd_3) 7 24 ?h1_3 ?h2_3 ?h4_3 ?kk_3; (case h1_3 => exact rfl); (case h2_3 => simp [go_sem]); (case h4_3 => simp [go_sem]))
     refine rgK ?_
     intro k hk; simp -dsimp [go_sem, -decide_eq_true_eq, -decide_eq_false_iff_not, hx]
     repeat' first | apply And.intro | refine hk _ ?_ | intro hg | omega | exact True.intro
     all_goals clear hk k
     show ∃ _, _
     have hw := wrapi hlt (by omega)
     refine ⟨i + 1, by omega, by omega, Less.of rfl (by simp [go_sem, hw, hks] <;> omega) (by simp [go_sem, hks])⟩)
   ·intro hc; try simp at hc
    all_goals (
     refine AW.skipN (fun _ h => h) ?_
     try (have hks := kidU_not hx (fun h => absurd h.2 (by simpa using hc)))
     try (refine AW.rename (nd := ?nd_4) 7 24 ?h1_4 ?h2_4 ?h4_4 ?kk_4; (case h1_4 => exact rfl); (case h2_4 => simp [go_sem]); (case h4_4 => simp [go_sem]))
     refine rgK ?_
     intro k hk; simp -dsimp [go_sem, -decide_eq_true_eq, -decide_eq_false_iff_not, hx]
     repeat' first | apply And.intro | refine hk _ ?_ | intro hg | omega | exact True.intro
     all_goals clear hk k
     show ∃ _, _
     have hw := wrapi hlt (by omega)
     refine ⟨i + 1, by omega, by omega, Less.of rfl (by simp [go_sem, hw, hks] <;> omega) (by simp [go_sem, hks])⟩))
 ·intro hc; try simp at hc
  all_goals (
   refine AW.exitN (fun _ h => h) ?_
   refine rgA [4] ?_
   refine rt ?_
   rw [kids_end (by omega)]; simp [go_sem, Tryz.results77])
end Go.AM
namespace Go.AM
open Go.Proofs
set_option maxHeartbeats 8000000 in
theorem dc_impl_board_enter (p : List TStep) (hP : ProcOk p) (f : Nat) (hE : ∀ (k : Int) (c : TChart), 0 ≤ k → k.toNat < p.length → WfC p c → mE (pars p) k.toNat ≤ f → DC Tryz.prog 54 [.op (brow p c), .int .i64 k] (.tup []) [(0, .op (brow p (goF p f true k.toNat c)))]) (hO : ∀ (k : Int) (c : TChart), 0 ≤ k → k.toNat < p.length → WfC p c → mO (pars p) k.toNat ≤ f → DC Tryz.prog 39 [.op (brow p c), .int .i64 k] (.tup []) [(0, .op (brow p (goF p f false k.toNat c)))]) (a : Nat) (ha : a < p.length) (c : TChart) (hw : WfC p c) (hm : mE (pars p) a ≤ f + 1) : DC Tryz.prog 54 [.op (brow p c), .int .i64 (a : Nat)] (.tup []) [(0, .op (brow p (goF p (f + 1) true a c)))] := by
 have hkl := kids_len p (a : Int)
 have hp := hP.len.2
 have hpl := pars_len p
 obtain ⟨x, hx⟩ := at_some ha
 have hxn := nS_at hx
 have hx3 : ∀ h, p[a]'h = x := fun h => by have h9 := hx; rw [List.getElem?_eq_getElem h] at h9; exact Option.some.inj h9
 have hac := hw.acts
 have hdc := hw.dues
 have hvc := hw.vars
 have hw1 := hw.setA (a : Int) 1
 have hkE : ∀ k ∈ (kids p (a : Int)), 0 ≤ k ∧ k.toNat < p.length ∧ mE (pars p) k.toNat ≤ f := fun k hk => by obtain ⟨m, rfl, h1, h2, h3, h4⟩ := hP.kid hk; rw [Int.toNat_natCast]; omega
 have hmo : mO (pars p) a ≤ f := by have := mE_over hP.pre (a := a) (by omega) (by omega); omega
 have hnow := inR_iff.1 hw.now
 have hmany := hP.many ha
 have harg := fun h => hP.arg ha h
 rw [hxn] at hmany harg
 refine DC.introG tiOk Tryz.func54 rfl rfl rfl rfl rfl rfl rfl (by simp [noW, noWo]) [] ?_
 refine AW.seq ?_
 refine rg [0,1,15] ?_
 intro k hk; simp -dsimp [go_sem, -decide_eq_true_eq, -decide_eq_false_iff_not, -List.map_set, set_I1, set_I1b, hac, hdc, hx, hx3]
 repeat' first | apply And.intro | refine hk _ ?_ | intro hg | omega | exact True.intro
 all_goals clear hk k
 refine AW.cond rfl ?_ ?_
 ·intro hc; try simp [-List.length_eq_zero_iff] at hc
  all_goals try (exfalso; first | omega | contradiction; done)
  all_goals (
   refine AW.ret ⟨.inr rfl, ?_⟩
   try (refine Gh.fold 1900 0 5 7002 rfl rfl rfl rfl (by simp [hdc]) (by decide) (by simp [go_sem]) ?_)
   refine Gh.done ?_
   first | (rw [go_off (by simpa using hc)]; simp [go_sem, Tryz.results54]; done) | (have h9 := go_seq (p := p) (f := f) (a := a) hs (by rw [hxn]; exact hq1); rw [h9]; simp [go_sem, Tryz.results54]; done) | (have h9 := go_and (p := p) (f := f) (a := a) hs (by rw [hxn]; exact hq4); rw [← goN_end (i := i) (by omega)] at h9; rw [h9]; simp [go_sem, Tryz.results54]; done) | (have h9 := go_xor (p := p) (f := f) (a := a) hs (by rw [hxn]; exact hq3); rw [h9]; (rcases Int.lt_or_le (chF p c.vars (kids p (a : Int))) 0 with h7 | h7 <;> (first | (simp [go_sem, Tryz.results54, setA_vars, h7]; done) | (have h6 := Int.not_lt.2 h7; simp [go_sem, Tryz.results54, setA_vars, h6]; done)))) | (have h9 := go_guard (p := p) (f := f) (a := a) hs (by rw [hxn]; exact hq8); rw [hxn] at h9; rw [h9]; simp [go_sem, Tryz.results54]; done) | (have h9 := go_timer (p := p) (f := f) (a := a) hs (by rw [hxn]; exact hq6); rw [hxn] at h9; rw [h9]; simp [go_sem, Tryz.results54, setA, setD, -List.map_set, set_I1, set_I1b]; done) | (have h9 := go_set (p := p) (f := f) (a := a) hs (by rw [hxn]; exact hq7); rw [hxn, if_pos (show evalB x.expr c.vars = false by simpa using hc)] at h9; rw [h9]; simp [go_sem, Tryz.results54]; done) | (have h9 := go_set (p := p) (f := f) (a := a) hs (by rw [hxn]; exact hq7); rw [hxn, if_neg (show ¬ evalB x.expr c.vars = false by rw [hb]; decide)] at h9; rw [h9]; simp [go_sem, Tryz.results54]; done) | (rw [go_rest hs (by rw [hxn]; exact n1) (by rw [hxn]; exact n4) (by rw [hxn]; exact n3) (by rw [hxn]; exact n8) (by rw [hxn]; exact n6) (by rw [hxn]; simpa using hc)]; simp [go_sem, Tryz.results54, setA, -List.map_set, set_I1, set_I1b]))
 ·intro hc; try simp [-List.length_eq_zero_iff] at hc
  all_goals try (exfalso; first | omega | contradiction; done)
  all_goals (
   refine AW.skipN (fun _ h => h) ?_
   have hs : c.status = 1 := by simpa using hc
   refine rg [0,1,4,5] ?_
   intro k hk; simp -dsimp (maxSteps := 2000000) [go_sem, -decide_eq_true_eq, -decide_eq_false_iff_not, -List.map_set, set_I1, set_I1b, hac, hdc, hx, hx3]
   repeat' first | (refine Chk.keys ?_; simp only [go_sem, List.map_cons, List.map_nil, List.flatMap_cons, List.flatMap_nil, List.flatMap_append, List.append_nil, List.nil_append, List.cons_append]; decide +kernel) | apply And.intro | refine hk _ ?_ | intro hg | (refine CallK.intro (dc_impl_kids p (a : Int) hp) ?_; simp -dsimp (maxSteps := 2000000) [go_sem, -decide_eq_true_eq, -decide_eq_false_iff_not, -List.map_set, set_I1, set_I1b, hac, hdc, hx, hx3]) | omega | exact True.intro
   all_goals clear hk k
   refine AW.thaw (nd := ?nd_1) (c := ?c_1) (l := ?l_1) (es := ?es_1) 1900 0 4 7001 ?h1_1 ?h2_1 ?h3_1 ?h45_1 ?kk_1
   (case h1_1 => exact rfl)
   (case h2_1 => exact rfl)
   (case h3_1 => exact rfl)
   (case h45_1 => simp [go_sem])
   refine rg [0,1,4,5] ?_
   intro k hk; simp -dsimp (maxSteps := 2000000) [go_sem, -decide_eq_true_eq, -decide_eq_false_iff_not, -List.map_set, set_I1, set_I1b, hac, hdc, hx, hx3]
   repeat' first | apply And.intro | refine hk _ ?_ | intro hg | omega | exact True.intro
   all_goals clear hk k
   refine AW.fold (nd := ?nd_2) (c := ?c_2) (l := ?l_2) (es := ?es_2) (n := ?n_2) 1900 0 4 7001 ?h1_2 ?h2_2 ?h4_2 ?h3_2 ?hn_2 (by decide) ?h6_2 ?kk_2
   (case h1_2 => exact rfl)
   (case h2_2 => exact rfl)
   (case h4_2 => exact rfl)
   (case h3_2 => exact rfl)
   (case hn_2 => simp [hac, hdc, hvc])
   (case h6_2 => simp [go_sem, hac, hdc, hvc])
   refine rg [0,1,4,5,37] ?_
   intro k hk; simp -dsimp [go_sem, -decide_eq_true_eq, -decide_eq_false_iff_not, -List.map_set, set_I1, set_I1b, hac, hdc, hx, hx3]
   repeat' first | apply And.intro | refine hk _ ?_ | intro hg | omega | exact True.intro
   all_goals clear hk k
   refine AW.block ?_
   refine rg [0,1,4,5,37,38] ?_
   intro k hk; simp -dsimp [go_sem, -decide_eq_true_eq, -decide_eq_false_iff_not, -List.map_set, set_I1, set_I1b, hac, hdc, hx, hx3]
   repeat' first | apply And.intro | refine hk _ ?_ | intro hg | omega | exact True.intro
   all_goals clear hk k
   refine AW.cond rfl ?_ ?_
   ·intro hc; try simp [-List.length_eq_zero_iff] at hc
    all_goals try (exfalso; first | omega | contradiction; done)
    all_goals (
     have hq1 : x.kind = 1 := by simpa using hc
     have hkn : (kids p (a : Int)) ≠ [] := by intro e; rw [e, hq1] at hmany; simp [kidLo] at hmany
     have hhd := head_at hkn
     have hhm := List.mem_of_getElem? hhd
     have hke := hkE _ hhm
     have hhd3 : ∀ h, (kids p (a : Int))[0]'h = headI (kids p (a : Int)) := fun h => by have h9 := hhd; rw [List.getElem?_eq_getElem h] at h9; exact Option.some.inj h9
     have hkp := List.length_pos_iff.2 hkn
     refine rgE (fun _ => [0]) ?_
     intro k hk; simp -dsimp (maxSteps := 2000000) [go_sem, -decide_eq_true_eq, -decide_eq_false_iff_not, -List.map_set, set_I1, set_I1b, hac, hdc, hx, hx3, hhd, hhd3]
     repeat' first | apply And.intro | refine hk _ ?_ | intro hg | (refine CallK.intro (hE (headI (kids p (a : Int))) (setA c (a : Int) 1) hke.1 hke.2.1 hw1 hke.2.2) ?_; simp -dsimp (maxSteps := 2000000) [go_sem, -decide_eq_true_eq, -decide_eq_false_iff_not, -List.map_set, set_I1, set_I1b, hac, hdc, hx, hx3, hhd, hhd3]) | omega | exact True.intro
     all_goals clear hk k
     refine ⟨.intro, And.intro (.inl rfl) ?_⟩
     try (refine Gh.fold 1900 0 5 7002 rfl rfl rfl rfl (by simp [hdc]) (by decide) (by simp [go_sem]) ?_)
     refine Gh.done ?_
     first | (rw [go_off (by simpa using hc)]; simp [go_sem, Tryz.results54]; done) | (have h9 := go_seq (p := p) (f := f) (a := a) hs (by rw [hxn]; exact hq1); rw [h9]; simp [go_sem, Tryz.results54]; done) | (have h9 := go_and (p := p) (f := f) (a := a) hs (by rw [hxn]; exact hq4); rw [← goN_end (i := i) (by omega)] at h9; rw [h9]; simp [go_sem, Tryz.results54]; done) | (have h9 := go_xor (p := p) (f := f) (a := a) hs (by rw [hxn]; exact hq3); rw [h9]; (rcases Int.lt_or_le (chF p c.vars (kids p (a : Int))) 0 with h7 | h7 <;> (first | (simp [go_sem, Tryz.results54, setA_vars, h7]; done) | (have h6 := Int.not_lt.2 h7; simp [go_sem, Tryz.results54, setA_vars, h6]; done)))) | (have h9 := go_guard (p := p) (f := f) (a := a) hs (by rw [hxn]; exact hq8); rw [hxn] at h9; rw [h9]; simp [go_sem, Tryz.results54]; done) | (have h9 := go_timer (p := p) (f := f) (a := a) hs (by rw [hxn]; exact hq6); rw [hxn] at h9; rw [h9]; simp [go_sem, Tryz.results54, setA, setD, -List.map_set, set_I1, set_I1b]; done) | (have h9 := go_set (p := p) (f := f) (a := a) hs (by rw [hxn]; exact hq7); rw [hxn, if_pos (show evalB x.expr c.vars = false by simpa using hc)] at h9; rw [h9]; simp [go_sem, Tryz.results54]; done) | (have h9 := go_set (p := p) (f := f) (a := a) hs (by rw [hxn]; exact hq7); rw [hxn, if_neg (show ¬ evalB x.expr c.vars = false by rw [hb]; decide)] at h9; rw [h9]; simp [go_sem, Tryz.results54]; done) | (rw [go_rest hs (by rw [hxn]; exact n1) (by rw [hxn]; exact n4) (by rw [hxn]; exact n3) (by rw [hxn]; exact n8) (by rw [hxn]; exact n6) (by rw [hxn]; simpa using hc)]; simp [go_sem, Tryz.results54, setA, -List.map_set, set_I1, set_I1b]))
   ·intro hc; try simp [-List.length_eq_zero_iff] at hc
    all_goals try (exfalso; first | omega | contradiction; done)
    all_goals (
     have n1 : x.kind ≠ 1 := by simpa using hc
     refine rg [0,1,4,5,37,45] ?_
     intro k hk; simp -dsimp [go_sem, -decide_eq_true_eq, -decide_eq_false_iff_not, -List.map_set, set_I1, set_I1b, hac, hdc, hx, hx3]
     repeat' first | apply And.intro | refine hk _ ?_ | intro hg | omega | exact True.intro
     all_goals clear hk k
     refine AW.cond rfl ?_ ?_
     ·intro hc; try simp [-List.length_eq_zero_iff] at hc
      all_goals try (exfalso; first | omega | contradiction; done)
      all_goals (
       have hq4 : x.kind = 4 := by simpa using hc
       refine rg [0,47,48,49] ?_
       intro k hk; simp -dsimp [go_sem, -decide_eq_true_eq, -decide_eq_false_iff_not, -List.map_set, set_I1, set_I1b, hac, hdc, hx, hx3]
       repeat' first | apply And.intro | refine hk _ ?_ | intro hg | omega | exact True.intro
       all_goals clear hk k
       refine AW.block ?_
       refine AW.loopI (fun i : Nat => ⟨130, [(0, .ptr 1900 6 0 0), (47, .sl 1028 1 0 (kids p (a : Int)).length), (48, .int .i64 (kids p (a : Int)).length), (49, .int .i64 (i : Nat))], [(1028, some ⟨1, (kids p (a : Int)).map I1⟩), (1900, some ⟨6, [brow p (goN p f (kids p (a : Int)) (setA c (a : Int) 1) i)]⟩)]⟩) (fun i => i ≤ (kids p (a : Int)).length) (fun i => (kids p (a : Int)).length - i) (0) (Nat.zero_le _) (Less.of rfl (by simp [go_sem]) (by simp [go_sem, goN_zero, setA])) ?_
       rintro i hi
       refine rg [0,47,48,49,50] ?_
       intro k hk; simp -dsimp [go_sem, -decide_eq_true_eq, -decide_eq_false_iff_not, -List.map_set, set_I1, set_I1b, hac, hdc, hx, hx3]
       repeat' first | apply And.intro | refine hk _ ?_ | intro hg | omega | exact True.intro
       all_goals clear hk k
       refine AW.seq ?_
       refine AW.cond rfl ?_ ?_
       ·intro hc; try simp [-List.length_eq_zero_iff] at hc
        all_goals try (exfalso; first | omega | contradiction; done)
        all_goals (
         have hlt : i < (kids p (a : Int)).length := by first | assumption | omega
         obtain ⟨u, hu⟩ := at_some hlt
         have hku := hkE u (List.mem_of_getElem? hu)
         have hst := goN_step (p := p) (f := f) (c := (setA c (a : Int) 1)) hu
         have hwN := goN_wf (f := f) hP (l := (kids p (a : Int))) (i := i) hw1
         have hu3 : ∀ h, (kids p (a : Int))[i]'h = u := fun h => by have h9 := hu; rw [List.getElem?_eq_getElem h] at h9; exact Option.some.inj h9
         refine AW.skipN (fun _ h => h) ?_
         refine AW.seq ?_
         refine AW.block ?_
         refine rg [0,7,47,48,49] ?_
         intro k hk; simp -dsimp [go_sem, -decide_eq_true_eq, -decide_eq_false_iff_not, -List.map_set, set_I1, set_I1b, hac, hdc, hx, hx3, hu, hu3]
         repeat' first | apply And.intro | refine hk _ ?_ | intro hg | omega | exact True.intro
         all_goals clear hk k
         refine AW.regN tiOk (fun _ => [0]) [0,47,48,49] (fun _ h => h) ?_
         intro k hk; simp -dsimp (maxSteps := 2000000) [go_sem, -decide_eq_true_eq, -decide_eq_false_iff_not, -List.map_set, set_I1, set_I1b, hac, hdc, hx, hx3, hu, hu3]
         repeat' first | apply And.intro | refine hk _ ?_ | intro hg | (refine CallK.intro (hE u (goN p f (kids p (a : Int)) (setA c (a : Int) 1) i) hku.1 hku.2.1 hwN hku.2.2) ?_; simp -dsimp (maxSteps := 2000000) [go_sem, -decide_eq_true_eq, -decide_eq_false_iff_not, -List.map_set, set_I1, set_I1b, hac, hdc, hx, hx3, hu, hu3]) | omega | exact True.intro
         all_goals clear hk k
         refine rgK ?_
         intro k hk; simp -dsimp [go_sem, -decide_eq_true_eq, -decide_eq_false_iff_not, -List.map_set, set_I1, set_I1b, hac, hdc, hx, hx3, hu, hu3]
         repeat' first | apply And.intro | refine hk _ ?_ | intro hg | omega | exact True.intro
         all_goals clear hk k
         show ∃ _, _
         have hww := wrapi hlt (by omega)
         refine ⟨i + 1, by omega, by omega, Less.of rfl (by simp [go_sem, hww]) (by rw [hst]; simp [go_sem])⟩)
       ·intro hc; try simp [-List.length_eq_zero_iff] at hc
        all_goals try (exfalso; first | omega | contradiction; done)
        all_goals (
         refine AW.exit ?_
         refine And.intro (.inl rfl) ?_
         try (refine Gh.fold 1900 0 5 7002 rfl rfl rfl rfl (by simp [hdc]) (by decide) (by simp [go_sem]) ?_)
         refine Gh.done ?_
         first | (rw [go_off (by simpa using hc)]; simp [go_sem, Tryz.results54]; done) | (have h9 := go_seq (p := p) (f := f) (a := a) hs (by rw [hxn]; exact hq1); rw [h9]; simp [go_sem, Tryz.results54]; done) | (have h9 := go_and (p := p) (f := f) (a := a) hs (by rw [hxn]; exact hq4); rw [← goN_end (i := i) (by omega)] at h9; rw [h9]; simp [go_sem, Tryz.results54]; done) | (have h9 := go_xor (p := p) (f := f) (a := a) hs (by rw [hxn]; exact hq3); rw [h9]; (rcases Int.lt_or_le (chF p c.vars (kids p (a : Int))) 0 with h7 | h7 <;> (first | (simp [go_sem, Tryz.results54, setA_vars, h7]; done) | (have h6 := Int.not_lt.2 h7; simp [go_sem, Tryz.results54, setA_vars, h6]; done)))) | (have h9 := go_guard (p := p) (f := f) (a := a) hs (by rw [hxn]; exact hq8); rw [hxn] at h9; rw [h9]; simp [go_sem, Tryz.results54]; done) | (have h9 := go_timer (p := p) (f := f) (a := a) hs (by rw [hxn]; exact hq6); rw [hxn] at h9; rw [h9]; simp [go_sem, Tryz.results54, setA, setD, -List.map_set, set_I1, set_I1b]; done) | (have h9 := go_set (p := p) (f := f) (a := a) hs (by rw [hxn]; exact hq7); rw [hxn, if_pos (show evalB x.expr c.vars = false by simpa using hc)] at h9; rw [h9]; simp [go_sem, Tryz.results54]; done) | (have h9 := go_set (p := p) (f := f) (a := a) hs (by rw [hxn]; exact hq7); rw [hxn, if_neg (show ¬ evalB x.expr c.vars = false by rw [hb]; decide)] at h9; rw [h9]; simp [go_sem, Tryz.results54]; done) | (rw [go_rest hs (by rw [hxn]; exact n1) (by rw [hxn]; exact n4) (by rw [hxn]; exact n3) (by rw [hxn]; exact n8) (by rw [hxn]; exact n6) (by rw [hxn]; simpa using hc)]; simp [go_sem, Tryz.results54, setA, -List.map_set, set_I1, set_I1b])))
     ·intro hc; try simp [-List.length_eq_zero_iff] at hc
      all_goals try (exfalso; first | omega | contradiction; done)
      all_goals (
       have n4 : x.kind ≠ 4 := by simpa using hc
       refine rg [0,1,4,5,37,57] ?_
       intro k hk; simp -dsimp [go_sem, -decide_eq_true_eq, -decide_eq_false_iff_not, -List.map_set, set_I1, set_I1b, hac, hdc, hx, hx3]
       repeat' first | apply And.intro | refine hk _ ?_ | intro hg | omega | exact True.intro
       all_goals clear hk k
       refine AW.cond rfl ?_ ?_
       ·intro hc; try simp [-List.length_eq_zero_iff] at hc
        all_goals try (exfalso; first | omega | contradiction; done)
        all_goals (
         have hq3 : x.kind = 3 := by simpa using hc
         refine rgE (fun _ => [0, 1]) ?_
         intro k hk; simp -dsimp (maxSteps := 2000000) [go_sem, -decide_eq_true_eq, -decide_eq_false_iff_not, -List.map_set, set_I1, set_I1b, hac, hdc, hx, hx3]
         repeat' first | apply And.intro | refine hk _ ?_ | intro hg | (refine CallK.intro (dc_impl_board_choose p hP f hE a ha (by rw [hxn]; exact hq3) (setA c (a : Int) 1) hw1 hm) ?_; simp -dsimp (maxSteps := 2000000) [go_sem, -decide_eq_true_eq, -decide_eq_false_iff_not, -List.map_set, set_I1, set_I1b, hac, hdc, hx, hx3]) | omega | exact True.intro
         all_goals clear hk k
         refine ⟨.intro, And.intro (.inl rfl) ?_⟩
         try (refine Gh.fold 1900 0 5 7002 rfl rfl rfl rfl (by simp [hdc]) (by decide) (by simp [go_sem]) ?_)
         refine Gh.done ?_
         first | (rw [go_off (by simpa using hc)]; simp [go_sem, Tryz.results54]; done) | (have h9 := go_seq (p := p) (f := f) (a := a) hs (by rw [hxn]; exact hq1); rw [h9]; simp [go_sem, Tryz.results54]; done) | (have h9 := go_and (p := p) (f := f) (a := a) hs (by rw [hxn]; exact hq4); rw [← goN_end (i := i) (by omega)] at h9; rw [h9]; simp [go_sem, Tryz.results54]; done) | (have h9 := go_xor (p := p) (f := f) (a := a) hs (by rw [hxn]; exact hq3); rw [h9]; (rcases Int.lt_or_le (chF p c.vars (kids p (a : Int))) 0 with h7 | h7 <;> (first | (simp [go_sem, Tryz.results54, setA_vars, h7]; done) | (have h6 := Int.not_lt.2 h7; simp [go_sem, Tryz.results54, setA_vars, h6]; done)))) | (have h9 := go_guard (p := p) (f := f) (a := a) hs (by rw [hxn]; exact hq8); rw [hxn] at h9; rw [h9]; simp [go_sem, Tryz.results54]; done) | (have h9 := go_timer (p := p) (f := f) (a := a) hs (by rw [hxn]; exact hq6); rw [hxn] at h9; rw [h9]; simp [go_sem, Tryz.results54, setA, setD, -List.map_set, set_I1, set_I1b]; done) | (have h9 := go_set (p := p) (f := f) (a := a) hs (by rw [hxn]; exact hq7); rw [hxn, if_pos (show evalB x.expr c.vars = false by simpa using hc)] at h9; rw [h9]; simp [go_sem, Tryz.results54]; done) | (have h9 := go_set (p := p) (f := f) (a := a) hs (by rw [hxn]; exact hq7); rw [hxn, if_neg (show ¬ evalB x.expr c.vars = false by rw [hb]; decide)] at h9; rw [h9]; simp [go_sem, Tryz.results54]; done) | (rw [go_rest hs (by rw [hxn]; exact n1) (by rw [hxn]; exact n4) (by rw [hxn]; exact n3) (by rw [hxn]; exact n8) (by rw [hxn]; exact n6) (by rw [hxn]; simpa using hc)]; simp [go_sem, Tryz.results54, setA, -List.map_set, set_I1, set_I1b]))
       ·intro hc; try simp [-List.length_eq_zero_iff] at hc
        all_goals try (exfalso; first | omega | contradiction; done)
        all_goals (
         have n3 : x.kind ≠ 3 := by simpa using hc
         refine rg [0,1,4,5,37,62] ?_
         intro k hk; simp -dsimp [go_sem, -decide_eq_true_eq, -decide_eq_false_iff_not, -List.map_set, set_I1, set_I1b, hac, hdc, hx, hx3]
         repeat' first | apply And.intro | refine hk _ ?_ | intro hg | omega | exact True.intro
         all_goals clear hk k
         refine AW.cond rfl ?_ ?_
         ·intro hc; try simp [-List.length_eq_zero_iff] at hc
          all_goals try (exfalso; first | omega | contradiction; done)
          all_goals (
           have hq8 : x.kind = 8 := by simpa using hc
           have hkn : (kids p (a : Int)) ≠ [] := by intro e; rw [e, hq8] at hmany; simp [kidLo] at hmany
           have hhd := head_at hkn
           have hhm := List.mem_of_getElem? hhd
           have hke := hkE _ hhm
           have hhd3 : ∀ h, (kids p (a : Int))[0]'h = headI (kids p (a : Int)) := fun h => by have h9 := hhd; rw [List.getElem?_eq_getElem h] at h9; exact Option.some.inj h9
           have hkp := List.length_pos_iff.2 hkn
           have harg2 := harg (by omega)
           rw [hq8] at harg2
           simp [lowA, highA] at harg2
           have hwn : IntKind.wrap .i64 (c.now + x.arg) = c.now + x.arg := wrap64 (by omega) (by omega)
           refine AW.thaw (nd := ?nd_3) (c := ?c_3) (l := ?l_3) (es := ?es_3) 1900 0 5 7002 ?h1_3 ?h2_3 ?h3_3 ?h45_3 ?kk_3
           (case h1_3 => exact rfl)
           (case h2_3 => exact rfl)
           (case h3_3 => exact rfl)
           (case h45_3 => simp [go_sem])
           refine rg [0,5] ?_
           intro k hk; simp -dsimp (maxSteps := 2000000) [go_sem, -decide_eq_true_eq, -decide_eq_false_iff_not, -List.map_set, set_I1, set_I1b, hac, hdc, hx, hx3, hwn]
           repeat' first | (refine Chk.keys ?_; simp only [go_sem, List.map_cons, List.map_nil, List.flatMap_cons, List.flatMap_nil, List.flatMap_append, List.append_nil, List.nil_append, List.cons_append]; decide +kernel) | apply And.intro | refine hk _ ?_ | intro hg | omega | exact True.intro
           all_goals clear hk k
           refine AW.fold (nd := ?nd_4) (c := ?c_4) (l := ?l_4) (es := ?es_4) (n := ?n_4) 1900 0 5 7002 ?h1_4 ?h2_4 ?h4_4 ?h3_4 ?hn_4 (by decide) ?h6_4 ?kk_4
           (case h1_4 => exact rfl)
           (case h2_4 => exact rfl)
           (case h4_4 => exact rfl)
           (case h3_4 => exact rfl)
           (case hn_4 => simp [hac, hdc, hvc])
           (case h6_4 => simp [go_sem, hac, hdc, hvc])
           refine rgE (fun _ => [0]) ?_
           intro k hk; simp -dsimp (maxSteps := 2000000) [go_sem, -decide_eq_true_eq, -decide_eq_false_iff_not, -List.map_set, set_I1, set_I1b, hac, hdc, hx, hx3, hhd, hhd3]
           repeat' first | apply And.intro | refine hk _ ?_ | intro hg | (refine CallK.intro (hE (headI (kids p (a : Int))) (setD (setA c (a : Int) 1) (a : Int) (c.now + x.arg)) hke.1 hke.2.1 (hw1.setD _ _) hke.2.2) ?_; simp -dsimp (maxSteps := 2000000) [go_sem, -decide_eq_true_eq, -decide_eq_false_iff_not, -List.map_set, set_I1, set_I1b, hac, hdc, hx, hx3, hhd, hhd3]) | omega | exact True.intro
           all_goals clear hk k
           refine ⟨.intro, And.intro (.inl rfl) ?_⟩
           try (refine Gh.fold 1900 0 5 7002 rfl rfl rfl rfl (by simp [hdc]) (by decide) (by simp [go_sem]) ?_)
           refine Gh.done ?_
           first | (rw [go_off (by simpa using hc)]; simp [go_sem, Tryz.results54]; done) | (have h9 := go_seq (p := p) (f := f) (a := a) hs (by rw [hxn]; exact hq1); rw [h9]; simp [go_sem, Tryz.results54]; done) | (have h9 := go_and (p := p) (f := f) (a := a) hs (by rw [hxn]; exact hq4); rw [← goN_end (i := i) (by omega)] at h9; rw [h9]; simp [go_sem, Tryz.results54]; done) | (have h9 := go_xor (p := p) (f := f) (a := a) hs (by rw [hxn]; exact hq3); rw [h9]; (rcases Int.lt_or_le (chF p c.vars (kids p (a : Int))) 0 with h7 | h7 <;> (first | (simp [go_sem, Tryz.results54, setA_vars, h7]; done) | (have h6 := Int.not_lt.2 h7; simp [go_sem, Tryz.results54, setA_vars, h6]; done)))) | (have h9 := go_guard (p := p) (f := f) (a := a) hs (by rw [hxn]; exact hq8); rw [hxn] at h9; rw [h9]; simp [go_sem, Tryz.results54]; done) | (have h9 := go_timer (p := p) (f := f) (a := a) hs (by rw [hxn]; exact hq6); rw [hxn] at h9; rw [h9]; simp [go_sem, Tryz.results54, setA, setD, -List.map_set, set_I1, set_I1b]; done) | (have h9 := go_set (p := p) (f := f) (a := a) hs (by rw [hxn]; exact hq7); rw [hxn, if_pos (show evalB x.expr c.vars = false by simpa using hc)] at h9; rw [h9]; simp [go_sem, Tryz.results54]; done) | (have h9 := go_set (p := p) (f := f) (a := a) hs (by rw [hxn]; exact hq7); rw [hxn, if_neg (show ¬ evalB x.expr c.vars = false by rw [hb]; decide)] at h9; rw [h9]; simp [go_sem, Tryz.results54]; done) | (rw [go_rest hs (by rw [hxn]; exact n1) (by rw [hxn]; exact n4) (by rw [hxn]; exact n3) (by rw [hxn]; exact n8) (by rw [hxn]; exact n6) (by rw [hxn]; simpa using hc)]; simp [go_sem, Tryz.results54, setA, -List.map_set, set_I1, set_I1b]))
         ·intro hc; try simp [-List.length_eq_zero_iff] at hc
          all_goals try (exfalso; first | omega | contradiction; done)
          all_goals (
           have n8 : x.kind ≠ 8 := by simpa using hc
           refine rg [0,1,4,37,84] ?_
           intro k hk; simp -dsimp [go_sem, -decide_eq_true_eq, -decide_eq_false_iff_not, -List.map_set, set_I1, set_I1b, hac, hdc, hx, hx3]
           repeat' first | apply And.intro | refine hk _ ?_ | intro hg | omega | exact True.intro
           all_goals clear hk k
           refine AW.cond rfl ?_ ?_
           ·intro hc; try simp [-List.length_eq_zero_iff] at hc
            all_goals try (exfalso; first | omega | contradiction; done)
            all_goals (
             have hq6 : x.kind = 6 := by simpa using hc
             have harg2 := harg (by omega)
             rw [hq6] at harg2
             simp [lowA, highA] at harg2
             have hwn : IntKind.wrap .i64 (c.now + x.arg) = c.now + x.arg := wrap64 (by omega) (by omega)
             refine AW.thaw (nd := ?nd_5) (c := ?c_5) (l := ?l_5) (es := ?es_5) 1900 0 5 7002 ?h1_5 ?h2_5 ?h3_5 ?h45_5 ?kk_5
             (case h1_5 => exact rfl)
             (case h2_5 => exact rfl)
             (case h3_5 => exact rfl)
             (case h45_5 => simp [go_sem])
             refine rgE (fun _ => []) ?_
             intro k hk; simp -dsimp (maxSteps := 2000000) [go_sem, -decide_eq_true_eq, -decide_eq_false_iff_not, -List.map_set, set_I1, set_I1b, hac, hdc, hx, hx3, hwn]
             repeat' first | (refine Chk.keys ?_; simp only [go_sem, List.map_cons, List.map_nil, List.flatMap_cons, List.flatMap_nil, List.flatMap_append, List.append_nil, List.nil_append, List.cons_append]; decide +kernel) | apply And.intro | refine hk _ ?_ | intro hg | omega | exact True.intro
             all_goals clear hk k
             refine ⟨.intro, And.intro (.inl rfl) ?_⟩
             try (refine Gh.fold 1900 0 5 7002 rfl rfl rfl rfl (by simp [hdc]) (by decide) (by simp [go_sem]) ?_)
             refine Gh.done ?_
             first | (rw [go_off (by simpa using hc)]; simp [go_sem, Tryz.results54]; done) | (have h9 := go_seq (p := p) (f := f) (a := a) hs (by rw [hxn]; exact hq1); rw [h9]; simp [go_sem, Tryz.results54]; done) | (have h9 := go_and (p := p) (f := f) (a := a) hs (by rw [hxn]; exact hq4); rw [← goN_end (i := i) (by omega)] at h9; rw [h9]; simp [go_sem, Tryz.results54]; done) | (have h9 := go_xor (p := p) (f := f) (a := a) hs (by rw [hxn]; exact hq3); rw [h9]; (rcases Int.lt_or_le (chF p c.vars (kids p (a : Int))) 0 with h7 | h7 <;> (first | (simp [go_sem, Tryz.results54, setA_vars, h7]; done) | (have h6 := Int.not_lt.2 h7; simp [go_sem, Tryz.results54, setA_vars, h6]; done)))) | (have h9 := go_guard (p := p) (f := f) (a := a) hs (by rw [hxn]; exact hq8); rw [hxn] at h9; rw [h9]; simp [go_sem, Tryz.results54]; done) | (have h9 := go_timer (p := p) (f := f) (a := a) hs (by rw [hxn]; exact hq6); rw [hxn] at h9; rw [h9]; simp [go_sem, Tryz.results54, setA, setD, -List.map_set, set_I1, set_I1b]; done) | (have h9 := go_set (p := p) (f := f) (a := a) hs (by rw [hxn]; exact hq7); rw [hxn, if_pos (show evalB x.expr c.vars = false by simpa using hc)] at h9; rw [h9]; simp [go_sem, Tryz.results54]; done) | (have h9 := go_set (p := p) (f := f) (a := a) hs (by rw [hxn]; exact hq7); rw [hxn, if_neg (show ¬ evalB x.expr c.vars = false by rw [hb]; decide)] at h9; rw [h9]; simp [go_sem, Tryz.results54]; done) | (rw [go_rest hs (by rw [hxn]; exact n1) (by rw [hxn]; exact n4) (by rw [hxn]; exact n3) (by rw [hxn]; exact n8) (by rw [hxn]; exact n6) (by rw [hxn]; simpa using hc)]; simp [go_sem, Tryz.results54, setA, -List.map_set, set_I1, set_I1b]))
           ·intro hc; try simp [-List.length_eq_zero_iff] at hc
            all_goals try (exfalso; first | omega | contradiction; done)
            all_goals (
             have n6 : x.kind ≠ 6 := by simpa using hc
             refine rg [0,1,4,101] ?_
             intro k hk; simp -dsimp [go_sem, -decide_eq_true_eq, -decide_eq_false_iff_not, -List.map_set, set_I1, set_I1b, hac, hdc, hx, hx3]
             repeat' first | apply And.intro | refine hk _ ?_ | intro hg | omega | exact True.intro
             all_goals clear hk k
             refine AW.cond rfl ?_ ?_
             ·intro hc; try simp [-List.length_eq_zero_iff] at hc
              all_goals try (exfalso; first | omega | contradiction; done)
              all_goals (
               have hq7 : x.kind = 7 := by simpa using hc
               have hg := hP.expr ha (by rw [hxn]; exact hq7)
               rw [hxn] at hg
               refine AW.thaw (nd := ?nd_6) (c := ?c_6) (l := ?l_6) (es := ?es_6) 1900 0 3 7003 ?h1_6 ?h2_6 ?h3_6 ?h45_6 ?kk_6
               (case h1_6 => exact rfl)
               (case h2_6 => exact rfl)
               (case h3_6 => exact rfl)
               (case h45_6 => simp [go_sem])
               refine rg [0,1,4,8,9] ?_
               intro k hk; simp -dsimp (maxSteps := 2000000) [go_sem, -decide_eq_true_eq, -decide_eq_false_iff_not, -List.map_set, set_I1, set_I1b, hac, hdc, hx, hx3]
               repeat' first | (refine Chk.keys ?_; simp only [go_sem, List.map_cons, List.map_nil, List.flatMap_cons, List.flatMap_nil, List.flatMap_append, List.append_nil, List.nil_append, List.cons_append]; decide +kernel) | apply And.intro | refine hk _ ?_ | intro hg | (refine CallK.intro (dc_impl_eval x.expr c.vars hg.len hg.parts hg.ty hw.vars hw.small) ?_; simp -dsimp (maxSteps := 2000000) [go_sem, -decide_eq_true_eq, -decide_eq_false_iff_not, -List.map_set, set_I1, set_I1b, hac, hdc, hx, hx3]) | omega | exact True.intro
               all_goals clear hk k
               refine AW.seq ?_
               refine rg [0,1,4,8,115] ?_
               intro k hk; simp -dsimp [go_sem, -decide_eq_true_eq, -decide_eq_false_iff_not, -List.map_set, set_I1, set_I1b, hac, hdc, hx, hx3]
               repeat' first | apply And.intro | refine hk _ ?_ | intro hg | omega | exact True.intro
               all_goals clear hk k
               refine AW.cond rfl ?_ ?_
               ·intro hc; try simp [-List.length_eq_zero_iff] at hc
                all_goals try (exfalso; first | omega | contradiction; done)
                all_goals (
                 refine AW.fold (nd := ?nd_7) (c := ?c_7) (l := ?l_7) (es := ?es_7) (n := ?n_7) 1900 0 3 7003 ?h1_7 ?h2_7 ?h4_7 ?h3_7 ?hn_7 (by decide) ?h6_7 ?kk_7
                 (case h1_7 => exact rfl)
                 (case h2_7 => exact rfl)
                 (case h4_7 => exact rfl)
                 (case h3_7 => exact rfl)
                 (case hn_7 => simp [hac, hdc, hvc])
                 (case h6_7 => simp [go_sem, hac, hdc, hvc])
                 refine AW.reg tiOk (fun _ => [0]) [0] ?_
                 intro k hk; simp -dsimp (maxSteps := 2000000) [go_sem, -decide_eq_true_eq, -decide_eq_false_iff_not, -List.map_set, set_I1, set_I1b, hac, hdc, hx, hx3]
                 repeat' first | apply And.intro | refine hk _ ?_ | intro hg | (refine CallK.intro (dc_impl_board_stop p hp (setA c (a : Int) 1) 3) ?_; simp -dsimp (maxSteps := 2000000) [go_sem, -decide_eq_true_eq, -decide_eq_false_iff_not, -List.map_set, set_I1, set_I1b, hac, hdc, hx, hx3]) | omega | exact True.intro
                 all_goals clear hk k
                 refine AW.ret ⟨.inr rfl, ?_⟩
                 try (refine Gh.fold 1900 0 5 7002 rfl rfl rfl rfl (by simp [hdc]) (by decide) (by simp [go_sem]) ?_)
                 refine Gh.done ?_
                 first | (rw [go_off (by simpa using hc)]; simp [go_sem, Tryz.results54]; done) | (have h9 := go_seq (p := p) (f := f) (a := a) hs (by rw [hxn]; exact hq1); rw [h9]; simp [go_sem, Tryz.results54]; done) | (have h9 := go_and (p := p) (f := f) (a := a) hs (by rw [hxn]; exact hq4); rw [← goN_end (i := i) (by omega)] at h9; rw [h9]; simp [go_sem, Tryz.results54]; done) | (have h9 := go_xor (p := p) (f := f) (a := a) hs (by rw [hxn]; exact hq3); rw [h9]; (rcases Int.lt_or_le (chF p c.vars (kids p (a : Int))) 0 with h7 | h7 <;> (first | (simp [go_sem, Tryz.results54, setA_vars, h7]; done) | (have h6 := Int.not_lt.2 h7; simp [go_sem, Tryz.results54, setA_vars, h6]; done)))) | (have h9 := go_guard (p := p) (f := f) (a := a) hs (by rw [hxn]; exact hq8); rw [hxn] at h9; rw [h9]; simp [go_sem, Tryz.results54]; done) | (have h9 := go_timer (p := p) (f := f) (a := a) hs (by rw [hxn]; exact hq6); rw [hxn] at h9; rw [h9]; simp [go_sem, Tryz.results54, setA, setD, -List.map_set, set_I1, set_I1b]; done) | (have h9 := go_set (p := p) (f := f) (a := a) hs (by rw [hxn]; exact hq7); rw [hxn, if_pos (show evalB x.expr c.vars = false by simpa using hc)] at h9; rw [h9]; simp [go_sem, Tryz.results54]; done) | (have h9 := go_set (p := p) (f := f) (a := a) hs (by rw [hxn]; exact hq7); rw [hxn, if_neg (show ¬ evalB x.expr c.vars = false by rw [hb]; decide)] at h9; rw [h9]; simp [go_sem, Tryz.results54]; done) | (rw [go_rest hs (by rw [hxn]; exact n1) (by rw [hxn]; exact n4) (by rw [hxn]; exact n3) (by rw [hxn]; exact n8) (by rw [hxn]; exact n6) (by rw [hxn]; simpa using hc)]; simp [go_sem, Tryz.results54, setA, -List.map_set, set_I1, set_I1b]))
               ·intro hc; try simp [-List.length_eq_zero_iff] at hc
                all_goals try (exfalso; first | omega | contradiction; done)
                all_goals (
                 refine AW.skipN (fun _ h => h) ?_
                 have hb : evalB x.expr c.vars = true := by simpa using hc
                 have harg2 := harg (by omega)
                 rw [hq7] at harg2
                 simp [lowA, highA] at harg2
                 refine rg [0,1] ?_
                 intro k hk; simp -dsimp (maxSteps := 2000000) [go_sem, -decide_eq_true_eq, -decide_eq_false_iff_not, -List.map_set, set_I1, set_I1b, hac, hdc, hx, hx3, hb, hvc]
                 repeat' first | (refine Chk.keys ?_; simp only [go_sem, List.map_cons, List.map_nil, List.flatMap_cons, List.flatMap_nil, List.flatMap_append, List.append_nil, List.nil_append, List.cons_append]; decide +kernel) | apply And.intro | refine hk _ ?_ | intro hg | omega | exact True.intro
                 all_goals clear hk k
                 refine AW.fold (nd := ?nd_8) (c := ?c_8) (l := ?l_8) (es := ?es_8) (n := ?n_8) 1900 0 3 7003 ?h1_8 ?h2_8 ?h4_8 ?h3_8 ?hn_8 (by decide) ?h6_8 ?kk_8
                 (case h1_8 => exact rfl)
                 (case h2_8 => exact rfl)
                 (case h4_8 => exact rfl)
                 (case h3_8 => exact rfl)
                 (case hn_8 => simp [hac, hdc, hvc])
                 (case h6_8 => simp [go_sem, hac, hdc, hvc])
                 refine rgE (fun _ => [0]) ?_
                 intro k hk; simp -dsimp (maxSteps := 2000000) [go_sem, -decide_eq_true_eq, -decide_eq_false_iff_not, -List.map_set, set_I1, set_I1b, hac, hdc, hx, hx3]
                 repeat' first | apply And.intro | refine hk _ ?_ | intro hg | (refine CallK.intro (hO (a : Int) (setV (setA c (a : Int) 1) x.arg (evalI x.expr c.vars)) (by omega) (by omega) (hw1.setV _ _ (evalI_small (by have := hg.len; omega) hb)) (by rw [Int.toNat_natCast]; exact hmo)) ?_; simp -dsimp (maxSteps := 2000000) [go_sem, -decide_eq_true_eq, -decide_eq_false_iff_not, -List.map_set, set_I1, set_I1b, hac, hdc, hx, hx3]) | omega | exact True.intro
                 all_goals clear hk k
                 refine ⟨.intro, And.intro (.inl rfl) ?_⟩
                 try (refine Gh.fold 1900 0 5 7002 rfl rfl rfl rfl (by simp [hdc]) (by decide) (by simp [go_sem]) ?_)
                 refine Gh.done ?_
                 first | (rw [go_off (by simpa using hc)]; simp [go_sem, Tryz.results54]; done) | (have h9 := go_seq (p := p) (f := f) (a := a) hs (by rw [hxn]; exact hq1); rw [h9]; simp [go_sem, Tryz.results54]; done) | (have h9 := go_and (p := p) (f := f) (a := a) hs (by rw [hxn]; exact hq4); rw [← goN_end (i := i) (by omega)] at h9; rw [h9]; simp [go_sem, Tryz.results54]; done) | (have h9 := go_xor (p := p) (f := f) (a := a) hs (by rw [hxn]; exact hq3); rw [h9]; (rcases Int.lt_or_le (chF p c.vars (kids p (a : Int))) 0 with h7 | h7 <;> (first | (simp [go_sem, Tryz.results54, setA_vars, h7]; done) | (have h6 := Int.not_lt.2 h7; simp [go_sem, Tryz.results54, setA_vars, h6]; done)))) | (have h9 := go_guard (p := p) (f := f) (a := a) hs (by rw [hxn]; exact hq8); rw [hxn] at h9; rw [h9]; simp [go_sem, Tryz.results54]; done) | (have h9 := go_timer (p := p) (f := f) (a := a) hs (by rw [hxn]; exact hq6); rw [hxn] at h9; rw [h9]; simp [go_sem, Tryz.results54, setA, setD, -List.map_set, set_I1, set_I1b]; done) | (have h9 := go_set (p := p) (f := f) (a := a) hs (by rw [hxn]; exact hq7); rw [hxn, if_pos (show evalB x.expr c.vars = false by simpa using hc)] at h9; rw [h9]; simp [go_sem, Tryz.results54]; done) | (have h9 := go_set (p := p) (f := f) (a := a) hs (by rw [hxn]; exact hq7); rw [hxn, if_neg (show ¬ evalB x.expr c.vars = false by rw [hb]; decide)] at h9; rw [h9]; simp [go_sem, Tryz.results54]; done) | (rw [go_rest hs (by rw [hxn]; exact n1) (by rw [hxn]; exact n4) (by rw [hxn]; exact n3) (by rw [hxn]; exact n8) (by rw [hxn]; exact n6) (by rw [hxn]; simpa using hc)]; simp [go_sem, Tryz.results54, setA, -List.map_set, set_I1, set_I1b])))
             ·intro hc; try simp [-List.length_eq_zero_iff] at hc
              all_goals try (exfalso; first | omega | contradiction; done)
              all_goals (
               refine AW.skip ?_
               refine And.intro (.inl rfl) ?_
               try (refine Gh.fold 1900 0 5 7002 rfl rfl rfl rfl (by simp [hdc]) (by decide) (by simp [go_sem]) ?_)
               refine Gh.done ?_
               first | (rw [go_off (by simpa using hc)]; simp [go_sem, Tryz.results54]; done) | (have h9 := go_seq (p := p) (f := f) (a := a) hs (by rw [hxn]; exact hq1); rw [h9]; simp [go_sem, Tryz.results54]; done) | (have h9 := go_and (p := p) (f := f) (a := a) hs (by rw [hxn]; exact hq4); rw [← goN_end (i := i) (by omega)] at h9; rw [h9]; simp [go_sem, Tryz.results54]; done) | (have h9 := go_xor (p := p) (f := f) (a := a) hs (by rw [hxn]; exact hq3); rw [h9]; (rcases Int.lt_or_le (chF p c.vars (kids p (a : Int))) 0 with h7 | h7 <;> (first | (simp [go_sem, Tryz.results54, setA_vars, h7]; done) | (have h6 := Int.not_lt.2 h7; simp [go_sem, Tryz.results54, setA_vars, h6]; done)))) | (have h9 := go_guard (p := p) (f := f) (a := a) hs (by rw [hxn]; exact hq8); rw [hxn] at h9; rw [h9]; simp [go_sem, Tryz.results54]; done) | (have h9 := go_timer (p := p) (f := f) (a := a) hs (by rw [hxn]; exact hq6); rw [hxn] at h9; rw [h9]; simp [go_sem, Tryz.results54, setA, setD, -List.map_set, set_I1, set_I1b]; done) | (have h9 := go_set (p := p) (f := f) (a := a) hs (by rw [hxn]; exact hq7); rw [hxn, if_pos (show evalB x.expr c.vars = false by simpa using hc)] at h9; rw [h9]; simp [go_sem, Tryz.results54]; done) | (have h9 := go_set (p := p) (f := f) (a := a) hs (by rw [hxn]; exact hq7); rw [hxn, if_neg (show ¬ evalB x.expr c.vars = false by rw [hb]; decide)] at h9; rw [h9]; simp [go_sem, Tryz.results54]; done) | (rw [go_rest hs (by rw [hxn]; exact n1) (by rw [hxn]; exact n4) (by rw [hxn]; exact n3) (by rw [hxn]; exact n8) (by rw [hxn]; exact n6) (by rw [hxn]; simpa using hc)]; simp [go_sem, Tryz.results54, setA, -List.map_set, set_I1, set_I1b]))))))))
end Go.AM
namespace Go.AM
open Go.Proofs
theorem dc_IndexI (l : List Int) (j : Nat) (v : Int) (hl : l.length ≤ 1000) (hj : l[j]? = some v) (hn : ∀ k x, k < j → l[k]? = some x → x ≠ v) : DC Tryz.prog 69 [.isl 1 (l.map I1), .int .i64 v] (.int .i64 (j : Nat)) [] := by
 have hjl := at_lt hj
 refine DC.intro tiOk Tryz.func69 rfl rfl rfl rfl rfl rfl rfl rfl [] ?_
 refine rgA [0,1] ?_
 refine AW.seq ?_
 refine rgA [0,1,7,8] ?_
 refine AW.block ?_
 refine AW.loopI (fun i : Nat => ⟨19, [(0, .isl 1 (l.map I1)), (1, .int .i64 v), (7, .int .i64 l.length), (8, .int .i64 (i : Nat))], []⟩) (fun i => i ≤ j) (fun i => j + 1 - i) (0) (Nat.zero_le _) (Less.of rfl (by simp [go_sem]) (by simp [go_sem])) ?_
 rintro i hi
 refine rgA [0,1,7,8,9] ?_
 refine AW.seq ?_
 refine AW.cond rfl ?_ ?_
 ·intro hc; try simp at hc
  all_goals try (exfalso; first | omega | contradiction; done)
  all_goals (
   have hlt : i < l.length := by first | assumption | omega
   obtain ⟨x, hx⟩ := at_some hlt
   refine AW.skipN (fun _ h => h) ?_
   refine AW.seq ?_
   refine AW.block ?_
   refine rg [0,1,5,7,8] ?_
   intro k hk; simp -dsimp [go_sem, -decide_eq_true_eq, -decide_eq_false_iff_not, hx]
   repeat' first | apply And.intro | refine hk _ ?_ | intro hg | omega | exact True.intro
   all_goals clear hk k
   refine rg [0,1,5,7,8,16] ?_
   intro k hk; simp -dsimp [go_sem, -decide_eq_true_eq, -decide_eq_false_iff_not, hx]
   repeat' first | apply And.intro | refine hk _ ?_ | intro hg | omega | exact True.intro
   all_goals clear hk k
   refine AW.cond rfl ?_ ?_
   ·intro hc; try simp at hc
    all_goals try (exfalso; first | omega | contradiction; done)
    all_goals (
     refine rg [4] ?_
     intro k hk; simp -dsimp [go_sem, -decide_eq_true_eq, -decide_eq_false_iff_not, hx]
     repeat' first | apply And.intro | refine hk _ ?_ | intro hg | omega | exact True.intro
     all_goals clear hk k
     refine rt ?_
     first | (have he : i = j := (by rcases Nat.lt_or_ge i j with h | h; exact absurd (show x = v by first | omega | (simp at hc; omega)) (hn i x h hx); omega); subst he; simp [go_sem, Tryz.results69]; done) | (exfalso; omega))
   ·intro hc; try simp at hc
    all_goals try (exfalso; first | omega | contradiction; done)
    all_goals (
     refine AW.skipN (fun _ h => h) ?_
     refine rgK ?_
     intro k hk; simp -dsimp [go_sem, -decide_eq_true_eq, -decide_eq_false_iff_not, hx]
     repeat' first | apply And.intro | refine hk _ ?_ | intro hg | omega | exact True.intro
     all_goals clear hk k
     show ∃ _, _
     have hw := wrapi hlt (by omega)
     have hne : i ≠ j := by rintro rfl; rw [hx] at hj; have h9 := Option.some.inj hj; first | omega | (simp at hc; omega) | exact hc h9.symm | exact hc h9
     refine ⟨i + 1, by omega, by omega, Less.of rfl (by simp [go_sem, hw]) (by simp [go_sem])⟩))
 ·intro hc; try simp at hc
  all_goals try (exfalso; first | omega | contradiction; done)
  all_goals (
   refine AW.exitN (fun _ h => h) ?_
   refine rgA [4] ?_
   refine rt ?_
   first | (have he : i = j := (by rcases Nat.lt_or_ge i j with h | h; exact absurd (show x = v by first | omega | (simp at hc; omega)) (hn i x h hx); omega); subst he; simp [go_sem, Tryz.results69]; done) | (exfalso; omega))
end Go.AM
namespace Go.AM
open Go.Proofs
theorem dc_impl_board_over_1 (p : List TStep) (c : TChart) (k : Int) (h0 : 0 ≤ k) (hk : k.toNat < c.acts.length) : DC Tryz.prog 71 [.int .i64 k, .ip [.ip [.isl 6 (p.map TStep.ro), .int .i64 c.status, .int .i64 c.now, .isl 1 (c.vars.map I1), .isl 1 (c.acts.map I1), .isl 1 (c.dues.map I1)]]] (.bool (decide (actA c k ≠ 2))) [] := by
 have hua := actA_at hk
 refine DC.intro tiOk Tryz.func71 rfl rfl rfl rfl rfl rfl rfl rfl [] ?_
 refine rg [0,1] ?_
 intro k hk; simp -dsimp [go_sem, -decide_eq_true_eq, -decide_eq_false_iff_not, hua, h0, hk]
 repeat' first | apply And.intro | refine hk _ ?_ | intro hg | omega | exact True.intro
 all_goals clear hk k
 refine rg [3] ?_
 intro k hk; simp -dsimp (maxSteps := 2000000) [go_sem, -decide_eq_true_eq, -decide_eq_false_iff_not, hua, h0, hk]
 repeat' first | apply And.intro | refine hk _ ?_ | intro hg | omega | exact True.intro
 all_goals clear hk k
 refine rt ?_
 simp [go_sem, Tryz.results71]
end Go.AM
namespace Go.AM
open Go.Proofs
theorem dc_impl_wantsCond_z (p : List TStep) (ho : StepsOk p) : DC Tryz.prog 114 [.isl 6 (p.map TStep.ro), .int .i64 0] (.bool (wants p 0)) [] := by
 have hi : 0 < p.length := by have := ho.len; omega
 have hlen := ho.len
 obtain ⟨x, hx⟩ := at_some hi
 have hxS := nS_at hx
 have hx0 := ho.par0
 rw [hxS] at hx0
 refine DC.intro tiOk Tryz.func114 rfl rfl rfl rfl rfl rfl rfl rfl [] ?_
 refine rg [0,1] ?_
 intro k hk; simp -dsimp [go_sem, -decide_eq_true_eq, -decide_eq_false_iff_not, hx, hx0]
 repeat' first | apply And.intro | refine hk _ ?_ | intro hg | omega | exact True.intro
 all_goals clear hk k
 refine rg [0,1,5] ?_
 intro k hk; simp -dsimp [go_sem, -decide_eq_true_eq, -decide_eq_false_iff_not, hx, hx0]
 repeat' first | apply And.intro | refine hk _ ?_ | intro hg | omega | exact True.intro
 all_goals clear hk k
 refine AW.seq ?_
 refine rg [0,1,5,21] ?_
 intro k hk; simp +contextual -dsimp (maxSteps := 2000000) [go_sem, -decide_eq_true_eq, -decide_eq_false_iff_not, hx, hx0]
 repeat' first | apply And.intro | refine hk _ ?_ | (intro hg; try simp only [decide_eq_true_eq, decide_eq_false_iff_not] at hg) | omega | exact True.intro
 all_goals clear hk k
 all_goals (
  refine AW.cond rfl ?_ ?_
  ·intro hc; try simp at hc
   all_goals try (exfalso; first | omega | (simp at hc; done); done)
   all_goals (
    refine rg [4] ?_
    intro k hk; simp -dsimp [go_sem, -decide_eq_true_eq, -decide_eq_false_iff_not, hx, hx0]
    repeat' first | apply And.intro | refine hk _ ?_ | intro hg | omega | exact True.intro
    all_goals clear hk k
    refine rt ?_
    simp [go_sem, Tryz.results114, wants])
  ·intro hc; try simp at hc
   all_goals try (exfalso; first | omega | (simp at hc; done); done)
   all_goals (
    refine AW.skipN (fun _ h => h) ?_
    refine rg [1,6] ?_
    intro k hk; simp -dsimp (maxSteps := 2000000) [go_sem, -decide_eq_true_eq, -decide_eq_false_iff_not, hx, hx0]
    repeat' first | apply And.intro | refine hk _ ?_ | intro hg | (refine CallK.intro (fail) ?_; simp -dsimp (maxSteps := 2000000) [go_sem, -decide_eq_true_eq, -decide_eq_false_iff_not, hx, hx0]) | omega | exact True.intro
    all_goals clear hk k
    refine rg [4] ?_
    intro k hk; simp -dsimp (maxSteps := 2000000) [go_sem, -decide_eq_true_eq, -decide_eq_false_iff_not, hx, hx0]
    repeat' first | apply And.intro | refine hk _ ?_ | intro hg | omega | exact True.intro
    all_goals clear hk k
    refine rt ?_
    simp [go_sem, Tryz.results114, wants]))
theorem dc_impl_wantsCond_s (p : List TStep) (ho : StepsOk p) (i : Nat) (hi : i < p.length) (hi0 : 0 < i) : DC Tryz.prog 114 [.isl 6 (p.map TStep.ro), .int .i64 (i : Nat)] (.bool (wants p i)) [] := by
 have hlen := ho.len
 obtain ⟨x, hx⟩ := at_some hi
 have hxS := nS_at hx
 have hpi := ho.parI hi0 hi
 rw [hxS] at hpi
 obtain ⟨a, ha⟩ : ∃ a : Nat, x.par = a := ⟨_, (Int.toNat_of_nonneg hpi.1).symm⟩
 obtain ⟨y, hy⟩ := at_some (l := p) (show a < p.length by omega)
 have hyS := nS_at hy
 have hdi : decide ((i : Int) = 0) = false := decide_eq_false (by omega)
 have hdi2 : ((i : Int) = 0) = False := eq_false (by omega)
 have hdj : (i = 0) = False := eq_false (by omega)
 have hkn := ho.kids_ne hi0 hi
 rw [hxS, ha] at hkn
 have hkl := last_at hkn
 have hkm := kids_len p (a : Int)
 have hkp := List.length_pos_iff.2 hkn
 have hwl : IntKind.wrap .i64 (((kids p a).length : Int) - 1) = ((kids p a).length : Int) - 1 := wrap64 (by omega) (by omega)
 have hwt : (((kids p a).length : Int) - 1).toNat = (kids p a).length - 1 := by omega
 refine DC.intro tiOk Tryz.func114 rfl rfl rfl rfl rfl rfl rfl rfl [] ?_
 refine rg [0,1] ?_
 intro k hk; simp -dsimp [go_sem, -decide_eq_true_eq, -decide_eq_false_iff_not, hx, hy, ha, hdi, hdi2]
 repeat' first | apply And.intro | refine hk _ ?_ | intro hg | omega | exact True.intro
 all_goals clear hk k
 refine rg [0,1,5] ?_
 intro k hk; simp -dsimp [go_sem, -decide_eq_true_eq, -decide_eq_false_iff_not, hx, hy, ha, hdi, hdi2]
 repeat' first | apply And.intro | refine hk _ ?_ | intro hg | omega | exact True.intro
 all_goals clear hk k
 refine AW.seq ?_
 refine rg [0,1,5,21] ?_
 intro k hk; simp +contextual -dsimp (maxSteps := 2000000) [go_sem, -decide_eq_true_eq, -decide_eq_false_iff_not, hx, hy, ha, hdi, hdi2]
 repeat' first | apply And.intro | refine hk _ ?_ | (intro hg; try simp only [decide_eq_true_eq, decide_eq_false_iff_not] at hg) | omega | exact True.intro
 all_goals clear hk k
 all_goals (
  refine AW.cond rfl ?_ ?_
  ·intro hc; try simp at hc
   all_goals try (exfalso; omega; done)
   all_goals (
    refine rg [4] ?_
    intro k hk; simp -dsimp [go_sem, -decide_eq_true_eq, -decide_eq_false_iff_not, hx, hy, ha, hdi, hdi2]
    repeat' first | apply And.intro | refine hk _ ?_ | intro hg | omega | exact True.intro
    all_goals clear hk k
    refine rt ?_
    simp [go_sem, Tryz.results114, wants, hxS, hyS, ha, hdj, hdi2] <;> grind)
  ·intro hc; try simp at hc
   all_goals try (exfalso; omega; done)
   all_goals (
    refine AW.skipN (fun _ h => h) ?_
    refine rg [1,6] ?_
    intro k hk; simp -dsimp (maxSteps := 2000000) [go_sem, -decide_eq_true_eq, -decide_eq_false_iff_not, hx, hy, ha, hdi, hdi2]
    repeat' first | apply And.intro | refine hk _ ?_ | intro hg | (refine CallK.intro (dc_impl_kids p (a : Int) (by omega)) ?_; simp -dsimp (maxSteps := 2000000) [go_sem, -decide_eq_true_eq, -decide_eq_false_iff_not, hx, hy, ha, hdi, hdi2]) | omega | exact True.intro
    all_goals clear hk k
    refine rg [4] ?_
    intro k hk; simp -dsimp (maxSteps := 2000000) [go_sem, -decide_eq_true_eq, -decide_eq_false_iff_not, hx, hy, ha, hdi, hdi2, hkl, hwl, hwt]
    repeat' first | apply And.intro | refine hk _ ?_ | intro hg | omega | exact True.intro
    all_goals clear hk k
    refine rt ?_
    simp [go_sem, Tryz.results114, wants, hxS, hyS, ha, hdj, hdi2] <;> grind))
theorem dc_impl_wantsCond (p : List TStep) (ho : StepsOk p) (i : Nat) (hi : i < p.length) : DC Tryz.prog 114 [.isl 6 (p.map TStep.ro), .int .i64 (i : Nat)] (.bool (wants p i)) [] := by
  rcases Nat.eq_zero_or_pos i with h | h
  · subst h; exact dc_impl_wantsCond_z p ho
  · exact dc_impl_wantsCond_s p ho i hi h
theorem dc_spec_l4Needs_z (p : List TStep) (ho : StepsOk p) : DC Tryz.prog 105 [.isl 6 (p.map TStep.ro), .int .i64 0] (.bool (wants p 0)) [] := by
 have hi : 0 < p.length := by have := ho.len; omega
 have hlen := ho.len
 obtain ⟨x, hx⟩ := at_some hi
 have hxS := nS_at hx
 have hx0 := ho.par0
 rw [hxS] at hx0
 refine DC.intro tiOk Tryz.func105 rfl rfl rfl rfl rfl rfl rfl rfl [] ?_
 refine rg [0,1] ?_
 intro k hk; simp -dsimp [go_sem, -decide_eq_true_eq, -decide_eq_false_iff_not, hx, hx0]
 repeat' first | apply And.intro | refine hk _ ?_ | intro hg | omega | exact True.intro
 all_goals clear hk k
 refine rg [0,1,5] ?_
 intro k hk; simp -dsimp [go_sem, -decide_eq_true_eq, -decide_eq_false_iff_not, hx, hx0]
 repeat' first | apply And.intro | refine hk _ ?_ | intro hg | omega | exact True.intro
 all_goals clear hk k
 refine AW.seq ?_
 refine rg [0,1,5,21] ?_
 intro k hk; simp +contextual -dsimp (maxSteps := 2000000) [go_sem, -decide_eq_true_eq, -decide_eq_false_iff_not, hx, hx0]
 repeat' first | apply And.intro | refine hk _ ?_ | (intro hg; try simp only [decide_eq_true_eq, decide_eq_false_iff_not] at hg) | omega | exact True.intro
 all_goals clear hk k
 all_goals (
  refine AW.cond rfl ?_ ?_
  ·intro hc; try simp at hc
   all_goals try (exfalso; first | omega | (simp at hc; done); done)
   all_goals (
    refine rg [4] ?_
    intro k hk; simp -dsimp [go_sem, -decide_eq_true_eq, -decide_eq_false_iff_not, hx, hx0]
    repeat' first | apply And.intro | refine hk _ ?_ | intro hg | omega | exact True.intro
    all_goals clear hk k
    refine rt ?_
    simp [go_sem, Tryz.results105, wants])
  ·intro hc; try simp at hc
   all_goals try (exfalso; first | omega | (simp at hc; done); done)
   all_goals (
    refine AW.skipN (fun _ h => h) ?_
    refine rg [1,6] ?_
    intro k hk; simp -dsimp (maxSteps := 2000000) [go_sem, -decide_eq_true_eq, -decide_eq_false_iff_not, hx, hx0]
    repeat' first | apply And.intro | refine hk _ ?_ | intro hg | (refine CallK.intro (fail) ?_; simp -dsimp (maxSteps := 2000000) [go_sem, -decide_eq_true_eq, -decide_eq_false_iff_not, hx, hx0]) | omega | exact True.intro
    all_goals clear hk k
    refine rg [4] ?_
    intro k hk; simp -dsimp (maxSteps := 2000000) [go_sem, -decide_eq_true_eq, -decide_eq_false_iff_not, hx, hx0]
    repeat' first | apply And.intro | refine hk _ ?_ | intro hg | omega | exact True.intro
    all_goals clear hk k
    refine rt ?_
    simp [go_sem, Tryz.results105, wants]))
theorem dc_spec_l4Needs_s (p : List TStep) (ho : StepsOk p) (i : Nat) (hi : i < p.length) (hi0 : 0 < i) : DC Tryz.prog 105 [.isl 6 (p.map TStep.ro), .int .i64 (i : Nat)] (.bool (wants p i)) [] := by
 have hlen := ho.len
 obtain ⟨x, hx⟩ := at_some hi
 have hxS := nS_at hx
 have hpi := ho.parI hi0 hi
 rw [hxS] at hpi
 obtain ⟨a, ha⟩ : ∃ a : Nat, x.par = a := ⟨_, (Int.toNat_of_nonneg hpi.1).symm⟩
 obtain ⟨y, hy⟩ := at_some (l := p) (show a < p.length by omega)
 have hyS := nS_at hy
 have hdi : decide ((i : Int) = 0) = false := decide_eq_false (by omega)
 have hdi2 : ((i : Int) = 0) = False := eq_false (by omega)
 have hdj : (i = 0) = False := eq_false (by omega)
 have hkn := ho.kids_ne hi0 hi
 rw [hxS, ha] at hkn
 have hkl := last_at hkn
 have hkm := kids_len p (a : Int)
 have hkp := List.length_pos_iff.2 hkn
 have hwl : IntKind.wrap .i64 (((kids p a).length : Int) - 1) = ((kids p a).length : Int) - 1 := wrap64 (by omega) (by omega)
 have hwt : (((kids p a).length : Int) - 1).toNat = (kids p a).length - 1 := by omega
 refine DC.intro tiOk Tryz.func105 rfl rfl rfl rfl rfl rfl rfl rfl [] ?_
 refine rg [0,1] ?_
 intro k hk; simp -dsimp [go_sem, -decide_eq_true_eq, -decide_eq_false_iff_not, hx, hy, ha, hdi, hdi2]
 repeat' first | apply And.intro | refine hk _ ?_ | intro hg | omega | exact True.intro
 all_goals clear hk k
 refine rg [0,1,5] ?_
 intro k hk; simp -dsimp [go_sem, -decide_eq_true_eq, -decide_eq_false_iff_not, hx, hy, ha, hdi, hdi2]
 repeat' first | apply And.intro | refine hk _ ?_ | intro hg | omega | exact True.intro
 all_goals clear hk k
 refine AW.seq ?_
 refine rg [0,1,5,21] ?_
 intro k hk; simp +contextual -dsimp (maxSteps := 2000000) [go_sem, -decide_eq_true_eq, -decide_eq_false_iff_not, hx, hy, ha, hdi, hdi2]
 repeat' first | apply And.intro | refine hk _ ?_ | (intro hg; try simp only [decide_eq_true_eq, decide_eq_false_iff_not] at hg) | omega | exact True.intro
 all_goals clear hk k
 all_goals (
  refine AW.cond rfl ?_ ?_
  ·intro hc; try simp at hc
   all_goals try (exfalso; omega; done)
   all_goals (
    refine rg [4] ?_
    intro k hk; simp -dsimp [go_sem, -decide_eq_true_eq, -decide_eq_false_iff_not, hx, hy, ha, hdi, hdi2]
    repeat' first | apply And.intro | refine hk _ ?_ | intro hg | omega | exact True.intro
    all_goals clear hk k
    refine rt ?_
    simp [go_sem, Tryz.results105, wants, hxS, hyS, ha, hdj, hdi2] <;> grind)
  ·intro hc; try simp at hc
   all_goals try (exfalso; omega; done)
   all_goals (
    refine AW.skipN (fun _ h => h) ?_
    refine rg [1,6] ?_
    intro k hk; simp -dsimp (maxSteps := 2000000) [go_sem, -decide_eq_true_eq, -decide_eq_false_iff_not, hx, hy, ha, hdi, hdi2]
    repeat' first | apply And.intro | refine hk _ ?_ | intro hg | (refine CallK.intro (dc_spec_l4Kids p (a : Int) (by omega) (by rw [ho.par0]; omega)) ?_; simp -dsimp (maxSteps := 2000000) [go_sem, -decide_eq_true_eq, -decide_eq_false_iff_not, hx, hy, ha, hdi, hdi2]) | omega | exact True.intro
    all_goals clear hk k
    refine rg [4] ?_
    intro k hk; simp -dsimp (maxSteps := 2000000) [go_sem, -decide_eq_true_eq, -decide_eq_false_iff_not, hx, hy, ha, hdi, hdi2, hkl, hwl, hwt]
    repeat' first | apply And.intro | refine hk _ ?_ | intro hg | omega | exact True.intro
    all_goals clear hk k
    refine rt ?_
    simp [go_sem, Tryz.results105, wants, hxS, hyS, ha, hdj, hdi2] <;> grind))
theorem dc_spec_l4Needs (p : List TStep) (ho : StepsOk p) (i : Nat) (hi : i < p.length) : DC Tryz.prog 105 [.isl 6 (p.map TStep.ro), .int .i64 (i : Nat)] (.bool (wants p i)) [] := by
  rcases Nat.eq_zero_or_pos i with h | h
  · subst h; exact dc_spec_l4Needs_z p ho
  · exact dc_spec_l4Needs_s p ho i hi h
end Go.AM
namespace Go.AM
open Go.Proofs
theorem dc_impl_ExprFault (e : List TNode) (he : e.length ≤ 9223372036854775807) : DC Tryz.prog 112 [.isl 4 (e.map TNode.ro)] (.int .i64 (exprF e)) [] := by
 refine DC.intro tiOk Tryz.func112 rfl rfl rfl rfl rfl rfl rfl rfl [] ?_
 refine rgA [0] ?_
 refine AW.seq ?_
 refine rg [0,15] ?_
 intro k hk; simp -dsimp (maxSteps := 2000000) [go_sem, -decide_eq_true_eq, -decide_eq_false_iff_not]
 repeat' first | apply And.intro | refine hk _ ?_ | intro hg | (refine CallK.intro (dc_impl_inRange _ _ _) ?_; simp -dsimp (maxSteps := 2000000) [go_sem, -decide_eq_true_eq, -decide_eq_false_iff_not]) | omega | exact True.intro
 all_goals clear hk k
 refine AW.cond rfl ?_ ?_
 ·intro hc; try simp at hc
  all_goals (
   refine rgA [2] ?_
   refine rt ?_
   first | (rw [exprF_len (by simpa using hc)]; simp [go_sem, Tryz.results112]; done) | (rw [exprF_node hR hlt hall (by rw [hxn]; assumption), hxn]; simp [go_sem, Tryz.results112]; done) | (rw [exprF_end hR hN]; simp [go_sem, Tryz.results112] <;> grind))
 ·intro hc; try simp at hc
  all_goals (
   refine AW.skipN (fun _ h => h) ?_
   refine AW.seq ?_
   have hR : inR e.length 1 16 = true := by simpa using hc
   have hlen := inR_iff.1 hR
   refine rgA [0,16,17,18] ?_
   refine AW.block ?_
   refine AW.loopI (fun i : Nat => ⟨112, [(0, .isl 4 (e.map TNode.ro)), (16, .isl 4 (e.map TNode.ro)), (17, .int .i64 e.length), (18, .int .i64 i)], []⟩) (fun i => i ≤ e.length ∧ ∀ k, k < i → nodeAt e k = 0) (fun i => e.length - i) (0) (by simp) (Less.of rfl (by simp [go_sem]) (by simp [go_sem])) ?_
   rintro i ⟨hi, hall⟩
   refine rgA [0,16,17,18,19] ?_
   refine AW.seq ?_
   refine AW.cond rfl ?_ ?_
   ·intro hc; try simp at hc
    all_goals (
     have hlt : i < e.length := by assumption
     obtain ⟨x, hx⟩ := at_some hlt
     have hxn := nodeAt_at hx
     refine AW.skipN (fun _ h => h) ?_
     refine AW.seq ?_
     refine AW.block ?_
     refine rg [0,3,4,16,17,18] ?_
     intro k hk; simp -dsimp [go_sem, -decide_eq_true_eq, -decide_eq_false_iff_not, hx]
     repeat' first | apply And.intro | refine hk _ ?_ | intro hg | omega | exact True.intro
     all_goals clear hk k
     refine rg [0,5,16,17,18] ?_
     intro k hk; simp -dsimp (maxSteps := 2000000) [go_sem, -decide_eq_true_eq, -decide_eq_false_iff_not, hx]
     repeat' first | apply And.intro | refine hk _ ?_ | intro hg | (refine CallK.intro (dc_impl_nodeFault x i (by omega)) ?_; simp -dsimp (maxSteps := 2000000) [go_sem, -decide_eq_true_eq, -decide_eq_false_iff_not, hx]) | omega | exact True.intro
     all_goals clear hk k
     refine rg [0,5,16,17,18,27] ?_
     intro k hk; simp -dsimp [go_sem, -decide_eq_true_eq, -decide_eq_false_iff_not, hx]
     repeat' first | apply And.intro | refine hk _ ?_ | intro hg | omega | exact True.intro
     all_goals clear hk k
     refine AW.cond rfl ?_ ?_
     ·intro hc; try simp at hc
      all_goals (
       refine rg [2] ?_
       intro k hk; simp -dsimp [go_sem, -decide_eq_true_eq, -decide_eq_false_iff_not, hx]
       repeat' first | apply And.intro | refine hk _ ?_ | intro hg | omega | exact True.intro
       all_goals clear hk k
       refine rt ?_
       first | (rw [exprF_len (by simpa using hc)]; simp [go_sem, Tryz.results112]; done) | (rw [exprF_node hR hlt hall (by rw [hxn]; assumption), hxn]; simp [go_sem, Tryz.results112]; done) | (rw [exprF_end hR hN]; simp [go_sem, Tryz.results112] <;> grind))
     ·intro hc; try simp at hc
      all_goals (
       refine AW.skipN (fun _ h => h) ?_
       refine rgK ?_
       intro k hk; simp -dsimp [go_sem, -decide_eq_true_eq, -decide_eq_false_iff_not, hx]
       repeat' first | apply And.intro | refine hk _ ?_ | intro hg | omega | exact True.intro
       all_goals clear hk k
       show ∃ _, _
       have hw := wrapi hlt (by omega)
       refine ⟨i + 1, ⟨by omega, upto hall (by rw [hxn]; first | assumption | simpa using hc)⟩, by omega, Less.of rfl (by simp [go_sem, hw]) (by simp [go_sem])⟩))
   ·intro hc; try simp at hc
    all_goals (
     refine AW.exitN (fun _ h => h) ?_
     have hN : ∀ k, k < e.length → nodeAt e k = 0 := fun k hk => hall k (by omega)
     have hP : PartsOk e e.length := hN
     refine rgA [0,6,7] ?_
     refine AW.seq ?_
     refine rgA [0,6,7,31,32,33] ?_
     refine AW.block ?_
     refine AW.rename (nd := ?nd_1) 30 97 ?h1_1 ?h2_1 ?h4_1 ?kk_1
     (case h1_1 => exact rfl)
     (case h2_1 => simp [go_sem])
     (case h4_1 => simp [go_sem])
     refine AW.loopI (fun i : Nat => ⟨112, [(0, .isl 4 (e.map TNode.ro)), (6, .sl 97 1 0 i), (7, .bool (wrongU e i)), (31, .isl 4 (e.map TNode.ro)), (32, .int .i64 e.length), (33, .int .i64 i)], [(97, some ⟨1, (sizesL e i).map I1⟩)]⟩) (fun i => i ≤ e.length) (fun i => e.length - i) (0) (by simp) (Less.of rfl (by simp [go_sem, wrongU]) (by simp [go_sem, sizesL])) ?_
     rintro i hi
     refine AW.rename (nd := ?nd_2) 97 30 ?h1_2 ?h2_2 ?h4_2 ?kk_2
     (case h1_2 => exact rfl)
     (case h2_2 => simp [go_sem])
     (case h4_2 => simp [go_sem])
     refine rgA [0,6,7,31,32,33,34] ?_
     refine AW.seq ?_
     refine AW.cond rfl ?_ ?_
     ·intro hc; try simp at hc
      all_goals (
       have hlt : i < e.length := by assumption
       obtain ⟨x, hx⟩ := at_some hlt
       have hxn := nodeAt_at hx
       have hpx := hN i hlt
       rw [hxn] at hpx
       have hq := nodeF_parts hpx
       have hsl := sizesL_len e i
       have htk : List.take i ((sizesL e i).map I1) = (sizesL e i).map I1 := List.take_of_length_le (by simp [hsl])
       have hszA := szA_at hx hpx
       have hwrA := wrongU_at hx
       have hsbi := sz_bd hP hlt (by omega)
       have hwi : IntKind.wrap .i64 ((i : Int) - 1) = (i : Int) - 1 := wrap64 (by omega) (by omega)
       refine AW.skipN (fun _ h => h) ?_
       refine AW.seq ?_
       refine AW.block ?_
       refine rg [0,6,7,8,9,31,32,33] ?_
       intro k hk; simp -dsimp [go_sem, -decide_eq_true_eq, -decide_eq_false_iff_not, hx, hwi, hsl]
       repeat' first | apply And.intro | refine hk _ ?_ | intro hg | omega | exact True.intro
       all_goals clear hk k
       refine rg [0,6,7,9,10,11,31,32,33] ?_
       intro k hk; simp -dsimp [go_sem, -decide_eq_true_eq, -decide_eq_false_iff_not, hx, hwi, hsl]
       repeat' first | apply And.intro | refine hk _ ?_ | intro hg | omega | exact True.intro
       all_goals clear hk k
       refine AW.seq ?_
       refine AW.block ?_
       refine rg [0,6,7,9,10,11,31,32,33,40] ?_
       intro k hk; simp -dsimp [go_sem, -decide_eq_true_eq, -decide_eq_false_iff_not, hx, hwi, hsl]
       repeat' first | apply And.intro | refine hk _ ?_ | intro hg | omega | exact True.intro
       all_goals clear hk k
       refine AW.cond rfl ?_ ?_
       ·intro hc; try simp at hc
        all_goals (
         have hk : x.kind = 10 := by simpa using hc
         have hl := hq.1 hk
         have hsA := sizesL_at (e := e) hl.2
         have hsb := sz_bd hP (i := x.left.toNat) (by omega) (by omega)
         have hw1 : IntKind.wrap .i64 (1 + szA e x.left.toNat) = 1 + szA e x.left.toNat := wrap64 (by omega) (by omega)
         refine rg [0,6,7,9,11,31,32,33] ?_
         intro k hk; simp +contextual -dsimp (maxSteps := 2000000) [go_sem, -decide_eq_true_eq, -decide_eq_false_iff_not, hx, hwi, hsl, hsA]
         repeat' first | apply And.intro | refine hk _ ?_ | (intro hg; try simp only [decide_eq_true_eq, decide_eq_false_iff_not] at hg) | omega | exact True.intro
         all_goals clear hk k
         all_goals (
          refine rgN [0,6,7,11,31,32,33] (fun _ h => h) ?_
          intro k hk; simp -dsimp (maxSteps := 2000000) [go_sem, -decide_eq_true_eq, -decide_eq_false_iff_not, hx, hwi, hsl, hsA, hw1]
          repeat' first | apply And.intro | refine hk _ ?_ | intro hg | omega | exact True.intro
          all_goals clear hk k
          refine rgN [0,6,7,31,32,33] (fun _ h => h) ?_
          intro k hk; simp -dsimp [go_sem, -decide_eq_true_eq, -decide_eq_false_iff_not, hx, hwi, hsl]
          repeat' first | apply And.intro | refine hk _ ?_ | intro hg | omega | exact True.intro
          all_goals clear hk k
          refine rgK ?_
          intro k hk; simp -dsimp [go_sem, -decide_eq_true_eq, -decide_eq_false_iff_not, hx, hwi, hsl]
          repeat' first | apply And.intro | refine hk _ ?_ | intro hg | omega | exact True.intro
          all_goals clear hk k
          show ∃ _, _
          have hw := wrapi hlt (by omega)
          refine ⟨i + 1, by omega, by omega, Less.of rfl (by simp [go_sem, hw, hwrA, *]) (by simp [go_sem, sizesL_succ, hszA, *])⟩))
       ·intro hc; try simp at hc
        all_goals (
         refine rg [0,6,7,9,10,11,31,32,33,58] ?_
         intro k hk; simp -dsimp (maxSteps := 2000000) [go_sem, -decide_eq_true_eq, -decide_eq_false_iff_not, hx, hwi, hsl]
         repeat' first | apply And.intro | refine hk _ ?_ | intro hg | (refine CallK.intro (dc_impl_isTwo _) ?_; simp -dsimp (maxSteps := 2000000) [go_sem, -decide_eq_true_eq, -decide_eq_false_iff_not, hx, hwi, hsl]) | omega | exact True.intro
         all_goals clear hk k
         refine AW.cond rfl ?_ ?_
         ·intro hc; try simp at hc
          all_goals (
           have hk : isTwoB x.kind = true := by simpa using hc
           have hl := hq.2.1 hk
           have hsA := sizesL_at (e := e) hl.2.1
           have hsB := sizesL_at (e := e) hl.2.2.2
           have hsb := sz_bd hP (i := x.left.toNat) (by omega) (by omega)
           have hsb2 := sz_bd hP (i := x.right.toNat) (by omega) (by omega)
           have hw1 : IntKind.wrap .i64 (szA e x.left.toNat + szA e x.right.toNat) = szA e x.left.toNat + szA e x.right.toNat := wrap64 (by omega) (by omega)
           have hw2 : IntKind.wrap .i64 (1 + (szA e x.left.toNat + szA e x.right.toNat)) = 1 + (szA e x.left.toNat + szA e x.right.toNat) := wrap64 (by omega) (by omega)
           have hw3 : IntKind.wrap .i64 ((i : Int) - 1 - szA e x.right.toNat) = (i : Int) - 1 - szA e x.right.toNat := wrap64 (by omega) (by omega)
           refine rg [0,6,7,9,11,31,32,33] ?_
           intro k hk; simp +contextual -dsimp (maxSteps := 2000000) [go_sem, -decide_eq_true_eq, -decide_eq_false_iff_not, hx, hwi, hsl, hsA, hsB, hw3]
           repeat' first | (refine Chk.keys ?_; simp only [go_sem, List.map_cons, List.map_nil, List.flatMap_cons, List.flatMap_nil, List.flatMap_append, List.append_nil, List.nil_append, List.cons_append]; decide +kernel) | apply And.intro | refine hk _ ?_ | (intro hg; try simp only [decide_eq_true_eq, decide_eq_false_iff_not] at hg) | omega | exact True.intro
           all_goals clear hk k
           all_goals (
            refine rgN [0,6,7,11,31,32,33] (fun _ h => h) ?_
            intro k hk; simp -dsimp (maxSteps := 2000000) [go_sem, -decide_eq_true_eq, -decide_eq_false_iff_not, hx, hwi, hsl, hsA, hsB, hw1, hw2]
            repeat' first | (refine Chk.keys ?_; simp only [go_sem, List.map_cons, List.map_nil, List.flatMap_cons, List.flatMap_nil, List.flatMap_append, List.append_nil, List.nil_append, List.cons_append]; decide +kernel) | apply And.intro | refine hk _ ?_ | intro hg | omega | exact True.intro
            all_goals clear hk k
            refine rgN [0,6,7,31,32,33] (fun _ h => h) ?_
            intro k hk; simp -dsimp [go_sem, -decide_eq_true_eq, -decide_eq_false_iff_not, hx, hwi, hsl]
            repeat' first | apply And.intro | refine hk _ ?_ | intro hg | omega | exact True.intro
            all_goals clear hk k
            refine rgK ?_
            intro k hk; simp -dsimp [go_sem, -decide_eq_true_eq, -decide_eq_false_iff_not, hx, hwi, hsl]
            repeat' first | apply And.intro | refine hk _ ?_ | intro hg | omega | exact True.intro
            all_goals clear hk k
            show ∃ _, _
            have hw := wrapi hlt (by omega)
            refine ⟨i + 1, by omega, by omega, Less.of rfl (by simp [go_sem, hw, hwrA, *]) (by simp [go_sem, sizesL_succ, hszA, *])⟩))
         ·intro hc; try simp at hc
          all_goals (
           refine AW.skipN (fun _ h => h) ?_
           refine rgN [0,6,7,31,32,33] (fun _ h => h) ?_
           intro k hk; simp -dsimp [go_sem, -decide_eq_true_eq, -decide_eq_false_iff_not, hx, hwi, hsl]
           repeat' first | apply And.intro | refine hk _ ?_ | intro hg | omega | exact True.intro
           all_goals clear hk k
           refine rgK ?_
           intro k hk; simp -dsimp [go_sem, -decide_eq_true_eq, -decide_eq_false_iff_not, hx, hwi, hsl]
           repeat' first | apply And.intro | refine hk _ ?_ | intro hg | omega | exact True.intro
           all_goals clear hk k
           show ∃ _, _
           have hw := wrapi hlt (by omega)
           refine ⟨i + 1, by omega, by omega, Less.of rfl (by simp [go_sem, hw, hwrA, *]) (by simp [go_sem, sizesL_succ, hszA, *])⟩)))
     ·intro hc; try simp at hc
      all_goals (
       refine AW.exitN (fun _ h => h) ?_
       have hie : i = e.length := by omega
       subst hie
       have hsl := sizesL_len e e.length
       have hlast := sizesL_at (e := e) (show e.length - 1 < e.length by omega)
       have hwl : IntKind.wrap .i64 ((e.length : Int) - 1) = (e.length : Int) - 1 := wrap64 (by omega) (by omega)
       have hwt : ((e.length : Int) - 1).toNat = e.length - 1 := by omega
       refine rg [2] ?_
       intro k hk; simp +contextual -dsimp (maxSteps := 2000000) [go_sem, -decide_eq_true_eq, -decide_eq_false_iff_not, hwl, hwt, hlast, hsl]
       repeat' first | apply And.intro | refine hk _ ?_ | (intro hg; try simp only [decide_eq_true_eq, decide_eq_false_iff_not] at hg) | (refine CallK.intro (dc_impl_codeIf _ _) ?_; simp +contextual -dsimp (maxSteps := 2000000) [go_sem, -decide_eq_true_eq, -decide_eq_false_iff_not, hwl, hwt, hlast, hsl]) | omega | exact True.intro
       all_goals clear hk k
       all_goals (
        refine rt ?_
        first | (rw [exprF_len (by simpa using hc)]; simp [go_sem, Tryz.results112]; done) | (rw [exprF_node hR hlt hall (by rw [hxn]; assumption), hxn]; simp [go_sem, Tryz.results112]; done) | (rw [exprF_end hR hN]; simp [go_sem, Tryz.results112] <;> grind)))))
end Go.AM
namespace Go.AM
open Go.Proofs
theorem dc_impl_partType (k : Int) : DC Tryz.prog 124 [.int .i64 k] (.tup [.int .i64 (partT k), .int .i64 (ownT k)]) [] := by
 refine DC.intro tiOk Tryz.func124 rfl rfl rfl rfl rfl rfl rfl rfl [] ?_
 refine rgA [0] ?_
 refine AW.seq ?_
 refine AW.block ?_
 refine rgA [0,4] ?_
 refine AW.cond rfl ?_ ?_
 ·intro hc; try simp at hc
  all_goals (
   refine rgA [2,3] ?_
   refine rt ?_
   simp [go_sem, Tryz.results124, partT, ownT] <;> grind)
 ·intro hc; try simp at hc
  all_goals (
   refine rgA [7] ?_
   refine AW.cond rfl ?_ ?_
   ·intro hc; try simp at hc
    all_goals (
     refine rgA [2,3] ?_
     refine rt ?_
     simp [go_sem, Tryz.results124, partT, ownT] <;> grind)
   ·intro hc; try simp at hc
    all_goals (
     refine AW.skipN (fun _ h => h) ?_
     refine rgA [2,3] ?_
     refine rt ?_
     simp [go_sem, Tryz.results124, partT, ownT] <;> grind))
theorem dc_impl_TypeOf (e : List TNode) (he : e.length ≤ 9223372036854775807) : DC Tryz.prog 115 [.isl 4 (e.map TNode.ro)] (.agg [.int .i64 (typC e), .int .i64 (typV e)]) [] := by
 refine DC.intro tiOk Tryz.func115 rfl rfl rfl rfl rfl rfl rfl rfl [] ?_
 refine rg [0,2] ?_
 intro k hk; simp -dsimp [go_sem, -decide_eq_true_eq, -decide_eq_false_iff_not]
 repeat' first | apply And.intro | refine hk _ ?_ | intro hg | omega | exact True.intro | (have h9 := hr (by assumption); omega) | fail
 all_goals clear hk k
 refine AW.seq ?_
 refine rg [0,2,3] ?_
 intro k hk; simp -dsimp (maxSteps := 2000000) [go_sem, -decide_eq_true_eq, -decide_eq_false_iff_not]
 repeat' first | apply And.intro | refine hk _ ?_ | intro hg | (refine CallK.intro (dc_impl_ExprFault e he) ?_; simp -dsimp (maxSteps := 2000000) [go_sem, -decide_eq_true_eq, -decide_eq_false_iff_not]) | omega | exact True.intro | (have h9 := hr (by assumption); omega) | fail
 all_goals clear hk k
 refine rg [0,2,3,12] ?_
 intro k hk; simp -dsimp [go_sem, -decide_eq_true_eq, -decide_eq_false_iff_not]
 repeat' first | apply And.intro | refine hk _ ?_ | intro hg | omega | exact True.intro | (have h9 := hr (by assumption); omega) | fail
 all_goals clear hk k
 refine AW.cond rfl ?_ ?_
 ·intro hc; try simp at hc
  all_goals (
   refine rg [2] ?_
   intro k hk; simp -dsimp [go_sem, -decide_eq_true_eq, -decide_eq_false_iff_not]
   repeat' first | apply And.intro | refine hk _ ?_ | intro hg | omega | exact True.intro | (have h9 := hr (by assumption); omega) | fail
   all_goals clear hk k
   refine rt ?_
   first | (obtain ⟨h8, h9⟩ := typC_f (show exprF e ≠ 0 by first | assumption | simpa using hc); simp [go_sem, Tryz.results115, h8, h9]; done) | (obtain ⟨h8, h9⟩ := typC_b h0 (typU_hit hlt (by first | assumption | simpa using hc)); simp [go_sem, Tryz.results115, h8, h9]; done) | (obtain ⟨h8, h9⟩ := typC_k h0 hu; simp [go_sem, Tryz.results115, h8, h9]))
 ·intro hc; try simp at hc
  all_goals (
   refine AW.skipN (fun _ h => h) ?_
   have h0 : exprF e = 0 := by simpa using hc
   obtain ⟨hR, hP⟩ := exprF_zero h0
   have hlen := inR_iff.1 hR
   refine rg [0,2,4] ?_
   intro k hk; simp -dsimp [go_sem, -decide_eq_true_eq, -decide_eq_false_iff_not]
   repeat' first | apply And.intro | refine hk _ ?_ | intro hg | omega | exact True.intro | (have h9 := hr (by assumption); omega) | fail
   all_goals clear hk k
   refine AW.seq ?_
   refine rg [2,4,16,17,18] ?_
   intro k hk; simp -dsimp [go_sem, -decide_eq_true_eq, -decide_eq_false_iff_not]
   repeat' first | apply And.intro | refine hk _ ?_ | intro hg | omega | exact True.intro | (have h9 := hr (by assumption); omega) | fail
   all_goals clear hk k
   refine AW.block ?_
   refine AW.rename (nd := ?nd_1) 15 58 ?h1_1 ?h2_1 ?h4_1 ?kk_1
   (case h1_1 => exact rfl)
   (case h2_1 => simp [go_sem])
   (case h4_1 => simp [go_sem])
   refine AW.loopI (fun i : Nat => ⟨67, [(2, .ptr 2 2 0 0), (4, .sl 58 1 0 i), (16, .isl 4 (e.map TNode.ro)), (17, .int .i64 e.length), (18, .int .i64 i)], [(2, some ⟨2, [[.int .i64 0, .int .i64 0]]⟩), (58, some ⟨1, (typesL e i).map I1⟩)]⟩) (fun i => i ≤ e.length ∧ typU e i = false) (fun i => e.length - i) (0) (by simp [typU]) (Less.of rfl (by simp [go_sem]) (by simp [go_sem, typesL])) ?_
   rintro i ⟨hi, hu⟩
   refine AW.rename (nd := ?nd_2) 58 15 ?h1_2 ?h2_2 ?h4_2 ?kk_2
   (case h1_2 => exact rfl)
   (case h2_2 => simp [go_sem])
   (case h4_2 => simp [go_sem])
   refine rg [2,4,16,17,18,19] ?_
   intro k hk; simp -dsimp [go_sem, -decide_eq_true_eq, -decide_eq_false_iff_not]
   repeat' first | apply And.intro | refine hk _ ?_ | intro hg | omega | exact True.intro | (have h9 := hr (by assumption); omega) | fail
   all_goals clear hk k
   refine AW.seq ?_
   refine AW.cond rfl ?_ ?_
   ·intro hc; try simp at hc
    all_goals (
     have hlt : i < e.length := by assumption
     obtain ⟨x, hx⟩ := at_some hlt
     have hxA := nA_at hx
     have hpx := hP i hlt
     rw [nodeAt_at hx] at hpx
     have hq := nodeF_parts hpx
     have hl : 2 < x.kind → 0 ≤ x.left ∧ x.left.toNat < i := left_of hpx
     have hr := hq.2.1
     have htl := typesL_len e i
     have htk : List.take i ((typesL e i).map I1) = (typesL e i).map I1 := List.take_of_length_le (by simp [htl])
     have hsA : decide (2 < x.kind) = true → (typesL e i)[x.left.toNat]? = some (ownT (nA e x.left.toNat).kind) := fun h => typesL_at (hl (by simpa using h)).2
     have hsB : isTwoB x.kind = true → (typesL e i)[x.right.toNat]? = some (ownT (nA e x.right.toNat).kind) := fun h => typesL_at (hr h).2.2.2
     refine AW.skipN (fun _ h => h) ?_
     refine AW.seq ?_
     refine AW.block ?_
     refine rg [2,4,6,16,17,18] ?_
     intro k hk; simp -dsimp [go_sem, -decide_eq_true_eq, -decide_eq_false_iff_not, hx, htl, hsA, hsB]
     repeat' first | apply And.intro | refine hk _ ?_ | intro hg | omega | exact True.intro | (have h9 := hr (by assumption); omega) | fail
     all_goals clear hk k
     refine rg [2,4,6,7,8,16,17,18] ?_
     intro k hk; simp -dsimp (maxSteps := 2000000) [go_sem, -decide_eq_true_eq, -decide_eq_false_iff_not, hx, htl, hsA, hsB]
     repeat' first | apply And.intro | refine hk _ ?_ | intro hg | (refine CallK.intro (dc_impl_partType _) ?_; simp -dsimp (maxSteps := 2000000) [go_sem, -decide_eq_true_eq, -decide_eq_false_iff_not, hx, htl, hsA, hsB]) | omega | exact True.intro | (have h9 := hr (by assumption); omega) | fail
     all_goals clear hk k
     refine AW.seq ?_
     refine AW.cut ⟨67, [(2, .ptr 2 2 0 0), (4, .sl 15 1 0 i), (8, .int .i64 (ownT x.kind)), (16, .isl 4 (e.map TNode.ro)), (17, .int .i64 e.length), (18, .int .i64 i), (53, .bool (typBad e i))], [(2, some ⟨2, [[.int .i64 0, .int .i64 0]]⟩), (15, some ⟨1, (typesL e i).map I1⟩)]⟩ ?_ ?_
     ·skip
      refine rgK ?_
      intro k hk; simp +contextual -dsimp (maxSteps := 2000000) [go_sem, -decide_eq_true_eq, -decide_eq_false_iff_not, hx, htl, hsA, hsB]
      repeat' first | apply And.intro | refine hk _ ?_ | (intro hg; try simp only [decide_eq_true_eq, decide_eq_false_iff_not] at hg) | (refine CallK.intro (dc_impl_isTwo _) ?_; simp +contextual -dsimp (maxSteps := 2000000) [go_sem, -decide_eq_true_eq, -decide_eq_false_iff_not, hx, htl, hsA, hsB]) | omega | exact True.intro | (have h9 := hr (by assumption); omega) | fail
      all_goals clear hk k
      all_goals (show St.Less _ _; exact Less.of rfl (by simp [go_sem, typBad, hxA] <;> grind) (by simp [go_sem]))
     ·skip
      refine AW.cond rfl ?_ ?_
      ·intro hc; try simp at hc
       all_goals (
        refine rg [2] ?_
        intro k hk; simp -dsimp [go_sem, -decide_eq_true_eq, -decide_eq_false_iff_not, hx, htl, hsA, hsB]
        repeat' first | apply And.intro | refine hk _ ?_ | intro hg | omega | exact True.intro | (have h9 := hr (by assumption); omega) | fail
        all_goals clear hk k
        refine rt ?_
        first | (obtain ⟨h8, h9⟩ := typC_f (show exprF e ≠ 0 by first | assumption | simpa using hc); simp [go_sem, Tryz.results115, h8, h9]; done) | (obtain ⟨h8, h9⟩ := typC_b h0 (typU_hit hlt (by first | assumption | simpa using hc)); simp [go_sem, Tryz.results115, h8, h9]; done) | (obtain ⟨h8, h9⟩ := typC_k h0 hu; simp [go_sem, Tryz.results115, h8, h9]))
      ·intro hc; try simp at hc
       all_goals (
        refine AW.skipN (fun _ h => h) ?_
        refine rgN [2,4,16,17,18] (fun _ h => h) ?_
        intro k hk; simp -dsimp [go_sem, -decide_eq_true_eq, -decide_eq_false_iff_not, hx, htl, hsA, hsB]
        repeat' first | apply And.intro | refine hk _ ?_ | intro hg | omega | exact True.intro | (have h9 := hr (by assumption); omega) | fail
        all_goals clear hk k
        refine rgK ?_
        intro k hk; simp -dsimp [go_sem, -decide_eq_true_eq, -decide_eq_false_iff_not, hx, htl, hsA, hsB]
        repeat' first | apply And.intro | refine hk _ ?_ | intro hg | omega | exact True.intro | (have h9 := hr (by assumption); omega) | fail
        all_goals clear hk k
        show ∃ _, _
        have hw := wrapi hlt (by omega)
        have hub : typBad e i = false := by simpa using hc
        refine ⟨i + 1, ⟨by omega, typU_go hu hub⟩, by omega, Less.of rfl (by simp [go_sem, hw]) (by simp [go_sem, typesL_succ, hxA, htk])⟩))
   ·intro hc; try simp at hc
    all_goals (
     refine AW.exitN (fun _ h => h) ?_
     obtain rfl : i = e.length := by omega
     have htl := typesL_len e e.length
     have hlast := typesL_at (e := e) (show e.length - 1 < e.length by omega)
     have hwl : IntKind.wrap .i64 ((e.length : Int) - 1) = (e.length : Int) - 1 := wrap64 (by omega) (by omega)
     have hwt : ((e.length : Int) - 1).toNat = e.length - 1 := by omega
     refine rg [2] ?_
     intro k hk; simp -dsimp (maxSteps := 2000000) [go_sem, -decide_eq_true_eq, -decide_eq_false_iff_not, htl, hlast, hwl, hwt]
     repeat' first | apply And.intro | refine hk _ ?_ | intro hg | omega | exact True.intro | (have h9 := hr (by assumption); omega) | fail
     all_goals clear hk k
     refine rt ?_
     first | (obtain ⟨h8, h9⟩ := typC_f (show exprF e ≠ 0 by first | assumption | simpa using hc); simp [go_sem, Tryz.results115, h8, h9]; done) | (obtain ⟨h8, h9⟩ := typC_b h0 (typU_hit hlt (by first | assumption | simpa using hc)); simp [go_sem, Tryz.results115, h8, h9]; done) | (obtain ⟨h8, h9⟩ := typC_k h0 hu; simp [go_sem, Tryz.results115, h8, h9])))
end Go.AM
