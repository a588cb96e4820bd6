/- Joined texts: G1 G2 Y1p Y2p M1 Q2 Y4p G3 F1 F2 F5 F7 G4 G5 G6 Y6p Y3p Y5p T3 Q4. -/
import Derived.Test.YtajbihmllfodoaaB1
import Derived.Test.YtajbihmllfodoaaB2
import Derived.Test.YtajbihmllfodoaaB3
set_option linter.unusedVariables false
set_option linter.unusedSimpArgs false
set_option maxHeartbeats 600000
set_option maxRecDepth 100000
namespace Go.AM
open Go.Proofs

/-- impl.argBounds -/
theorem dc_impl_argBounds (k : Int) : DC Try.prog 91 [.int .i64 k] (.tup [.int .i64 (lowA k), .int .i64 (highA k)]) [] := by
 refine DC.intro tiOk Try.func91 rfl rfl rfl rfl rfl rfl rfl rfl [] ?_
 refine rgA [0] ?_
 refine AW.seq ?_
 refine rgA [4] ?_
 refine AW.block ?_
 refine rgA [4,5] ?_
 refine AW.cond rfl ?_ ?_
 ·intro hc; try simp at hc
  all_goals try (exfalso; omega; done)
  all_goals (
   refine rgA [2,3] ?_
   refine rt ?_
   simp [go_sem, Try.results91, lowA, highA] <;> grind)
 ·intro hc; try simp at hc
  all_goals try (exfalso; omega; done)
  all_goals (
   refine AW.seq ?_
   refine rgA [4,7] ?_
   refine AW.cond rfl ?_ ?_
   ·intro hc; try simp at hc
    all_goals try (exfalso; omega; done)
    all_goals (
     refine AW.skipN (fun _ h => h) ?_
     refine AW.cond rfl ?_ ?_
     ·intro hc; try simp at hc
      all_goals try (exfalso; omega; done)
      all_goals (
       refine rgA [2,3] ?_
       refine rt ?_
       simp [go_sem, Try.results91, lowA, highA] <;> grind)
     ·intro hc; try simp at hc
      all_goals try (exfalso; omega; done)
      all_goals (
       refine rgA [10] ?_
       refine AW.cond rfl ?_ ?_
       ·intro hc; try simp at hc
        all_goals try (exfalso; omega; done)
        all_goals (
         refine rgA [2,3] ?_
         refine rt ?_
         simp [go_sem, Try.results91, lowA, highA] <;> grind)
       ·intro hc; try simp at hc
        all_goals try (exfalso; omega; done)
        all_goals (
         refine AW.skipN (fun _ h => h) ?_
         refine rgA [2,3] ?_
         refine rt ?_
         simp [go_sem, Try.results91, lowA, highA] <;> grind)))
   ·intro hc; try simp at hc
    all_goals try (exfalso; omega; done)
    all_goals (
     refine rgNA [4,7] (fun _ h => h) ?_
     refine AW.cond rfl ?_ ?_
     ·intro hc; try simp at hc
      all_goals try (exfalso; omega; done)
      all_goals (
       refine rgA [2,3] ?_
       refine rt ?_
       simp [go_sem, Try.results91, lowA, highA] <;> grind)
     ·intro hc; try simp at hc
      all_goals try (exfalso; omega; done)
      all_goals (
       refine rgA [10] ?_
       refine AW.cond rfl ?_ ?_
       ·intro hc; try simp at hc
        all_goals try (exfalso; omega; done)
        all_goals (
         refine rgA [2,3] ?_
         refine rt ?_
         simp [go_sem, Try.results91, lowA, highA] <;> grind)
       ·intro hc; try simp at hc
        all_goals try (exfalso; omega; done)
        all_goals (
         refine AW.skipN (fun _ h => h) ?_
         refine rgA [2,3] ?_
         refine rt ?_
         simp [go_sem, Try.results91, lowA, highA] <;> grind))))

/-- impl.kidBounds -/
theorem dc_impl_kidBounds (k : Int) : DC Try.prog 96 [.int .i64 k] (.tup [.int .i64 (kidLo k), .int .i64 (kidHi k)]) [] := by
 refine DC.intro tiOk Try.func96 rfl rfl rfl rfl rfl rfl rfl rfl [] ?_
 refine rgA [0] ?_
 refine AW.seq ?_
 refine rgA [4] ?_
 refine AW.block ?_
 refine rgA [4,5] ?_
 refine AW.cond rfl ?_ ?_
 ·intro hc; try simp at hc
  all_goals try (exfalso; omega; done)
  all_goals (
   refine rgA [2,3] ?_
   refine rt ?_
   simp [go_sem, Try.results96, kidLo, kidHi] <;> grind)
 ·intro hc; try simp at hc
  all_goals try (exfalso; omega; done)
  all_goals (
   refine AW.seq ?_
   refine rgA [4,7] ?_
   refine AW.cond rfl ?_ ?_
   ·intro hc; try simp at hc
    all_goals try (exfalso; omega; done)
    all_goals (
     refine AW.skipN (fun _ h => h) ?_
     refine AW.cond rfl ?_ ?_
     ·intro hc; try simp at hc
      all_goals try (exfalso; omega; done)
      all_goals (
       refine rgA [2,3] ?_
       refine rt ?_
       simp [go_sem, Try.results96, kidLo, kidHi] <;> grind)
     ·intro hc; try simp at hc
      all_goals try (exfalso; omega; done)
      all_goals (
       refine rgA [10] ?_
       refine AW.cond rfl ?_ ?_
       ·intro hc; try simp at hc
        all_goals try (exfalso; omega; done)
        all_goals (
         refine rgA [2,3] ?_
         refine rt ?_
         simp [go_sem, Try.results96, kidLo, kidHi] <;> grind)
       ·intro hc; try simp at hc
        all_goals try (exfalso; omega; done)
        all_goals (
         refine AW.skipN (fun _ h => h) ?_
         refine rgA [2,3] ?_
         refine rt ?_
         simp [go_sem, Try.results96, kidLo, kidHi] <;> grind)))
   ·intro hc; try simp at hc
    all_goals try (exfalso; omega; done)
    all_goals (
     refine rgNA [4,7] (fun _ h => h) ?_
     refine AW.cond rfl ?_ ?_
     ·intro hc; try simp at hc
      all_goals try (exfalso; omega; done)
      all_goals (
       refine rgA [2,3] ?_
       refine rt ?_
       simp [go_sem, Try.results96, kidLo, kidHi] <;> grind)
     ·intro hc; try simp at hc
      all_goals try (exfalso; omega; done)
      all_goals (
       refine rgA [10] ?_
       refine AW.cond rfl ?_ ?_
       ·intro hc; try simp at hc
        all_goals try (exfalso; omega; done)
        all_goals (
         refine rgA [2,3] ?_
         refine rt ?_
         simp [go_sem, Try.results96, kidLo, kidHi] <;> grind)
       ·intro hc; try simp at hc
        all_goals try (exfalso; omega; done)
        all_goals (
         refine AW.skipN (fun _ h => h) ?_
         refine rgA [2,3] ?_
         refine rt ?_
         simp [go_sem, Try.results96, kidLo, kidHi] <;> grind))))

/-- spec.l4Many -/
theorem dc_spec_l4Many (k : Int) (n : Nat) (hn : n ≤ 24) : DC Try.prog 86 [.int .i64 k, .int .i64 (n : Nat)] (.bool (inR n (kidLo k) (kidHi k))) [] := by
 refine DC.intro tiOk Try.func86 rfl rfl rfl rfl rfl rfl rfl rfl [] ?_
 refine rgA [0,1] ?_
 refine AW.seq ?_
 refine rgA [1,5] ?_
 refine AW.block ?_
 refine rgA [1,5,6] ?_
 refine AW.cond rfl ?_ ?_
 ·intro hc; try simp at hc
  all_goals try (exfalso; omega; done)
  all_goals (
   refine rgA [4] ?_
   refine rt ?_
   simp [go_sem, Try.results86, inR, kidLo, kidHi] <;> grind)
 ·intro hc; try simp at hc
  all_goals try (exfalso; omega; done)
  all_goals (
   refine AW.seq ?_
   refine rgA [1,5,10] ?_
   refine AW.cond rfl ?_ ?_
   ·intro hc; try simp at hc
    all_goals try (exfalso; omega; done)
    all_goals (
     refine AW.skipN (fun _ h => h) ?_
     refine AW.cond rfl ?_ ?_
     ·intro hc; try simp at hc
      all_goals try (exfalso; omega; done)
      all_goals (
       refine rgA [4] ?_
       refine rt ?_
       simp [go_sem, Try.results86, inR, kidLo, kidHi] <;> grind)
     ·intro hc; try simp at hc
      all_goals try (exfalso; omega; done)
      all_goals (
       refine rgA [1,15] ?_
       refine AW.cond rfl ?_ ?_
       ·intro hc; try simp at hc
        all_goals try (exfalso; omega; done)
        all_goals (
         refine rgA [4] ?_
         refine rt ?_
         simp [go_sem, Try.results86, inR, kidLo, kidHi] <;> grind)
       ·intro hc; try simp at hc
        all_goals try (exfalso; omega; done)
        all_goals (
         refine AW.skipN (fun _ h => h) ?_
         refine rgA [4] ?_
         refine rt ?_
         simp [go_sem, Try.results86, inR, kidLo, kidHi] <;> grind)))
   ·intro hc; try simp at hc
    all_goals try (exfalso; omega; done)
    all_goals (
     refine rgNA [1,5,10] (fun _ h => h) ?_
     refine AW.cond rfl ?_ ?_
     ·intro hc; try simp at hc
      all_goals try (exfalso; omega; done)
      all_goals (
       refine rgA [4] ?_
       refine rt ?_
       simp [go_sem, Try.results86, inR, kidLo, kidHi] <;> grind)
     ·intro hc; try simp at hc
      all_goals try (exfalso; omega; done)
      all_goals (
       refine rgA [1,15] ?_
       refine AW.cond rfl ?_ ?_
       ·intro hc; try simp at hc
        all_goals try (exfalso; omega; done)
        all_goals (
         refine rgA [4] ?_
         refine rt ?_
         simp [go_sem, Try.results86, inR, kidLo, kidHi] <;> grind)
       ·intro hc; try simp at hc
        all_goals try (exfalso; omega; done)
        all_goals (
         refine AW.skipN (fun _ h => h) ?_
         refine rgA [4] ?_
         refine rt ?_
         simp [go_sem, Try.results86, inR, kidLo, kidHi] <;> grind))))

/-- spec.l4Arg -/
theorem dc_spec_l4Arg (s : TStep) : DC Try.prog 84 [.ip s.ro] (.bool (decide (s.kind = 5 ∨ s.kind = 6 ∨ s.kind = 7 ∨ s.kind = 8 → lowA s.kind ≤ s.arg ∧ s.arg ≤ highA s.kind))) [] := by
 refine DC.intro tiOk Try.func84 rfl rfl rfl rfl rfl rfl rfl rfl [] ?_
 refine rgA [0] ?_
 refine AW.seq ?_
 refine rgA [0,6] ?_
 refine AW.block ?_
 refine rgA [0,6,7] ?_
 refine AW.cond rfl ?_ ?_
 ·intro hc; try simp at hc
  all_goals try (exfalso; omega; done)
  all_goals (
   refine rg [2] ?_
   intro k hk; simp -dsimp (maxSteps := 2000000) [go_sem, -decide_eq_true_eq, -decide_eq_false_iff_not]
   repeat' first | apply And.intro | refine hk _ ?_ | intro hg | (refine CallK.intro (dc_spec_l1In _ _ _) ?_; simp -dsimp (maxSteps := 2000000) [go_sem, -decide_eq_true_eq, -decide_eq_false_iff_not]) | omega | exact True.intro
   all_goals clear hk k
   refine rt ?_
   simp [go_sem, Try.results84, inR, lowA, highA] <;> grind)
 ·intro hc; try simp at hc
  all_goals try (exfalso; omega; done)
  all_goals (
   refine AW.seq ?_
   refine rgA [0,6,14] ?_
   refine AW.cond rfl ?_ ?_
   ·intro hc; try simp at hc
    all_goals try (exfalso; omega; done)
    all_goals (
     refine AW.skipN (fun _ h => h) ?_
     refine AW.cond rfl ?_ ?_
     ·intro hc; try simp at hc
      all_goals try (exfalso; omega; done)
      all_goals (
       refine rg [2] ?_
       intro k hk; simp -dsimp (maxSteps := 2000000) [go_sem, -decide_eq_true_eq, -decide_eq_false_iff_not]
       repeat' first | apply And.intro | refine hk _ ?_ | intro hg | (refine CallK.intro (dc_spec_l1In _ _ _) ?_; simp -dsimp (maxSteps := 2000000) [go_sem, -decide_eq_true_eq, -decide_eq_false_iff_not]) | omega | exact True.intro
       all_goals clear hk k
       refine rt ?_
       simp [go_sem, Try.results84, inR, lowA, highA] <;> grind)
     ·intro hc; try simp at hc
      all_goals try (exfalso; omega; done)
      all_goals (
       refine rgA [0,22] ?_
       refine AW.cond rfl ?_ ?_
       ·intro hc; try simp at hc
        all_goals try (exfalso; omega; done)
        all_goals (
         refine rg [2] ?_
         intro k hk; simp -dsimp (maxSteps := 2000000) [go_sem, -decide_eq_true_eq, -decide_eq_false_iff_not]
         repeat' first | apply And.intro | refine hk _ ?_ | intro hg | (refine CallK.intro (dc_spec_l1In _ _ _) ?_; simp -dsimp (maxSteps := 2000000) [go_sem, -decide_eq_true_eq, -decide_eq_false_iff_not]) | omega | exact True.intro
         all_goals clear hk k
         refine rt ?_
         simp [go_sem, Try.results84, inR, lowA, highA] <;> grind)
       ·intro hc; try simp at hc
        all_goals try (exfalso; omega; done)
        all_goals (
         refine AW.skipN (fun _ h => h) ?_
         refine rgA [2] ?_
         refine rt ?_
         simp [go_sem, Try.results84, inR, lowA, highA] <;> grind)))
   ·intro hc; try simp at hc
    all_goals try (exfalso; omega; done)
    all_goals (
     refine rgNA [0,6,14] (fun _ h => h) ?_
     refine AW.cond rfl ?_ ?_
     ·intro hc; try simp at hc
      all_goals try (exfalso; omega; done)
      all_goals (
       refine rg [2] ?_
       intro k hk; simp -dsimp (maxSteps := 2000000) [go_sem, -decide_eq_true_eq, -decide_eq_false_iff_not]
       repeat' first | apply And.intro | refine hk _ ?_ | intro hg | (refine CallK.intro (dc_spec_l1In _ _ _) ?_; simp -dsimp (maxSteps := 2000000) [go_sem, -decide_eq_true_eq, -decide_eq_false_iff_not]) | omega | exact True.intro
       all_goals clear hk k
       refine rt ?_
       simp [go_sem, Try.results84, inR, lowA, highA] <;> grind)
     ·intro hc; try simp at hc
      all_goals try (exfalso; omega; done)
      all_goals (
       refine rgA [0,22] ?_
       refine AW.cond rfl ?_ ?_
       ·intro hc; try simp at hc
        all_goals try (exfalso; omega; done)
        all_goals (
         refine rg [2] ?_
         intro k hk; simp -dsimp (maxSteps := 2000000) [go_sem, -decide_eq_true_eq, -decide_eq_false_iff_not]
         repeat' first | apply And.intro | refine hk _ ?_ | intro hg | (refine CallK.intro (dc_spec_l1In _ _ _) ?_; simp -dsimp (maxSteps := 2000000) [go_sem, -decide_eq_true_eq, -decide_eq_false_iff_not]) | omega | exact True.intro
         all_goals clear hk k
         refine rt ?_
         simp [go_sem, Try.results84, inR, lowA, highA] <;> grind)
       ·intro hc; try simp at hc
        all_goals try (exfalso; omega; done)
        all_goals (
         refine AW.skipN (fun _ h => h) ?_
         refine rgA [2] ?_
         refine rt ?_
         simp [go_sem, Try.results84, inR, lowA, highA] <;> grind))))

/-- spec.l4Bare -/
theorem dc_spec_l4Bare (s : TStep) (hg : s.gok) : DC Try.prog 80 [.ip s.ro] (.bool (!alien s)) [] := by
 obtain ⟨g0, g1, g2⟩ := hg
 refine DC.intro tiOk Try.func80 rfl rfl rfl rfl rfl rfl rfl rfl [] ?_
 refine rgA [0] ?_
 refine rg [0,3] ?_
 intro k hk; simp -dsimp (maxSteps := 2000000) [go_sem, -decide_eq_true_eq, -decide_eq_false_iff_not]
 repeat' first | apply And.intro | refine hk _ ?_ | intro hg | (refine CallK.intro (dc_spec_l1In _ _ _) ?_; simp -dsimp (maxSteps := 2000000) [go_sem, -decide_eq_true_eq, -decide_eq_false_iff_not]) | omega | exact True.intro
 all_goals clear hk k
 refine AW.cut ⟨46, [(2, .bool (!alien s))], []⟩ ?_ ?_
 ·skip
  refine rgK ?_
  intro k hk; simp +contextual -dsimp (maxSteps := 2000000) [go_sem, -decide_eq_true_eq, -decide_eq_false_iff_not]
  repeat' first | apply And.intro | refine hk _ ?_ | (intro hg; try simp only [decide_eq_true_eq, decide_eq_false_iff_not] at hg) | omega | exact True.intro
  all_goals clear hk k
  all_goals (show St.Less _ _; exact Less.of rfl (by simp [go_sem, alien, highA, inR] at * <;> grind) (by simp [go_sem]))
 ·skip
  refine rt ?_
  simp [go_sem, Try.results80]

/-- (*impl.parents).next -/
theorem dc_impl_parents_next_z (par : Int) : DC Try.prog 92 [.op [.nils, .nils], .int .i64 par] (.int .i64 (parF [] par)) [(0, .op [nlc 1 ((nxtL [] par).map I1), nlc 1 ((nxtD [] [] par).map I1)])] := by
 have hwm : IntKind.wrap .i64 (-1) = -1 := wrap64 (by omega) (by omega)
 refine DC.intro tiOk Try.func92 rfl rfl rfl rfl rfl rfl rfl (by simp [noW, noWo]) [] ?_
 refine rg [0,1] ?_
 intro k hk; simp -dsimp [go_sem, -decide_eq_true_eq, -decide_eq_false_iff_not, hwm]
 repeat' first | apply And.intro | refine hk _ ?_ | intro hg | omega | exact True.intro
 all_goals clear hk k
 refine rg [0,1,5] ?_
 intro k hk; simp -dsimp [go_sem, -decide_eq_true_eq, -decide_eq_false_iff_not, hwm]
 repeat' first | apply And.intro | refine hk _ ?_ | intro hg | omega | exact True.intro
 all_goals clear hk k
 refine AW.seq ?_
 refine AW.cut ⟨75, [(0, .ptr 1900 2 0 0), (1, .int .i64 par), (5, .int .i64 0), (29, .bool (decide (par ≠ -1)))], [(1900, some ⟨2, [[.nils, .nils]]⟩)]⟩ ?_ ?_
 ·skip
  refine rgK ?_
  intro k hk; simp +contextual -dsimp (maxSteps := 2000000) [go_sem, -decide_eq_true_eq, -decide_eq_false_iff_not, hwm]
  repeat' first | apply And.intro | refine hk _ ?_ | (intro hg; try simp only [decide_eq_true_eq, decide_eq_false_iff_not] at hg) | (refine CallK.intro (dc_impl_inRange _ _ _) ?_; simp +contextual -dsimp (maxSteps := 2000000) [go_sem, -decide_eq_true_eq, -decide_eq_false_iff_not, hwm]) | omega | exact True.intro
  all_goals clear hk k
  all_goals (show St.Less _ _; exact Less.of rfl (by simp [go_sem] <;> grind) (by simp [go_sem]))
 ·skip
  refine AW.cond rfl ?_ ?_
  ·intro hc; try simp at hc
   all_goals try (exfalso; omega; done)
   all_goals (
    refine rg [0,4] ?_
    intro k hk; simp -dsimp [go_sem, -decide_eq_true_eq, -decide_eq_false_iff_not, hwm]
    repeat' first | apply And.intro | refine hk _ ?_ | intro hg | omega | exact True.intro
    all_goals clear hk k
    refine rt ?_
    first | (have hpm : par = -1 := (by assumption); subst hpm; simp [go_sem, Try.results92, nxtL, nxtD, parF]; done) | (have hpm : ¬ par = -1 := (by first | assumption | simpa using hc); simp [go_sem, Try.results92, nxtL, nxtD, parF, hpm]))
  ·intro hc; try simp at hc
   all_goals try (exfalso; omega; done)
   all_goals (
    refine AW.skipN (fun _ h => h) ?_
    have hpm : par = -1 := by simpa using hc
    refine rg [0,1,6] ?_
    intro k hk; simp -dsimp [go_sem, -decide_eq_true_eq, -decide_eq_false_iff_not, hwm, hpm]
    repeat' first | apply And.intro | refine hk _ ?_ | intro hg | omega | exact True.intro
    all_goals clear hk k
    refine AW.seq ?_
    refine AW.block ?_
    refine AW.loopI (fun _ : Nat => ⟨75, [(0, .ptr 1900 2 0 0), (1, .int .i64 par), (6, .int .i64 (-1))], [(1900, some ⟨2, [[.nils, .nils]]⟩)]⟩) (fun _ => True) (fun _ => 0) (0) (trivial) (Less.of rfl (by simp [go_sem, hpm, hwm]) (by simp [go_sem])) ?_
    rintro i _
    refine AW.seq ?_
    refine rg [0,1,6,34] ?_
    intro k hk; simp -dsimp [go_sem, -decide_eq_true_eq, -decide_eq_false_iff_not, hwm]
    repeat' first | apply And.intro | refine hk _ ?_ | intro hg | omega | exact True.intro
    all_goals clear hk k
    refine AW.cond rfl ?_ ?_
    ·intro hc; try simp at hc
     all_goals try (exfalso; omega; done)
     all_goals (
      refine AW.skipN (fun _ h => h) ?_
      refine AW.block ?_
      refine rgK ?_
      intro k hk; simp -dsimp (maxSteps := 2000000) [go_sem, -decide_eq_true_eq, -decide_eq_false_iff_not, hwm]
      repeat' first | apply And.intro | refine hk _ ?_ | intro hg | omega | exact True.intro
      all_goals clear hk k
      show ∃ _, _
      exfalso; omega)
    ·intro hc; try simp at hc
     all_goals try (exfalso; omega; done)
     all_goals (
      refine AW.exitN (fun _ h => h) ?_
      refine AW.seq ?_
      refine rg [0,1,44] ?_
      intro k hk; simp -dsimp [go_sem, -decide_eq_true_eq, -decide_eq_false_iff_not, hwm]
      repeat' first | apply And.intro | refine hk _ ?_ | intro hg | omega | exact True.intro
      all_goals clear hk k
      refine AW.cond rfl ?_ ?_
      ·intro hc; try simp at hc
       all_goals try (exfalso; omega; done)
       all_goals (
        refine rg [0,4] ?_
        intro k hk; simp -dsimp [go_sem, -decide_eq_true_eq, -decide_eq_false_iff_not, hwm]
        repeat' first | apply And.intro | refine hk _ ?_ | intro hg | omega | exact True.intro
        all_goals clear hk k
        refine rt ?_
        first | (have hpm : par = -1 := (by assumption); subst hpm; simp [go_sem, Try.results92, nxtL, nxtD, parF]; done) | (have hpm : ¬ par = -1 := (by first | assumption | simpa using hc); simp [go_sem, Try.results92, nxtL, nxtD, parF, hpm]))
      ·intro hc; try simp at hc
       all_goals try (exfalso; omega; done)
       all_goals (
        refine AW.skipN (fun _ h => h) ?_
        refine rg [0,1,7] ?_
        intro k hk; simp -dsimp [go_sem, -decide_eq_true_eq, -decide_eq_false_iff_not, hwm]
        repeat' first | apply And.intro | refine hk _ ?_ | intro hg | omega | exact True.intro
        all_goals clear hk k
        refine AW.seq ?_
        refine rg [0,1,7,46] ?_
        intro k hk; simp -dsimp [go_sem, -decide_eq_true_eq, -decide_eq_false_iff_not, hwm]
        repeat' first | apply And.intro | refine hk _ ?_ | intro hg | omega | exact True.intro
        all_goals clear hk k
        refine AW.cond rfl ?_ ?_
        ·intro hc; try simp at hc
         all_goals try (exfalso; omega; done)
         all_goals (
          refine rgN [0,1,7] (fun _ h => h) ?_
          intro k hk; simp -dsimp (maxSteps := 2000000) [go_sem, -decide_eq_true_eq, -decide_eq_false_iff_not, hwm]
          repeat' first | apply And.intro | refine hk _ ?_ | intro hg | omega | exact True.intro
          all_goals clear hk k
          refine rg [0] ?_
          intro k hk; simp -dsimp (maxSteps := 2000000) [go_sem, -decide_eq_true_eq, -decide_eq_false_iff_not, hwm]
          repeat' first | (refine Chk.keys ?_; simp only [go_sem, List.map_cons, List.map_nil, List.flatMap_cons, List.flatMap_nil, List.flatMap_append, List.append_nil, List.nil_append, List.cons_append]; decide +kernel) | apply And.intro | refine hk _ ?_ | intro hg | omega | exact True.intro
          all_goals clear hk k
          refine AW.fold (nd := ?nd_1) (c := ?c_1) (l := ?l_1) (es := ?es_1) (n := ?n_1) 1900 0 0 63 ?h1_1 ?h2_1 ?h4_1 ?h3_1 ?hn_1 (by decide) ?h6_1 ?kk_1
          (case h1_1 => exact rfl)
          (case h2_1 => exact rfl)
          (case h4_1 => exact rfl)
          (case h3_1 => exact rfl)
          (case hn_1 => simp)
          (case h6_1 => simp [go_sem])
          refine AW.fold (nd := ?nd_2) (c := ?c_2) (l := ?l_2) (es := ?es_2) (n := ?n_2) 1900 0 1 70 ?h1_2 ?h2_2 ?h4_2 ?h3_2 ?hn_2 (by decide) ?h6_2 ?kk_2
          (case h1_2 => exact rfl)
          (case h2_2 => exact rfl)
          (case h4_2 => exact rfl)
          (case h3_2 => exact rfl)
          (case hn_2 => simp)
          (case h6_2 => simp [go_sem])
          refine rg [0,4] ?_
          intro k hk; simp -dsimp [go_sem, -decide_eq_true_eq, -decide_eq_false_iff_not, hwm]
          repeat' first | apply And.intro | refine hk _ ?_ | intro hg | omega | exact True.intro
          all_goals clear hk k
          refine rt ?_
          first | (have hpm : par = -1 := (by assumption); subst hpm; simp [go_sem, Try.results92, nxtL, nxtD, parF]; done) | (have hpm : ¬ par = -1 := (by first | assumption | simpa using hc); simp [go_sem, Try.results92, nxtL, nxtD, parF, hpm]))
        ·intro hc; try simp at hc
         all_goals try (exfalso; omega; done)
         all_goals (
          refine AW.skipN (fun _ h => h) ?_
          refine rg [0] ?_
          intro k hk; simp -dsimp (maxSteps := 2000000) [go_sem, -decide_eq_true_eq, -decide_eq_false_iff_not, hwm]
          repeat' first | (refine Chk.keys ?_; simp only [go_sem, List.map_cons, List.map_nil, List.flatMap_cons, List.flatMap_nil, List.flatMap_append, List.append_nil, List.nil_append, List.cons_append]; decide +kernel) | apply And.intro | refine hk _ ?_ | intro hg | omega | exact True.intro
          all_goals clear hk k
          refine AW.fold (nd := ?nd_3) (c := ?c_3) (l := ?l_3) (es := ?es_3) (n := ?n_3) 1900 0 0 63 ?h1_3 ?h2_3 ?h4_3 ?h3_3 ?hn_3 (by decide) ?h6_3 ?kk_3
          (case h1_3 => exact rfl)
          (case h2_3 => exact rfl)
          (case h4_3 => exact rfl)
          (case h3_3 => exact rfl)
          (case hn_3 => simp)
          (case h6_3 => simp [go_sem])
          refine AW.fold (nd := ?nd_4) (c := ?c_4) (l := ?l_4) (es := ?es_4) (n := ?n_4) 1900 0 1 70 ?h1_4 ?h2_4 ?h4_4 ?h3_4 ?hn_4 (by decide) ?h6_4 ?kk_4
          (case h1_4 => exact rfl)
          (case h2_4 => exact rfl)
          (case h4_4 => exact rfl)
          (case h3_4 => exact rfl)
          (case hn_4 => simp)
          (case h6_4 => simp [go_sem])
          refine rg [0,4] ?_
          intro k hk; simp -dsimp [go_sem, -decide_eq_true_eq, -decide_eq_false_iff_not, hwm]
          repeat' first | apply And.intro | refine hk _ ?_ | intro hg | omega | exact True.intro
          all_goals clear hk k
          refine rt ?_
          first | (have hpm : par = -1 := (by assumption); subst hpm; simp [go_sem, Try.results92, nxtL, nxtD, parF]; done) | (have hpm : ¬ par = -1 := (by first | assumption | simpa using hc); simp [go_sem, Try.results92, nxtL, nxtD, parF, hpm])))))

/-- (*impl.parents).next -/
theorem dc_impl_parents_next_s (l d : List Int) (par : Int) (hl : ParOk l) (hd : d = depsOf l) (hn : l ≠ []) (h24 : l.length ≤ 24) : DC Try.prog 92 [.op [.osl 1 (l.map I1), .osl 1 (d.map I1)], .int .i64 par] (.int .i64 (parF l par)) [(0, .op [nlc 1 ((nxtL l par).map I1), nlc 1 ((nxtD l d par).map I1)])] := by
 have hlp : 0 < l.length := List.length_pos_iff.2 hn
 have hdl : d.length = l.length := by rw [hd]; exact depsOf_len l
 have hnl := nlc_map (f := I1) hn 1
 have hnd := nlc_map (f := I1) (l := d) (by intro h; rw [h] at hdl; simp at hdl; omega) 1
 have hw1 : IntKind.wrap .i64 ((l.length : Int) - 1) = (l.length : Int) - 1 := wrap64 (by omega) (by omega)
 have htl : List.take l.length (d.map I1) = d.map I1 := List.take_of_length_le (by simp [hdl])
 refine DC.intro tiOk Try.func92 rfl rfl rfl rfl rfl rfl rfl (by simp [noW, noWo]) [] ?_
 refine rg [0,1] ?_
 intro k hk; simp -dsimp [go_sem, -decide_eq_true_eq, -decide_eq_false_iff_not, hw1, hdl, htl]
 repeat' first | apply And.intro | refine hk _ ?_ | intro hg | omega | exact True.intro
 all_goals clear hk k
 refine AW.thaw (nd := ?nd_1) (c := ?c_1) (l := ?l_1) (es := ?es_1) 1900 0 0 7001 ?h1_1 ?h2_1 ?h3_1 ?h45_1 ?kk_1
 (case h1_1 => exact rfl)
 (case h2_1 => exact rfl)
 (case h3_1 => exact rfl)
 (case h45_1 => simp [go_sem])
 refine AW.thaw (nd := ?nd_2) (c := ?c_2) (l := ?l_2) (es := ?es_2) 1900 0 1 7002 ?h1_2 ?h2_2 ?h3_2 ?h45_2 ?kk_2
 (case h1_2 => exact rfl)
 (case h2_2 => exact rfl)
 (case h3_2 => exact rfl)
 (case h45_2 => simp [go_sem])
 refine rg [0,1,5] ?_
 intro k hk; simp -dsimp [go_sem, -decide_eq_true_eq, -decide_eq_false_iff_not, hw1, hdl, htl]
 repeat' first | apply And.intro | refine hk _ ?_ | intro hg | omega | exact True.intro
 all_goals clear hk k
 refine AW.seq ?_
 refine AW.cut ⟨75, [(0, .ptr 1900 2 0 0), (1, .int .i64 par), (5, .int .i64 (l.length : Nat)), (29, .bool (decide (parF l par = 3)))], [(7001, some ⟨1, l.map I1⟩), (7002, some ⟨1, d.map I1⟩), (1900, some ⟨2, [[.sl 7001 1 0 l.length, .sl 7002 1 0 l.length]]⟩)]⟩ ?_ ?_
 ·skip
  refine rgK ?_
  intro k hk; simp +contextual -dsimp (maxSteps := 2000000) [go_sem, -decide_eq_true_eq, -decide_eq_false_iff_not, hw1, hdl, htl]
  repeat' first | apply And.intro | refine hk _ ?_ | (intro hg; try simp only [decide_eq_true_eq, decide_eq_false_iff_not] at hg) | (refine CallK.intro (dc_impl_inRange _ _ _) ?_; simp +contextual -dsimp (maxSteps := 2000000) [go_sem, -decide_eq_true_eq, -decide_eq_false_iff_not, hw1, hdl, htl]) | omega | exact True.intro
  all_goals clear hk k
  all_goals (show St.Less _ _; exact Less.of rfl (by simp [go_sem, parF, inR] at * <;> grind) (by simp [go_sem, hdl]))
 ·skip
  refine AW.cond rfl ?_ ?_
  ·intro hc; try simp at hc
   all_goals try (exfalso; omega; done)
   all_goals (
    refine AW.fold (nd := ?nd_3) (c := ?c_3) (l := ?l_3) (es := ?es_3) (n := ?n_3) 1900 0 0 7001 ?h1_3 ?h2_3 ?h4_3 ?h3_3 ?hn_3 (by decide) ?h6_3 ?kk_3
    (case h1_3 => exact rfl)
    (case h2_3 => exact rfl)
    (case h4_3 => exact rfl)
    (case h3_3 => exact rfl)
    (case hn_3 => simp [hdl])
    (case h6_3 => simp [go_sem, hdl])
    refine AW.fold (nd := ?nd_4) (c := ?c_4) (l := ?l_4) (es := ?es_4) (n := ?n_4) 1900 0 1 7002 ?h1_4 ?h2_4 ?h4_4 ?h3_4 ?hn_4 (by decide) ?h6_4 ?kk_4
    (case h1_4 => exact rfl)
    (case h2_4 => exact rfl)
    (case h4_4 => exact rfl)
    (case h3_4 => exact rfl)
    (case hn_4 => simp [hdl])
    (case h6_4 => simp [go_sem, hdl])
    have hp3 : parF l par = 3 := by simpa using hc
    refine rg [0,4] ?_
    intro k hk; simp -dsimp [go_sem, -decide_eq_true_eq, -decide_eq_false_iff_not, hw1, hdl, htl]
    repeat' first | apply And.intro | refine hk _ ?_ | intro hg | omega | exact True.intro
    all_goals clear hk k
    refine rt ?_
    first | (simp [go_sem, Try.results92, nxtL, nxtD, hp3, hnl, hnd]; done) | (simp [go_sem, Try.results92, nxtL, nxtD, hp1, hnl, hnd]; done) | (simp [go_sem, Try.results92, hb, hnl2, hnd2, hp0, hnl, hnd, htl]; done))
  ·intro hc; try simp at hc
   all_goals try (exfalso; omega; done)
   all_goals (
    refine AW.skipN (fun _ h => h) ?_
    have hp3 : ¬ parF l par = 3 := by simpa using hc
    have hpr := parF_not3 hlp hp3
    refine rg [0,1,6] ?_
    intro k hk; simp -dsimp [go_sem, -decide_eq_true_eq, -decide_eq_false_iff_not, hw1, hdl, htl]
    repeat' first | apply And.intro | refine hk _ ?_ | intro hg | omega | exact True.intro
    all_goals clear hk k
    refine AW.seq ?_
    refine AW.block ?_
    refine AW.loopI (fun a : Int => ⟨75, [(0, .ptr 1900 2 0 0), (1, .int .i64 par), (6, .int .i64 a)], [(7001, some ⟨1, l.map I1⟩), (7002, some ⟨1, d.map I1⟩), (1900, some ⟨2, [[.sl 7001 1 0 l.length, .sl 7002 1 0 l.length]]⟩)]⟩) (fun a => -1 ≤ a ∧ a < l.length ∧ upB l a par = upB l ((l.length : Int) - 1) par) (fun a => (a + 1).toNat) ((l.length : Int) - 1) (by refine ⟨by omega, by omega, rfl⟩) (Less.of rfl (by simp [go_sem, hdl]) (by simp [go_sem, hdl])) ?_
    rintro a ⟨ha0, ha1, hinv⟩
    refine AW.seq ?_
    refine rg [0,1,6,34] ?_
    intro k hk; simp -dsimp [go_sem, -decide_eq_true_eq, -decide_eq_false_iff_not, hw1, hdl, htl]
    repeat' first | apply And.intro | refine hk _ ?_ | intro hg | omega | exact True.intro
    all_goals clear hk k
    refine AW.cond rfl ?_ ?_
    ·intro hc; try simp at hc
     all_goals try (exfalso; omega; done)
     all_goals (
      have hlt : par < a := by assumption
      obtain ⟨k, hk⟩ : ∃ k : Nat, a = k := ⟨_, (Int.toNat_of_nonneg (show 0 ≤ a by omega)).symm⟩
      subst hk
      obtain ⟨x, hx⟩ := at_some (l := l) (show k < l.length by omega)
      have hxg : l.getD k 0 = x := by rw [List.getD, hx]; rfl
      have hxl := hl k (by omega)
      rw [hxg] at hxl
      refine AW.skipN (fun _ h => h) ?_
      refine AW.block ?_
      refine rgK ?_
      intro k hk; simp -dsimp (maxSteps := 2000000) [go_sem, -decide_eq_true_eq, -decide_eq_false_iff_not, hw1, hdl, htl, hx]
      repeat' first | apply And.intro | refine hk _ ?_ | intro hg | omega | exact True.intro
      all_goals clear hk k
      show ∃ _, _
      refine ⟨x, ⟨by omega, by omega, ?_⟩, by omega, Less.of rfl (by simp [go_sem]) (by simp [go_sem])⟩
      rw [← hinv, upB_eq hl (show (0 : Int) ≤ (k : Int) by omega) (by omega), if_neg (by omega), Int.toNat_natCast, hxg])
    ·intro hc; try simp at hc
     all_goals try (exfalso; omega; done)
     all_goals (
      refine AW.exitN (fun _ h => h) ?_
      refine AW.seq ?_
      refine rg [0,1,44] ?_
      intro k hk; simp -dsimp [go_sem, -decide_eq_true_eq, -decide_eq_false_iff_not, hw1, hdl, htl]
      repeat' first | apply And.intro | refine hk _ ?_ | intro hg | omega | exact True.intro
      all_goals clear hk k
      refine AW.cond rfl ?_ ?_
      ·intro hc; try simp at hc
       all_goals try (exfalso; omega; done)
       all_goals (
        refine AW.fold (nd := ?nd_5) (c := ?c_5) (l := ?l_5) (es := ?es_5) (n := ?n_5) 1900 0 0 7001 ?h1_5 ?h2_5 ?h4_5 ?h3_5 ?hn_5 (by decide) ?h6_5 ?kk_5
        (case h1_5 => exact rfl)
        (case h2_5 => exact rfl)
        (case h4_5 => exact rfl)
        (case h3_5 => exact rfl)
        (case hn_5 => simp [hdl])
        (case h6_5 => simp [go_sem, hdl])
        refine AW.fold (nd := ?nd_6) (c := ?c_6) (l := ?l_6) (es := ?es_6) (n := ?n_6) 1900 0 1 7002 ?h1_6 ?h2_6 ?h4_6 ?h3_6 ?hn_6 (by decide) ?h6_6 ?kk_6
        (case h1_6 => exact rfl)
        (case h2_6 => exact rfl)
        (case h4_6 => exact rfl)
        (case h3_6 => exact rfl)
        (case hn_6 => simp [hdl])
        (case h6_6 => simp [go_sem, hdl])
        have hup : upB l ((l.length : Int) - 1) par = false := by rw [← hinv]; exact upB_lt hl l.length a (by omega) (by omega) (by omega)
        have hp1 : parF l par = 1 := by unfold parF; rw [if_neg (by omega), if_pos ⟨hlp, hup⟩]
        refine rg [0,4] ?_
        intro k hk; simp -dsimp [go_sem, -decide_eq_true_eq, -decide_eq_false_iff_not, hw1, hdl, htl]
        repeat' first | apply And.intro | refine hk _ ?_ | intro hg | omega | exact True.intro
        all_goals clear hk k
        refine rt ?_
        first | (simp [go_sem, Try.results92, nxtL, nxtD, hp3, hnl, hnd]; done) | (simp [go_sem, Try.results92, nxtL, nxtD, hp1, hnl, hnd]; done) | (simp [go_sem, Try.results92, hb, hnl2, hnd2, hp0, hnl, hnd, htl]; done))
      ·intro hc; try simp at hc
       all_goals try (exfalso; omega; done)
       all_goals (
        refine AW.skipN (fun _ h => h) ?_
        have hpa : a = par := by first | assumption | omega
        have hup : upB l ((l.length : Int) - 1) par = true := by rw [← hinv, upB_eq hl (by omega) (by omega), if_pos hpa]
        have hp0 : parF l par = 0 := by unfold parF; rw [if_neg (by omega), if_neg (by rw [hup]; simp)]
        refine rg [0,1,7] ?_
        intro k hk; simp -dsimp [go_sem, -decide_eq_true_eq, -decide_eq_false_iff_not, hw1, hdl, htl]
        repeat' first | apply And.intro | refine hk _ ?_ | intro hg | omega | exact True.intro
        all_goals clear hk k
        refine AW.seq ?_
        refine rg [0,1,7,46] ?_
        intro k hk; simp -dsimp [go_sem, -decide_eq_true_eq, -decide_eq_false_iff_not, hw1, hdl, htl]
        repeat' first | apply And.intro | refine hk _ ?_ | intro hg | omega | exact True.intro
        all_goals clear hk k
        refine AW.cond rfl ?_ ?_
        ·intro hc; try simp at hc
         all_goals try (exfalso; omega; done)
         all_goals (
          obtain ⟨b, hb⟩ : ∃ b : Nat, par = b := ⟨_, (Int.toNat_of_nonneg hpr.1).symm⟩
          have hdb : d[b]? = some (dep l b) := by rw [hd]; exact depsOf_at (by omega)
          have hds := dep_small hl (a := (b : Int)) (by omega)
          have hw2 : IntKind.wrap .i64 (dep l b + 1) = dep l b + 1 := wrap64 (by omega) (by omega)
          have hdg : d.getD b 0 = dep l b := by rw [List.getD, hdb]; rfl
          have hnl2 : nxtL l par = l ++ [par] := nxtL_app hp0
          have hnd2 : nxtD l d par = d ++ [dep l b + 1] := by rw [nxtD, if_pos hp0, if_pos hpr.1, hb, Int.toNat_natCast, hdg]
          rw [hb] at hnl2 hnd2 hp0
          refine rgN [0,1,7] (fun _ h => h) ?_
          intro k hk; simp -dsimp (maxSteps := 2000000) [go_sem, -decide_eq_true_eq, -decide_eq_false_iff_not, hw1, hdl, htl, hb, hdb, hw2]
          repeat' first | apply And.intro | refine hk _ ?_ | intro hg | omega | exact True.intro
          all_goals clear hk k
          refine rg [0] ?_
          intro k hk; simp -dsimp (maxSteps := 2000000) [go_sem, -decide_eq_true_eq, -decide_eq_false_iff_not, hw1, hdl, htl]
          repeat' first | (refine Chk.keys ?_; simp only [go_sem, List.map_cons, List.map_nil, List.flatMap_cons, List.flatMap_nil, List.flatMap_append, List.append_nil, List.nil_append, List.cons_append]; decide +kernel) | apply And.intro | refine hk _ ?_ | intro hg | omega | exact True.intro
          all_goals clear hk k
          refine AW.fold (nd := ?nd_7) (c := ?c_7) (l := ?l_7) (es := ?es_7) (n := ?n_7) 1900 0 0 63 ?h1_7 ?h2_7 ?h4_7 ?h3_7 ?hn_7 (by decide) ?h6_7 ?kk_7
          (case h1_7 => exact rfl)
          (case h2_7 => exact rfl)
          (case h4_7 => exact rfl)
          (case h3_7 => exact rfl)
          (case hn_7 => simp [hdl])
          (case h6_7 => simp [go_sem, hdl])
          refine AW.fold (nd := ?nd_8) (c := ?c_8) (l := ?l_8) (es := ?es_8) (n := ?n_8) 1900 0 1 70 ?h1_8 ?h2_8 ?h4_8 ?h3_8 ?hn_8 (by decide) ?h6_8 ?kk_8
          (case h1_8 => exact rfl)
          (case h2_8 => exact rfl)
          (case h4_8 => exact rfl)
          (case h3_8 => exact rfl)
          (case hn_8 => simp [hdl])
          (case h6_8 => simp [go_sem, hdl])
          refine rg [0,4] ?_
          intro k hk; simp -dsimp [go_sem, -decide_eq_true_eq, -decide_eq_false_iff_not, hw1, hdl, htl]
          repeat' first | apply And.intro | refine hk _ ?_ | intro hg | omega | exact True.intro
          all_goals clear hk k
          refine rt ?_
          first | (simp [go_sem, Try.results92, nxtL, nxtD, hp3, hnl, hnd]; done) | (simp [go_sem, Try.results92, nxtL, nxtD, hp1, hnl, hnd]; done) | (simp [go_sem, Try.results92, hb, hnl2, hnd2, hp0, hnl, hnd, htl]; done))
        ·intro hc; try simp at hc
         all_goals try (exfalso; omega; done)
         all_goals (
          refine AW.skipN (fun _ h => h) ?_
          refine rg [0] ?_
          intro k hk; simp -dsimp (maxSteps := 2000000) [go_sem, -decide_eq_true_eq, -decide_eq_false_iff_not, hw1, hdl, htl]
          repeat' first | (refine Chk.keys ?_; simp only [go_sem, List.map_cons, List.map_nil, List.flatMap_cons, List.flatMap_nil, List.flatMap_append, List.append_nil, List.nil_append, List.cons_append]; decide +kernel) | apply And.intro | refine hk _ ?_ | intro hg | omega | exact True.intro
          all_goals clear hk k
          refine AW.fold (nd := ?nd_9) (c := ?c_9) (l := ?l_9) (es := ?es_9) (n := ?n_9) 1900 0 0 63 ?h1_9 ?h2_9 ?h4_9 ?h3_9 ?hn_9 (by decide) ?h6_9 ?kk_9
          (case h1_9 => exact rfl)
          (case h2_9 => exact rfl)
          (case h4_9 => exact rfl)
          (case h3_9 => exact rfl)
          (case hn_9 => simp [hdl])
          (case h6_9 => simp [go_sem, hdl])
          refine AW.fold (nd := ?nd_10) (c := ?c_10) (l := ?l_10) (es := ?es_10) (n := ?n_10) 1900 0 1 70 ?h1_10 ?h2_10 ?h4_10 ?h3_10 ?hn_10 (by decide) ?h6_10 ?kk_10
          (case h1_10 => exact rfl)
          (case h2_10 => exact rfl)
          (case h4_10 => exact rfl)
          (case h3_10 => exact rfl)
          (case hn_10 => simp [hdl])
          (case h6_10 => simp [go_sem, hdl])
          refine rg [0,4] ?_
          intro k hk; simp -dsimp [go_sem, -decide_eq_true_eq, -decide_eq_false_iff_not, hw1, hdl, htl]
          repeat' first | apply And.intro | refine hk _ ?_ | intro hg | omega | exact True.intro
          all_goals clear hk k
          refine rt ?_
          first | (simp [go_sem, Try.results92, nxtL, nxtD, hp3, hnl, hnd]; done) | (simp [go_sem, Try.results92, nxtL, nxtD, hp1, hnl, hnd]; done) | (simp [go_sem, Try.results92, hb, hnl2, hnd2, hp0, hnl, hnd, htl]; done)))))
theorem dc_parents_next (l d : List Int) (par : Int) (hl : ParOk l) (hd : d = depsOf l) (h24 : l.length ≤ 24) : DC Try.prog 92 [.op [nlc 1 (l.map I1), nlc 1 (d.map I1)], .int .i64 par] (.int .i64 (parF l par)) [(0, .op [nlc 1 ((nxtL l par).map I1), nlc 1 ((nxtD l d par).map I1)])] := by
  by_cases hn : l = []
  · subst hn; subst hd; exact dc_impl_parents_next_z par
  · have hdl : d.length = l.length := by rw [hd]; exact depsOf_len l
    rw [nlc_map hn, nlc_map (l := d) (by intro h; rw [h] at hdl; exact hn (List.eq_nil_of_length_eq_zero hdl.symm))]
    exact dc_impl_parents_next_s l d par hl hd hn h24

/-- (*impl.parents).last -/
theorem dc_impl_parents_last (L D : List (List AV)) (v : Int) (hD : D.length ≤ 1000) : DC Try.prog 93 [.ip [.isl 1 L, .isl 1 (D ++ [[.int .i64 v]])]] (.int .i64 v) [] := by
 have hw1 : IntKind.wrap .i64 (D.length : Int) = (D.length : Int) := wrap64 (by omega) (by omega)
 have hat : (D ++ [[AV.int .i64 v]])[D.length]? = some [AV.int .i64 v] := List.getElem?_concat_length
 refine DC.intro tiOk Try.func93 rfl rfl rfl rfl rfl rfl rfl rfl [] ?_
 refine rg [0] ?_
 intro k hk; simp -dsimp [go_sem, -decide_eq_true_eq, -decide_eq_false_iff_not, hw1, hat]
 repeat' first | apply And.intro | refine hk _ ?_ | intro hg | omega | exact True.intro
 all_goals clear hk k
 refine rg [2] ?_
 intro k hk; simp -dsimp (maxSteps := 2000000) [go_sem, -decide_eq_true_eq, -decide_eq_false_iff_not, hw1, hat]
 repeat' first | (refine Chk.keys ?_; simp only [go_sem, List.map_cons, List.map_nil, List.flatMap_cons, List.flatMap_nil, List.flatMap_append, List.append_nil, List.nil_append, List.cons_append]; decide +kernel) | apply And.intro | refine hk _ ?_ | intro hg | omega | exact True.intro
 all_goals clear hk k
 refine rt ?_
 simp [go_sem, Try.results93]

end Go.AM
namespace Go.AM
open Go.Proofs

/-- impl.kids -/
theorem dc_impl_kids (p : List TStep) (a : Int) (hp : p.length ≤ 24) : DC Try.prog 59 [.isl 6 (p.map TStep.ro), .int .i64 a] (.osl 1 ((kids p a).map I1)) [] := by
 refine DC.intro tiOk Try.func59 rfl rfl rfl rfl rfl rfl rfl rfl [1000] ?_
 refine rgA [0,1] ?_
 refine rgA [0,1,5] ?_
 refine AW.seq ?_
 refine rgA [1,5,9,10,11] ?_
 refine AW.block ?_
 refine AW.rename (nd := ?nd_1) 8 27 ?h1_1 ?h2_1 ?h4_1 ?kk_1
 (case h1_1 => exact rfl)
 (case h2_1 => simp [go_sem])
 (case h4_1 => simp [go_sem])
 refine AW.loopI (fun i : Nat => ⟨30, [(1, .int .i64 a), (5, .sl 27 1 0 (kidU p a i).length), (9, .isl 6 (p.map TStep.ro)), (10, .int .i64 p.length), (11, .int .i64 i)], [(27, some ⟨1, (kidU p a i).map I1⟩)]⟩) (fun i => i ≤ p.length) (fun i => p.length - i) (0) (by simp) (Less.of rfl (by simp [go_sem, kidU]) (by simp [go_sem, kidU])) ?_
 rintro i hi
 refine AW.rename (nd := ?nd_2) 27 8 ?h1_2 ?h2_2 ?h4_2 ?kk_2
 (case h1_2 => exact rfl)
 (case h2_2 => simp [go_sem])
 (case h4_2 => simp [go_sem])
 refine rgA [1,5,9,10,11,12] ?_
 refine AW.seq ?_
 refine AW.cond rfl ?_ ?_
 ·intro hc; try simp at hc
  all_goals (
   have hlt : i < p.length := by assumption
   obtain ⟨x, hx⟩ := at_some hlt
   have hkl := kidU_len p a i
   refine AW.skipN (fun _ h => h) ?_
   refine AW.seq ?_
   refine AW.block ?_
   refine rg [1,5,6,7,9,10,11] ?_
   intro k hk; simp -dsimp [go_sem, -decide_eq_true_eq, -decide_eq_false_iff_not, hx]
   repeat' first | apply And.intro | refine hk _ ?_ | intro hg | omega | exact True.intro
   all_goals clear hk k
   refine AW.cut ⟨30, [(1, .int .i64 a), (5, .sl 8 1 0 (kidU p a i).length), (6, .int .i64 i), (9, .isl 6 (p.map TStep.ro)), (10, .int .i64 p.length), (11, .int .i64 i), (23, .bool (decide (0 < i ∧ x.par = a)))], [(8, some ⟨1, (kidU p a i).map I1⟩)]⟩ ?_ ?_
   ·skip
    refine rgK ?_
    intro k hk; simp +contextual -dsimp (maxSteps := 2000000) [go_sem, -decide_eq_true_eq, -decide_eq_false_iff_not, hx]
    repeat' first | apply And.intro | refine hk _ ?_ | (intro hg; try simp only [decide_eq_true_eq, decide_eq_false_iff_not] at hg) | omega | exact True.intro
    all_goals clear hk k
    all_goals (show St.Less _ _; exact Less.of rfl (by simp [go_sem] <;> first | omega | grind) (by simp [go_sem]))
   ·skip
    refine AW.cond rfl ?_ ?_
    ·intro hc; try simp at hc
     all_goals (
      have hks := kidU_yes hx (by simpa using hc)
      refine rgN [1,5,9,10,11] (fun _ h => h) ?_
      intro k hk; simp -dsimp [go_sem, -decide_eq_true_eq, -decide_eq_false_iff_not, hx]
      repeat' first | apply And.intro | refine hk _ ?_ | intro hg | omega | exact True.intro
      all_goals clear hk k
      try (have hks := kidU_not hx (by simpa using hc))
      try (refine AW.rename (nd := ?nd_3) 8 27 ?h1_3 ?h2_3 ?h4_3 ?kk_3; (case h1_3 => exact rfl); (case h2_3 => simp [go_sem]); (case h4_3 => simp [go_sem]))
      refine rgK ?_
      intro k hk; simp -dsimp [go_sem, -decide_eq_true_eq, -decide_eq_false_iff_not, hx]
      repeat' first | apply And.intro | refine hk _ ?_ | intro hg | omega | exact True.intro
      all_goals clear hk k
      show ∃ _, _
      have hw := wrapi hlt (by omega)
      refine ⟨i + 1, by omega, by omega, Less.of rfl (by simp [go_sem, hw, hks] <;> omega) (by simp [go_sem, hks])⟩)
    ·intro hc; try simp at hc
     all_goals (
      refine AW.skipN (fun _ h => h) ?_
      try (have hks := kidU_not hx (by simpa using hc))
      try (refine AW.rename (nd := ?nd_4) 8 27 ?h1_4 ?h2_4 ?h4_4 ?kk_4; (case h1_4 => exact rfl); (case h2_4 => simp [go_sem]); (case h4_4 => simp [go_sem]))
      refine rgK ?_
      intro k hk; simp -dsimp [go_sem, -decide_eq_true_eq, -decide_eq_false_iff_not, hx]
      repeat' first | apply And.intro | refine hk _ ?_ | intro hg | omega | exact True.intro
      all_goals clear hk k
      show ∃ _, _
      have hw := wrapi hlt (by omega)
      refine ⟨i + 1, by omega, by omega, Less.of rfl (by simp [go_sem, hw, hks] <;> omega) (by simp [go_sem, hks])⟩))
 ·intro hc; try simp at hc
  all_goals (
   refine AW.exitN (fun _ h => h) ?_
   refine rgA [4] ?_
   refine rt ?_
   rw [kids_end (by omega)]; simp [go_sem, Try.results59])

/-- spec.l4Kids -/
theorem dc_spec_l4Kids (p : List TStep) (a : Int) (hp : p.length ≤ 24) (h0 : (nS p 0).par ≠ a) : DC Try.prog 87 [.isl 6 (p.map TStep.ro), .int .i64 a] (.osl 1 ((kids p a).map I1)) [] := by
 refine DC.intro tiOk Try.func87 rfl rfl rfl rfl rfl rfl rfl rfl [1000] ?_
 refine rgA [0,1] ?_
 refine rgA [0,1,5] ?_
 refine AW.seq ?_
 refine rgA [0,1,5,6] ?_
 refine AW.block ?_
 refine AW.rename (nd := ?nd_1) 7 24 ?h1_1 ?h2_1 ?h4_1 ?kk_1
 (case h1_1 => exact rfl)
 (case h2_1 => simp [go_sem])
 (case h4_1 => simp [go_sem])
 refine AW.loopI (fun i : Nat => ⟨26, [(0, .isl 6 (p.map TStep.ro)), (1, .int .i64 a), (5, .sl 24 1 0 (kidU p a i).length), (6, .int .i64 i)], [(24, some ⟨1, (kidU p a i).map I1⟩)]⟩) (fun i => i ≤ p.length) (fun i => p.length - i) (0) (by simp) (Less.of rfl (by simp [go_sem, kidU]) (by simp [go_sem, kidU])) ?_
 rintro i hi
 refine AW.rename (nd := ?nd_2) 24 7 ?h1_2 ?h2_2 ?h4_2 ?kk_2
 (case h1_2 => exact rfl)
 (case h2_2 => simp [go_sem])
 (case h4_2 => simp [go_sem])
 refine AW.seq ?_
 refine rgA [0,1,5,6,11] ?_
 refine AW.cond rfl ?_ ?_
 ·intro hc; try simp at hc
  all_goals (
   have hlt : i < p.length := by assumption
   obtain ⟨x, hx⟩ := at_some hlt
   have hi0 : x.par = a → 0 < i := fun h => by rcases Nat.eq_zero_or_pos i with h1 | h1; (exfalso; subst h1; rw [nS_at hx] at h0; exact h0 h); exact h1
   have hkl := kidU_len p a i
   refine AW.skipN (fun _ h => h) ?_
   refine AW.seq ?_
   refine AW.block ?_
   refine rg [0,1,5,6,20] ?_
   intro k hk; simp -dsimp (maxSteps := 2000000) [go_sem, -decide_eq_true_eq, -decide_eq_false_iff_not, hx]
   repeat' first | apply And.intro | refine hk _ ?_ | intro hg | omega | exact True.intro
   all_goals clear hk k
   refine AW.cond rfl ?_ ?_
   ·intro hc; try simp at hc
    all_goals (
     have hxa : x.par = a := by simpa using hc
     have hks := kidU_yes hx ⟨hi0 hxa, hxa⟩
     refine rgN [0,1,5,6] (fun _ h => h) ?_
     intro k hk; simp -dsimp [go_sem, -decide_eq_true_eq, -decide_eq_false_iff_not, hx]
     repeat' first | apply And.intro | refine hk _ ?_ | intro hg | omega | exact True.intro
     all_goals clear hk k
     try (have hks := kidU_not hx (fun h => absurd h.2 (by simpa using hc)))
     try (refine AW.rename (nd := ?nd_3) 7 24 ?h1_3 ?h2_3 ?h4_3 ?kk_3; (case h1_3 => exact rfl); (case h2_3 => simp [go_sem]); (case h4_3 => simp [go_sem]))
     refine rgK ?_
     intro k hk; simp -dsimp [go_sem, -decide_eq_true_eq, -decide_eq_false_iff_not, hx]
     repeat' first | apply And.intro | refine hk _ ?_ | intro hg | omega | exact True.intro
     all_goals clear hk k
     show ∃ _, _
     have hw := wrapi hlt (by omega)
     refine ⟨i + 1, by omega, by omega, Less.of rfl (by simp [go_sem, hw, hks] <;> omega) (by simp [go_sem, hks])⟩)
   ·intro hc; try simp at hc
    all_goals (
     refine AW.skipN (fun _ h => h) ?_
     try (have hks := kidU_not hx (fun h => absurd h.2 (by simpa using hc)))
     try (refine AW.rename (nd := ?nd_4) 7 24 ?h1_4 ?h2_4 ?h4_4 ?kk_4; (case h1_4 => exact rfl); (case h2_4 => simp [go_sem]); (case h4_4 => simp [go_sem]))
     refine rgK ?_
     intro k hk; simp -dsimp [go_sem, -decide_eq_true_eq, -decide_eq_false_iff_not, hx]
     repeat' first | apply And.intro | refine hk _ ?_ | intro hg | omega | exact True.intro
     all_goals clear hk k
     show ∃ _, _
     have hw := wrapi hlt (by omega)
     refine ⟨i + 1, by omega, by omega, Less.of rfl (by simp [go_sem, hw, hks] <;> omega) (by simp [go_sem, hks])⟩))
 ·intro hc; try simp at hc
  all_goals (
   refine AW.exitN (fun _ h => h) ?_
   refine rgA [4] ?_
   refine rt ?_
   rw [kids_end (by omega)]; simp [go_sem, Try.results87])

end Go.AM
namespace Go.AM
open Go.Proofs

set_option maxHeartbeats 4000000 in
/-- impl.blockAt -/
theorem dc_impl_blockAt (p : List TStep) (hP : ProcOk p) (f : Nat) (hB : ∀ k : Int, 0 ≤ k → k.toNat < p.length → p.length ≤ k.toNat + f → DC Try.prog 28 [.isl 6 (p.map TStep.ro), .int .i64 k] (.agg (rowT (growF p f k.toNat))) []) (a : Nat) (ha : a < p.length) (hf : p.length ≤ a + f + 1) : DC Try.prog 28 [.isl 6 (p.map TStep.ro), .int .i64 (a : Nat)] (.agg (rowT (growF p (f + 1) a))) [] := by
 have hkl := kids_len p (a : Int)
 have hp := hP.len.2
 obtain ⟨x, hx⟩ := at_some ha
 have hx3 : ∀ h, p[a]'h = x := fun h => by have h9 := hx; rw [List.getElem?_eq_getElem h] at h9; exact Option.some.inj h9
 have hgs : (growF p (f + 1) a).s = x := by rw [grow_s, nS_at hx]
 refine DC.intro tiOk Try.func28 rfl rfl rfl rfl rfl rfl rfl rfl [] ?_
 refine rg [0,1,4] ?_
 intro k hk; simp -dsimp [go_sem, -decide_eq_true_eq, -decide_eq_false_iff_not, hx, hx3]
 repeat' first | apply And.intro | refine hk _ ?_ | intro hg | omega | exact True.intro
 all_goals clear hk k
 refine rg [0,1,4,5] ?_
 intro k hk; simp -dsimp (maxSteps := 2000000) [go_sem, -decide_eq_true_eq, -decide_eq_false_iff_not, hx, hx3]
 repeat' first | apply And.intro | refine hk _ ?_ | intro hg | omega | exact True.intro
 all_goals clear hk k
 refine AW.seq ?_
 refine rg [0,4,5,15,16,17] ?_
 intro k hk; simp -dsimp (maxSteps := 2000000) [go_sem, -decide_eq_true_eq, -decide_eq_false_iff_not, hx, hx3]
 repeat' first | apply And.intro | refine hk _ ?_ | intro hg | (refine CallK.intro (dc_impl_kids p (a : Int) hp) ?_; simp -dsimp (maxSteps := 2000000) [go_sem, -decide_eq_true_eq, -decide_eq_false_iff_not, hx, hx3]) | omega | exact True.intro
 all_goals clear hk k
 refine AW.block ?_
 refine AW.loopI (fun i : Nat => ⟨31, [(0, .isl 6 (p.map TStep.ro)), (4, .ptr 4 7 0 0), (5, .ptr 5 7 0 0), (15, .sl 1015 1 0 (kids p (a : Int)).length), (16, .int .i64 (kids p (a : Int)).length), (17, .int .i64 (i : Nat))], [(1015, some ⟨1, (kids p (a : Int)).map I1⟩), (4, some ⟨7, [[.int .i64 0, .int .i64 0, .str [], .int .i64 0, .nils, .nils, .nils]]⟩), (5, some ⟨7, [[.int .i64 x.kind, .int .i64 x.par, .str x.name, .int .i64 x.arg, .isl 4 (x.cond.map TNode.ro), .isl 4 (x.expr.map TNode.ro), nlc 7 ((gkL p f a i).map TB.ro)]]⟩)]⟩) (fun i => i ≤ (kids p (a : Int)).length) (fun i => (kids p (a : Int)).length - i) (0) (Nat.zero_le _) (Less.of rfl (by simp [go_sem]) (by simp [go_sem, gk_zero])) ?_
 rintro i hi
 refine rg [0,4,5,15,16,17,18] ?_
 intro k hk; simp -dsimp [go_sem, -decide_eq_true_eq, -decide_eq_false_iff_not, hx, hx3]
 repeat' first | apply And.intro | refine hk _ ?_ | intro hg | omega | exact True.intro
 all_goals clear hk k
 refine AW.seq ?_
 refine AW.cond rfl ?_ ?_
 ·intro hc; try simp at hc
  all_goals (
   have hlt : i < (kids p (a : Int)).length := by first | assumption | omega
   obtain ⟨u, hu⟩ := at_some (l := kids p (a : Int)) hlt
   have hu3 : ∀ h, (kids p (a : Int))[i]'h = u := fun h => by have h9 := hu; rw [List.getElem?_eq_getElem h] at h9; exact Option.some.inj h9
   obtain ⟨um, hum, hu1, hu2, hu4, hu5⟩ := hP.kid (List.mem_of_getElem? hu)
   have hBt := hB u (by omega) (by omega) (by omega)
   have hgs2 := gk_succ (f := f) hu
   obtain ⟨t, ht⟩ : ∃ t, growF p f u.toNat = t := ⟨_, rfl⟩
   rw [ht] at hBt hgs2
   have hti : (gkL p f a i).length = i := gk_len (by omega)
   have htk : ((gkL p f a i).map TB.ro).take i = (gkL p f a i).map TB.ro := List.take_of_length_le (by rw [List.length_map]; exact Nat.le_of_eq hti)
   refine AW.skipN (fun _ h => h) ?_
   refine AW.seq ?_
   refine AW.block ?_
   refine rg [0,4,5,7,15,16,17] ?_
   intro k hk; simp -dsimp [go_sem, -decide_eq_true_eq, -decide_eq_false_iff_not, hx, hx3, hu, hu3, hti, htk]
   repeat' first | apply And.intro | refine hk _ ?_ | intro hg | omega | exact True.intro
   all_goals clear hk k
   rcases nlT (gkL p f a i) with ⟨hnc, hl0⟩ | ⟨hnc, hl0⟩
   all_goals (
    rw [hnc]
    try refine AW.thaw 5 0 6 7001 rfl rfl rfl (by simp [go_sem]) ?_
    refine rgN [0,4,5,15,16,17] (fun _ h => h) ?_
    intro k hk; simp -dsimp (maxSteps := 2000000) [go_sem, -decide_eq_true_eq, -decide_eq_false_iff_not, hx, hx3, hu, hu3, hti, htk]
    repeat' first | (refine Chk.keys ?_; simp only [go_sem, List.map_cons, List.map_nil, List.flatMap_cons, List.flatMap_nil, List.flatMap_append, List.append_nil, List.nil_append, List.cons_append]; decide +kernel) | apply And.intro | refine hk _ ?_ | intro hg | (refine CallK.intro (hBt) ?_; simp -dsimp (maxSteps := 2000000) [go_sem, -decide_eq_true_eq, -decide_eq_false_iff_not, hx, hx3, hu, hu3, hti, htk]) | omega | exact True.intro
    all_goals clear hk k
    refine AW.fold 5 0 6 27 rfl rfl rfl rfl (by first | simp [hti] | simp [hl0]) (by decide) (by simp [go_sem]) ?_
    refine AW.cellLe 5 0 6 (nlc 7 ((gkL p f a (i + 1)).map TB.ro)) rfl rfl rfl (by rw [hgs2]; first | (simp [go_sem]; done) | (rw [hl0]; simp [go_sem])) ?_
    refine rgK ?_
    intro k hk; simp -dsimp [go_sem, -decide_eq_true_eq, -decide_eq_false_iff_not, hx, hx3, hu, hu3, hti, htk]
    repeat' first | apply And.intro | refine hk _ ?_ | intro hg | omega | exact True.intro
    all_goals clear hk k
    show ∃ _, _
    have hww := wrapi hlt (by omega)
    refine ⟨i + 1, by omega, by omega, Less.of rfl (by simp [go_sem, hww]) (by simp [go_sem])⟩))
 ·intro hc; try simp at hc
  all_goals (
   refine AW.exitN (fun _ h => h) ?_
   obtain rfl : i = (kids p (a : Int)).length := by first | omega | (simp at hc; omega)
   rw [gk_end (Nat.le_refl _)]
   rcases nlT (growF p (f + 1) a).ks with ⟨hnc, hl0⟩ | ⟨hnc, hl0⟩
   all_goals (
    rw [hnc]
    try (refine AW.thaw 5 0 6 7001 rfl rfl rfl (by simp [go_sem]) ?_; refine AW.freezeC 5 0 6 7001 (l' := (growF p (f + 1) a).ks.map TB.ro) rfl rfl rfl rfl (by decide) rfl (by simp) (by simp [go_sem]) (by simp [go_sem]) ?_)
    refine rg [4] ?_
    intro k hk; simp -dsimp [go_sem, -decide_eq_true_eq, -decide_eq_false_iff_not, hx, hx3]
    repeat' first | apply And.intro | refine hk _ ?_ | intro hg | omega | exact True.intro
    all_goals clear hk k
    refine rt ?_
    simp [go_sem, Try.results28, hgs, hl0]))

set_option maxHeartbeats 4000000 in
/-- spec.l7Grow -/
theorem dc_spec_l7Grow (p : List TStep) (hP : ProcOk p) (f : Nat) (hB : ∀ k : Int, 0 ≤ k → k.toNat < p.length → p.length ≤ k.toNat + f → DC Try.prog 51 [.isl 6 (p.map TStep.ro), .int .i64 k] (.agg (rowT (growF p f k.toNat))) []) (a : Nat) (ha : a < p.length) (hf : p.length ≤ a + f + 1) : DC Try.prog 51 [.isl 6 (p.map TStep.ro), .int .i64 (a : Nat)] (.agg (rowT (growF p (f + 1) a))) [] := by
 have hkl := kids_len p (a : Int)
 have hp := hP.len.2
 obtain ⟨x, hx⟩ := at_some ha
 have hx3 : ∀ h, p[a]'h = x := fun h => by have h9 := hx; rw [List.getElem?_eq_getElem h] at h9; exact Option.some.inj h9
 have hgs : (growF p (f + 1) a).s = x := by rw [grow_s, nS_at hx]
 refine DC.intro tiOk Try.func51 rfl rfl rfl rfl rfl rfl rfl rfl [] ?_
 refine rg [0,1,4] ?_
 intro k hk; simp -dsimp [go_sem, -decide_eq_true_eq, -decide_eq_false_iff_not, hx, hx3]
 repeat' first | apply And.intro | refine hk _ ?_ | intro hg | omega | exact True.intro
 all_goals clear hk k
 refine rg [0,1,4,5] ?_
 intro k hk; simp -dsimp (maxSteps := 2000000) [go_sem, -decide_eq_true_eq, -decide_eq_false_iff_not, hx, hx3]
 repeat' first | apply And.intro | refine hk _ ?_ | intro hg | omega | exact True.intro
 all_goals clear hk k
 refine rg [0,4,5,6] ?_
 intro k hk; simp -dsimp (maxSteps := 2000000) [go_sem, -decide_eq_true_eq, -decide_eq_false_iff_not, hx, hx3]
 repeat' first | apply And.intro | refine hk _ ?_ | intro hg | (refine CallK.intro (dc_spec_l4Kids p (a : Int) hp (by rw [hP.par0]; omega)) ?_; simp -dsimp (maxSteps := 2000000) [go_sem, -decide_eq_true_eq, -decide_eq_false_iff_not, hx, hx3]) | omega | exact True.intro
 all_goals clear hk k
 refine AW.seq ?_
 refine rg [0,4,5,6,7] ?_
 intro k hk; simp -dsimp [go_sem, -decide_eq_true_eq, -decide_eq_false_iff_not, hx, hx3]
 repeat' first | apply And.intro | refine hk _ ?_ | intro hg | omega | exact True.intro
 all_goals clear hk k
 refine AW.block ?_
 refine AW.loopI (fun i : Nat => ⟨34, [(0, .isl 6 (p.map TStep.ro)), (4, .ptr 4 7 0 0), (5, .ptr 5 7 0 0), (6, .sl 1015 1 0 (kids p (a : Int)).length), (7, .int .i64 (i : Nat))], [(1015, some ⟨1, (kids p (a : Int)).map I1⟩), (4, some ⟨7, [[.int .i64 0, .int .i64 0, .str [], .int .i64 0, .nils, .nils, .nils]]⟩), (5, some ⟨7, [[.int .i64 x.kind, .int .i64 x.par, .str x.name, .int .i64 x.arg, .isl 4 (x.cond.map TNode.ro), .isl 4 (x.expr.map TNode.ro), nlc 7 ((gkL p f a i).map TB.ro)]]⟩)]⟩) (fun i => i ≤ (kids p (a : Int)).length) (fun i => (kids p (a : Int)).length - i) (0) (Nat.zero_le _) (Less.of rfl (by simp [go_sem]) (by simp [go_sem, gk_zero])) ?_
 rintro i hi
 refine AW.seq ?_
 refine rg [0,4,5,6,7,19] ?_
 intro k hk; simp -dsimp [go_sem, -decide_eq_true_eq, -decide_eq_false_iff_not, hx, hx3]
 repeat' first | apply And.intro | refine hk _ ?_ | intro hg | omega | exact True.intro
 all_goals clear hk k
 refine AW.cond rfl ?_ ?_
 ·intro hc; try simp at hc
  all_goals (
   have hlt : i < (kids p (a : Int)).length := by first | assumption | omega
   obtain ⟨u, hu⟩ := at_some (l := kids p (a : Int)) hlt
   have hu3 : ∀ h, (kids p (a : Int))[i]'h = u := fun h => by have h9 := hu; rw [List.getElem?_eq_getElem h] at h9; exact Option.some.inj h9
   obtain ⟨um, hum, hu1, hu2, hu4, hu5⟩ := hP.kid (List.mem_of_getElem? hu)
   have hBt := hB u (by omega) (by omega) (by omega)
   have hgs2 := gk_succ (f := f) hu
   obtain ⟨t, ht⟩ : ∃ t, growF p f u.toNat = t := ⟨_, rfl⟩
   rw [ht] at hBt hgs2
   have hti : (gkL p f a i).length = i := gk_len (by omega)
   have htk : ((gkL p f a i).map TB.ro).take i = (gkL p f a i).map TB.ro := List.take_of_length_le (by rw [List.length_map]; exact Nat.le_of_eq hti)
   refine AW.skipN (fun _ h => h) ?_
   refine AW.seq ?_
   refine AW.block ?_
   rcases nlT (gkL p f a i) with ⟨hnc, hl0⟩ | ⟨hnc, hl0⟩
   all_goals (
    rw [hnc]
    try refine AW.thaw 5 0 6 7001 rfl rfl rfl (by simp [go_sem]) ?_
    refine rgN [0,4,5,6,7] (fun _ h => h) ?_
    intro k hk; simp -dsimp (maxSteps := 2000000) [go_sem, -decide_eq_true_eq, -decide_eq_false_iff_not, hx, hx3, hu, hu3, hti, htk]
    repeat' first | (refine Chk.keys ?_; simp only [go_sem, List.map_cons, List.map_nil, List.flatMap_cons, List.flatMap_nil, List.flatMap_append, List.append_nil, List.nil_append, List.cons_append]; decide +kernel) | apply And.intro | refine hk _ ?_ | intro hg | (refine CallK.intro (hBt) ?_; simp -dsimp (maxSteps := 2000000) [go_sem, -decide_eq_true_eq, -decide_eq_false_iff_not, hx, hx3, hu, hu3, hti, htk]) | omega | exact True.intro
    all_goals clear hk k
    refine AW.fold 5 0 6 31 rfl rfl rfl rfl (by first | simp [hti] | simp [hl0]) (by decide) (by simp [go_sem]) ?_
    refine AW.cellLe 5 0 6 (nlc 7 ((gkL p f a (i + 1)).map TB.ro)) rfl rfl rfl (by rw [hgs2]; first | (simp [go_sem]; done) | (rw [hl0]; simp [go_sem])) ?_
    refine rgK ?_
    intro k hk; simp -dsimp [go_sem, -decide_eq_true_eq, -decide_eq_false_iff_not, hx, hx3, hu, hu3, hti, htk]
    repeat' first | apply And.intro | refine hk _ ?_ | intro hg | omega | exact True.intro
    all_goals clear hk k
    show ∃ _, _
    have hww := wrapi hlt (by omega)
    refine ⟨i + 1, by omega, by omega, Less.of rfl (by simp [go_sem, hww]) (by simp [go_sem])⟩))
 ·intro hc; try simp at hc
  all_goals (
   refine AW.exitN (fun _ h => h) ?_
   obtain rfl : i = (kids p (a : Int)).length := by first | omega | (simp at hc; omega)
   rw [gk_end (Nat.le_refl _)]
   rcases nlT (growF p (f + 1) a).ks with ⟨hnc, hl0⟩ | ⟨hnc, hl0⟩
   all_goals (
    rw [hnc]
    try (refine AW.thaw 5 0 6 7001 rfl rfl rfl (by simp [go_sem]) ?_; refine AW.freezeC 5 0 6 7001 (l' := (growF p (f + 1) a).ks.map TB.ro) rfl rfl rfl rfl (by decide) rfl (by simp) (by simp [go_sem]) (by simp [go_sem]) ?_)
    refine rg [4] ?_
    intro k hk; simp -dsimp [go_sem, -decide_eq_true_eq, -decide_eq_false_iff_not, hx, hx3]
    repeat' first | apply And.intro | refine hk _ ?_ | intro hg | omega | exact True.intro
    all_goals clear hk k
    refine rt ?_
    simp [go_sem, Try.results51, hgs, hl0]))

theorem dc_grow_impl (p : List TStep) (hP : ProcOk p) : ∀ (f : Nat) (k : Int), 0 ≤ k → k.toNat < p.length → p.length ≤ k.toNat + f → DC Try.prog 28 [.isl 6 (p.map TStep.ro), .int .i64 k] (.agg (rowT (growF p f k.toNat))) [] := by
 intro f
 induction f with
 | zero => intro k h0 hk hf; omega
 | succ f ih =>
  intro k h0 hk hf
  obtain ⟨a, rfl⟩ : ∃ a : Nat, k = a := ⟨_, (Int.toNat_of_nonneg h0).symm⟩
  rw [Int.toNat_natCast] at hk hf ⊢
  exact dc_impl_blockAt p hP f ih a hk (by omega)

theorem dc_grow_spec (p : List TStep) (hP : ProcOk p) : ∀ (f : Nat) (k : Int), 0 ≤ k → k.toNat < p.length → p.length ≤ k.toNat + f → DC Try.prog 51 [.isl 6 (p.map TStep.ro), .int .i64 k] (.agg (rowT (growF p f k.toNat))) [] := by
 intro f
 induction f with
 | zero => intro k h0 hk hf; omega
 | succ f ih =>
  intro k h0 hk hf
  obtain ⟨a, rfl⟩ : ∃ a : Nat, k = a := ⟨_, (Int.toNat_of_nonneg h0).symm⟩
  rw [Int.toNat_natCast] at hk hf ⊢
  exact dc_spec_l7Grow p hP f ih a hk (by omega)

end Go.AM
namespace Go.AM
open Go.Proofs

set_option maxHeartbeats 4000000 in
/-- (impl.block).plain -/
theorem dc_impl_block_plain (t : TB) (hI : ∀ k ∈ t.ks, k.cnt ≤ 24 → DC Try.prog 29 [.agg (rowT k)] (.agg (rowT (plainT k))) []) (hn : t.cnt ≤ 24) : DC Try.prog 29 [.agg (rowT t)] (.agg (rowT (plainT t))) [] := by
 have htc := t.cnt_eq
 have hkl := TB.cntL_len t.ks
 refine DC.intro tiOk Try.func29 rfl rfl rfl rfl rfl rfl rfl rfl [] ?_
 refine rgA [1,2] ?_
 refine rgA [1,2,3] ?_
 refine AW.seq ?_
 refine rgA [1,2,3,9,10,11] ?_
 refine AW.block ?_
 refine AW.rename (nd := ?nd_1) 7 34 ?h1_1 ?h2_1 ?h4_1 ?kk_1
 (case h1_1 => exact rfl)
 (case h2_1 => simp [go_sem])
 (case h4_1 => simp [go_sem])
 refine AW.loopI (fun i : Nat => ⟨63, [(1, .ptr 1 7 0 0), (2, .ptr 2 7 0 0), (3, .sl 34 7 0 (jnL t i).length), (9, .isl 7 (t.ks.map TB.ro)), (10, .int .i64 t.ks.length), (11, .int .i64 (i : Nat))], [(1, some ⟨7, [t.ro]⟩), (2, some ⟨7, [[.int .i64 0, .int .i64 0, .str [], .int .i64 0, .nils, .nils, .nils]]⟩), (34, some ⟨7, (jnL t i).map TB.ro⟩)]⟩) (fun i => i ≤ t.ks.length) (fun i => t.ks.length - i) (0) (Nat.zero_le _) (Less.of rfl (by simp [go_sem, jn_zero]) (by simp [go_sem, jn_zero])) ?_
 rintro i hi
 refine AW.rename (nd := ?nd_2) 34 7 ?h1_2 ?h2_2 ?h4_2 ?kk_2
 (case h1_2 => exact rfl)
 (case h2_2 => simp [go_sem])
 (case h4_2 => simp [go_sem])
 refine rgA [1,2,3,9,10,11,12] ?_
 refine AW.seq ?_
 refine AW.cond rfl ?_ ?_
 ·intro hc; try simp at hc
  all_goals (
   have hlt : i < t.ks.length := by first | assumption | omega
   obtain ⟨y, hy⟩ := at_some (l := t.ks) hlt
   have hy3 : ∀ h, t.ks[i]'h = y := fun h => by have h9 := hy; rw [List.getElem?_eq_getElem h] at h9; exact Option.some.inj h9
   have hyc := TB.cntL_mem (List.mem_of_getElem? hy)
   have hIy := hI y (List.mem_of_getElem? hy) (by omega)
   have hjs := jn_succ hy
   have hj1 := jn_len t i
   have hj2 := jn_len t (i + 1)
   obtain ⟨z, hz⟩ : ∃ z, plainT y = z := ⟨_, rfl⟩
   rw [hz] at hIy hjs
   have htk : ((jnL t i).map TB.ro).take (jnL t i).length = (jnL t i).map TB.ro := List.take_of_length_le (by rw [List.length_map]; exact Nat.le_refl _)
   refine AW.skipN (fun _ h => h) ?_
   refine AW.seq ?_
   refine AW.block ?_
   refine rg [1,2,3,5,9,10,11] ?_
   intro k hk; simp -dsimp [go_sem, -decide_eq_true_eq, -decide_eq_false_iff_not, hy, hy3, htk]
   repeat' first | apply And.intro | refine hk _ ?_ | intro hg | omega | exact True.intro
   all_goals clear hk k
   refine rg [1,2,3,5,9,10,11] ?_
   intro k hk; simp -dsimp (maxSteps := 2000000) [go_sem, -decide_eq_true_eq, -decide_eq_false_iff_not, hy, hy3, htk]
   repeat' first | apply And.intro | refine hk _ ?_ | intro hg | (refine CallK.intro (hIy) ?_; simp -dsimp (maxSteps := 2000000) [go_sem, -decide_eq_true_eq, -decide_eq_false_iff_not, hy, hy3, htk]) | omega | exact True.intro
   all_goals clear hk k
   refine rg [1,2,3,5,9,10,11,26] ?_
   intro k hk; simp +contextual -dsimp (maxSteps := 2000000) [go_sem, -decide_eq_true_eq, -decide_eq_false_iff_not, hy, hy3, htk]
   repeat' first | apply And.intro | refine hk _ ?_ | (intro hg; try simp only [decide_eq_true_eq, decide_eq_false_iff_not] at hg) | omega | exact True.intro
   all_goals clear hk k
   all_goals (
    refine AW.cond rfl ?_ ?_
    ·intro hc; try simp at hc
     all_goals (
      have hks : jnL t (i + 1) = jnL t i ++ z.ks := by rw [hjs, if_pos (by grind)]
      have hj3 : (jnL t i).length + z.ks.length ≤ 24 := by rw [hks, List.length_append] at hj2; omega
      refine rgN [1,2,3,9,10,11] (fun _ h => h) ?_
      intro k hk; simp -dsimp [go_sem, -decide_eq_true_eq, -decide_eq_false_iff_not, hy, hy3, htk]
      repeat' first | apply And.intro | refine hk _ ?_ | intro hg | omega | exact True.intro
      all_goals clear hk k
      try (refine AW.rename (nd := ?nd_3) 30 34 ?h1_3 ?h2_3 ?h4_3 ?kk_3; (case h1_3 => exact rfl); (case h2_3 => simp [go_sem]); (case h4_3 => simp [go_sem]))
      refine rgK ?_
      intro k hk; simp -dsimp [go_sem, -decide_eq_true_eq, -decide_eq_false_iff_not, hy, hy3, htk]
      repeat' first | apply And.intro | refine hk _ ?_ | intro hg | omega | exact True.intro
      all_goals clear hk k
      show ∃ _, _
      have hww := wrapi hlt (by omega)
      refine ⟨i + 1, by omega, by omega, Less.of rfl (by simp [go_sem, hww, hks]) (by simp [go_sem, hks])⟩)
    ·intro hc; try simp at hc
     all_goals (
      have hks : jnL t (i + 1) = jnL t i ++ [z] := by rw [hjs, if_neg (by grind)]
      refine rgN [1,2,3,9,10,11] (fun _ h => h) ?_
      intro k hk; simp -dsimp [go_sem, -decide_eq_true_eq, -decide_eq_false_iff_not, hy, hy3, htk]
      repeat' first | apply And.intro | refine hk _ ?_ | intro hg | omega | exact True.intro
      all_goals clear hk k
      try (refine AW.rename (nd := ?nd_4) 30 34 ?h1_4 ?h2_4 ?h4_4 ?kk_4; (case h1_4 => exact rfl); (case h2_4 => simp [go_sem]); (case h4_4 => simp [go_sem]))
      refine rgK ?_
      intro k hk; simp -dsimp [go_sem, -decide_eq_true_eq, -decide_eq_false_iff_not, hy, hy3, htk]
      repeat' first | apply And.intro | refine hk _ ?_ | intro hg | omega | exact True.intro
      all_goals clear hk k
      show ∃ _, _
      have hww := wrapi hlt (by omega)
      refine ⟨i + 1, by omega, by omega, Less.of rfl (by simp [go_sem, hww, hks]) (by simp [go_sem, hks])⟩)))
 ·intro hc; try simp at hc
  all_goals (
   refine AW.exitN (fun _ h => h) ?_
   refine AW.seq ?_
   obtain rfl : i = t.ks.length := by first | omega | (simp at hc; omega)
   rw [jn_end t]
   obtain ⟨J, hJ⟩ : ∃ J, joinF t.s (t.ks.map plainT) = J := ⟨_, rfl⟩
   rw [hJ]
   refine AW.freeze 3 7 (l' := J.map TB.ro) rfl rfl rfl (by simp) (by simp [go_sem]) (by simp [go_sem]) ?_
   rcases J with _ | ⟨o, _ | ⟨o2, r⟩⟩
   all_goals (
    refine rg [1,2,3,44] ?_
    intro k hk; simp +contextual -dsimp (maxSteps := 2000000) [go_sem, -decide_eq_true_eq, -decide_eq_false_iff_not]
    repeat' first | apply And.intro | refine hk _ ?_ | (intro hg; try simp only [decide_eq_true_eq, decide_eq_false_iff_not] at hg) | omega | exact True.intro
    all_goals clear hk k
    all_goals (
     refine AW.cond rfl ?_ ?_
     ·intro hc; try simp at hc
      all_goals (
       refine rgA [1,2,6] ?_
       refine AW.seq ?_
       refine rgA [1,2,6,52] ?_
       refine AW.cond rfl ?_ ?_
       ·intro hc; try simp at hc
        all_goals (
         refine rgNA [2,6] (fun _ h => h) ?_
         refine rgA [2] ?_
         refine rt ?_
         first | (exfalso; omega) | (rw [plainT_eq, hJ]; simp_all [go_sem, Try.results29, soleF, condB]))
       ·intro hc; try simp at hc
        all_goals (
         refine AW.skipN (fun _ h => h) ?_
         refine rgA [2] ?_
         refine rt ?_
         first | (exfalso; omega) | (rw [plainT_eq, hJ]; simp_all [go_sem, Try.results29, soleF, condB])))
     ·intro hc; try simp at hc
      all_goals (
       refine AW.skipN (fun _ h => h) ?_
       refine rgA [2] ?_
       refine rt ?_
       first | (exfalso; omega) | (rw [plainT_eq, hJ]; simp_all [go_sem, Try.results29, soleF, condB])))))

theorem dc_plain_impl : ∀ t : TB, t.cnt ≤ 24 → DC Try.prog 29 [.agg (rowT t)] (.agg (rowT (plainT t))) [] := by
 refine TB.ind fun t ih => ?_
 intro hn
 exact dc_impl_block_plain t ih hn

end Go.AM
namespace Go.AM
open Go.Proofs

/-- laws.markText -/
theorem dc_laws_markText (k : Int) (hk : k ≤ 4611686018427387904) : DC Try.prog 32 [.int .i64 k] (.str (mt k)) [] := by
 refine DC.intro tiOk Try.func32 rfl rfl rfl rfl rfl rfl rfl rfl [] ?_
 refine rgA [0] ?_
 refine AW.seq ?_
 refine rgA [0,5] ?_
 refine AW.cond rfl ?_ ?_
 ·intro hc; try simp at hc
  all_goals (
   refine rgA [2] ?_
   refine rt ?_
   first | (simp [go_sem, Try.results32, mt, *]; done) | (have hz := digs_zero (n := k'.toNat) (k := k') (acc := acc) (by simpa using hc); have hk0 : ¬ k ≤ 0 := (by omega); simp [go_sem, Try.results32, mt, hk0, h4, hz]))
 ·intro hc; try simp at hc
  all_goals (
   refine AW.skipN (fun _ h => h) ?_
   refine rgA [0,3] ?_
   refine AW.seq ?_
   refine AW.block ?_
   refine AW.loopI (fun i : Int × List UInt8 => ⟨20, [(0, .int .i64 i.1), (3, .str i.2)], []⟩) (fun i => 0 ≤ i.1 ∧ i.1 * 10 ^ i.2.length ≤ 4611686018427387904 ∧ i.2.length ≤ 19 ∧ digs k.toNat k [] = digs i.1.toNat i.1 i.2) (fun i => i.1.toNat) ((k, [])) (by refine ⟨by omega, by simp; omega, by simp, rfl⟩) (Less.of rfl (by simp [go_sem]) (by simp [go_sem])) ?_
   rintro ⟨k', acc⟩ ⟨h1, h2, h3, h4⟩
   simp only at h1 h2 h3 h4
   refine AW.seq ?_
   refine rgA [0,3,7] ?_
   refine AW.cond rfl ?_ ?_
   ·intro hc; try simp at hc
    all_goals (
     have hlt : 0 < k' := by simpa using hc
     have htm : k'.tmod 10 = k' % 10 := Int.tmod_eq_emod_of_nonneg h1
     have htd : k'.tdiv 10 = k' / 10 := Int.tdiv_eq_ediv_of_nonneg h1
     have hkb := mt_big hlt h2
     have hw1 : IntKind.wrap .i64 (48 + k' % 10) = 48 + k' % 10 := wrap64 (by omega) (by omega)
     have hw2 : IntKind.wrap .i64 (k' / 10) = k' / 10 := wrap64 (by omega) (by omega)
     obtain ⟨hs1, hs2⟩ := mt_step hlt h2
     refine AW.skipN (fun _ h => h) ?_
     refine AW.block ?_
     refine rg [0,3] ?_
     intro k hk; simp -dsimp (maxSteps := 2000000) [go_sem, -decide_eq_true_eq, -decide_eq_false_iff_not, htm, htd, hw1, hw2]
     repeat' first | apply And.intro | refine hk _ ?_ | intro hg | omega | exact True.intro
     all_goals clear hk k
     refine rgK ?_
     intro k hk; simp -dsimp [go_sem, -decide_eq_true_eq, -decide_eq_false_iff_not, htm, htd, hw1, hw2]
     repeat' first | apply And.intro | refine hk _ ?_ | intro hg | omega | exact True.intro
     all_goals clear hk k
     show ∃ _, _
     refine ⟨(k' / 10, b8 (48 + k' % 10) :: acc), ⟨by simp only; omega, by simpa using hs2, by simp; omega, ?_⟩, by simp only; omega, Less.of rfl (by simp [go_sem, hw2]) (by simp [go_sem])⟩
     rw [h4, digs_step hlt])
   ·intro hc; try simp at hc
    all_goals (
     refine AW.exitN (fun _ h => h) ?_
     refine rgA [2] ?_
     refine rt ?_
     first | (simp [go_sem, Try.results32, mt, *]; done) | (have hz := digs_zero (n := k'.toNat) (k := k') (acc := acc) (by simpa using hc); have hk0 : ¬ k ≤ 0 := (by omega); simp [go_sem, Try.results32, mt, hk0, h4, hz])))

end Go.AM
namespace Go.AM
open Go.Proofs

/-- slices.Clone[[]impl.Node,impl.Node] -/
theorem dc_CloneN_n  : DC Try.prog 60 [.nils] (.isl 4 []) [] := by
 refine DC.intro tiOk Try.func60 rfl rfl rfl rfl rfl rfl rfl rfl [] ?_
 refine rgA [0] ?_
 refine AW.seq ?_
 refine rgA [0,4] ?_
 refine AW.cond rfl ?_ ?_
 ·intro hc; try simp at hc
  all_goals try (exfalso; simp at hc; done)
  all_goals (
   refine rgA [2] ?_
   refine rt ?_
   simp [go_sem, Try.results60])
 ·intro hc; try simp at hc
  all_goals try (exfalso; simp at hc; done)
  all_goals (
   refine AW.skipN (fun _ h => h) ?_
   refine rgA [2] ?_
   refine rt ?_
   simp [go_sem, Try.results60])

/-- slices.Clone[[]impl.Node,impl.Node] -/
theorem dc_CloneN_e  : DC Try.prog 60 [.nel] (.isl 4 []) [] := by
 refine DC.intro tiOk Try.func60 rfl rfl rfl rfl rfl rfl rfl rfl [1000] ?_
 refine rgA [0] ?_
 refine AW.seq ?_
 refine rgA [0,4] ?_
 refine AW.cond rfl ?_ ?_
 ·intro hc; try simp at hc
  all_goals try (exfalso; simp at hc; done)
  all_goals (
   refine rgA [2] ?_
   refine rt ?_
   simp [go_sem, Try.results60])
 ·intro hc; try simp at hc
  all_goals try (exfalso; simp at hc; done)
  all_goals (
   refine AW.skipN (fun _ h => h) ?_
   refine AW.slotLe (x := ?x_1) 0 (.isl 4 []) ?h1_1 ?h2_1 ?kk_1
   (case h1_1 => exact rfl)
   (case h2_1 => simp [go_sem])
   refine rgA [2] ?_
   refine rt ?_
   simp [go_sem, Try.results60])
theorem dc_CloneN_nil : DC Try.prog 60 [.isl 4 []] (.isl 4 []) [] := DC.empty dc_CloneN_n dc_CloneN_e

/-- slices.Clone[[]impl.Node,impl.Node] -/
theorem dc_CloneN_c (x : TNode) (r : List TNode) (hb : r.length + 1 ≤ 1048576) : DC Try.prog 60 [.isl 4 ((x :: r).map TNode.ro)] (.osl 4 ((x :: r).map TNode.ro)) [] := by
 refine DC.intro tiOk Try.func60 rfl rfl rfl rfl rfl rfl rfl rfl [1000] ?_
 refine rgA [0] ?_
 refine AW.seq ?_
 refine rgA [0,4] ?_
 refine AW.cond rfl ?_ ?_
 ·intro hc; try simp at hc
  all_goals try (exfalso; simp at hc; done)
  all_goals (
   refine rgA [2] ?_
   refine rt ?_
   simp [go_sem, Try.results60])
 ·intro hc; try simp at hc
  all_goals try (exfalso; simp at hc; done)
  all_goals (
   refine AW.skipN (fun _ h => h) ?_
   refine rgA [2] ?_
   refine rt ?_
   simp [go_sem, Try.results60])
theorem dc_CloneN (l : List TNode) (hb : l.length ≤ 1048576) : DC Try.prog 60 [.isl 4 (l.map TNode.ro)] (owc 4 (l.map TNode.ro)) [] := by
  cases l with
  | nil => exact dc_CloneN_nil
  | cons x r => exact dc_CloneN_c x r hb

end Go.AM
namespace Go.AM
open Go.Proofs

set_option maxHeartbeats 4000000 in
/-- (impl.block).steps -/
theorem dc_impl_block_steps (ps : List TStep) (t : TB) (par : Int) (hI : ∀ k ∈ t.ks, ∀ (qs : List TStep) (q : Int), qs.length + k.cnt ≤ 24 → DC Try.prog 30 [.agg (rowT k), .osl 6 (qs.map TStep.oc), .int .i64 q] (.osl 6 ((qs ++ stepsT qs.length q k).map TStep.oc)) []) (hn : ps.length + t.cnt ≤ 24) (hc0 : t.s.cond.length ≤ 1048576) (he0 : t.s.expr.length ≤ 1048576) : DC Try.prog 30 [.agg (rowT t), .osl 6 (ps.map TStep.oc), .int .i64 par] (.osl 6 ((ps ++ stepsT ps.length par t).map TStep.oc)) [] := by
 have htc := t.cnt_eq
 have hkl := TB.cntL_len t.ks
 have hps : (ps.map TStep.oc).take ps.length = ps.map TStep.oc := List.take_of_length_le (by rw [List.length_map]; exact Nat.le_refl _)
 refine DC.intro tiOk Try.func30 rfl rfl rfl rfl rfl rfl rfl rfl [1000] ?_
 refine rg [1,2,3] ?_
 intro k hk; simp -dsimp [go_sem, -decide_eq_true_eq, -decide_eq_false_iff_not, hps]
 repeat' first | apply And.intro | refine hk _ ?_ | intro hg | omega | exact True.intro
 all_goals clear hk k
 refine rg [1,2,3,7] ?_
 intro k hk; simp -dsimp [go_sem, -decide_eq_true_eq, -decide_eq_false_iff_not, hps]
 repeat' first | apply And.intro | refine hk _ ?_ | intro hg | omega | exact True.intro
 all_goals clear hk k
 refine rg [1,2,3,7,8] ?_
 intro k hk; simp -dsimp [go_sem, -decide_eq_true_eq, -decide_eq_false_iff_not, hps]
 repeat' first | apply And.intro | refine hk _ ?_ | intro hg | omega | exact True.intro
 all_goals clear hk k
 rcases ccases t.s.cond with ⟨hoc, hoc0⟩ | ⟨hoc, hoc0⟩ <;> rcases ccases t.s.expr with ⟨hoe, hoe0⟩ | ⟨hoe, hoe0⟩
 all_goals (
  refine rg0 [1,3,7,8] ?_
  intro k hk; simp -dsimp (maxSteps := 2000000) [go_sem, -decide_eq_true_eq, -decide_eq_false_iff_not, hps, hoc, hoe]
  repeat' first | (refine Chk.keys ?_; simp only [go_sem, List.map_cons, List.map_nil, List.flatMap_cons, List.flatMap_nil, List.flatMap_append, List.append_nil, List.nil_append, List.cons_append]; decide +kernel) | apply And.intro | refine hk _ ?_ | intro hg | ((first | refine CallK.intro (dc_CloneN t.s.cond hc0) ?_ | refine CallK.intro (dc_CloneN t.s.expr he0) ?_); simp -dsimp (maxSteps := 2000000) [go_sem, -decide_eq_true_eq, -decide_eq_false_iff_not, hps, hoc, hoe]) | omega | exact True.intro
  all_goals clear hk k
  refine rg0 [1,3,7] ?_
  intro k hk; simp -dsimp [go_sem, -decide_eq_true_eq, -decide_eq_false_iff_not, hps, hoc, hoe]
  repeat' first | apply And.intro | refine hk _ ?_ | intro hg | omega | exact True.intro
  all_goals clear hk k
  refine AW.seq ?_
  try (guard_hyp hoc0 : 0 < t.s.cond.length; refine AW.fold 28 ps.length 4 1018 rfl (by first | rfl | exact app_here (by simp)) rfl rfl (by simp) (by decide) (by simp [go_sem]) ?_)
  try (guard_hyp hoe0 : 0 < t.s.expr.length; refine AW.fold 28 ps.length 5 1021 rfl (by first | rfl | exact app_here (by simp) | exact node_here (by simp)) rfl rfl (by simp) (by decide) (by simp [go_sem]) ?_)
  refine rg [1,7,30,31,32] ?_
  intro k hk; simp -dsimp [go_sem, -decide_eq_true_eq, -decide_eq_false_iff_not, hps, hoc, hoe]
  repeat' first | apply And.intro | refine hk _ ?_ | intro hg | omega | exact True.intro
  all_goals clear hk k
  refine AW.block ?_
  refine AW.rename 28 1039 rfl (by simp [go_sem]) (by simp [go_sem]) ?_
  refine AW.loopI (fun i : Nat => ⟨42, [(1, .sl 1039 6 0 (stK ps par t i).length), (7, .int .i64 ps.length), (30, .isl 7 (t.ks.map TB.ro)), (31, .int .i64 t.ks.length), (32, .int .i64 (i : Nat))], [(1039, some ⟨6, (stK ps par t i).map TStep.oc⟩)]⟩) (fun i => i ≤ t.ks.length) (fun i => t.ks.length - i) (0) (Nat.zero_le _) (Less.of rfl (by simp [go_sem, stK_zero]) (by simp [go_sem, stK_zero, TStep.oc, hoc, hoe, List.set_append])) ?_
  rintro i hi
  refine AW.rename 1039 28 rfl (by simp [go_sem]) (by simp [go_sem]) ?_
  refine rg [1,7,30,31,32,33] ?_
  intro k hk; simp -dsimp [go_sem, -decide_eq_true_eq, -decide_eq_false_iff_not, hps]
  repeat' first | apply And.intro | refine hk _ ?_ | intro hg | omega | exact True.intro
  all_goals clear hk k
  refine AW.seq ?_
  refine AW.cond rfl ?_ ?_
  ·intro hc; try simp at hc
   all_goals (
    have hlt : i < t.ks.length := by first | assumption | omega
    obtain ⟨y, hy⟩ := at_some (l := t.ks) hlt
    have hy3 : ∀ h, t.ks[i]'h = y := fun h => by have h9 := hy; rw [List.getElem?_eq_getElem h] at h9; exact Option.some.inj h9
    have hks := stK_succ ps par hy
    have hsl := stK_len ps par t i
    have hs2 := stK_len ps par t (i + 1)
    have hIy := hI y (List.mem_of_getElem? hy) (stK ps par t i) (ps.length : Int) (by rw [hks, List.length_append, stepsT_len] at hs2; omega)
    rw [← hks] at hIy
    refine AW.skipN (fun _ h => h) ?_
    refine AW.seq ?_
    refine AW.block ?_
    refine rg [1,7,10,30,31,32] ?_
    intro k hk; simp -dsimp [go_sem, -decide_eq_true_eq, -decide_eq_false_iff_not, hps, hy, hy3]
    repeat' first | apply And.intro | refine hk _ ?_ | intro hg | omega | exact True.intro
    all_goals clear hk k
    refine AW.regN tiOk (fun _ => [1]) [1,7,30,31,32] (fun _ h => h) ?_
    intro k hk; simp -dsimp (maxSteps := 2000000) [go_sem, -decide_eq_true_eq, -decide_eq_false_iff_not, hps, hy, hy3]
    repeat' first | apply And.intro | refine hk _ ?_ | intro hg | (refine CallK.intro (hIy) ?_; simp -dsimp (maxSteps := 2000000) [go_sem, -decide_eq_true_eq, -decide_eq_false_iff_not, hps, hy, hy3]) | omega | exact True.intro
    all_goals clear hk k
    refine rgK ?_
    intro k hk; simp -dsimp [go_sem, -decide_eq_true_eq, -decide_eq_false_iff_not, hps, hy, hy3]
    repeat' first | apply And.intro | refine hk _ ?_ | intro hg | omega | exact True.intro
    all_goals clear hk k
    show ∃ _, _
    have hww := wrapi hlt (by omega)
    refine ⟨i + 1, by omega, by omega, Less.of rfl (by simp [go_sem, hww]) (by simp [go_sem])⟩)
  ·intro hc; try simp at hc
   all_goals (
    refine AW.exitN (fun _ h => h) ?_
    refine rg [6] ?_
    intro k hk; simp -dsimp [go_sem, -decide_eq_true_eq, -decide_eq_false_iff_not, hps]
    repeat' first | apply And.intro | refine hk _ ?_ | intro hg | omega | exact True.intro
    all_goals clear hk k
    refine rt ?_
    obtain rfl : i = t.ks.length := (by first | omega | (simp at hc; omega))
    simp [go_sem, Try.results30, stK_end]))

set_option maxHeartbeats 4000000 in
/-- (impl.block).steps -/
theorem dc_impl_block_steps_n (t : TB) (par : Int) (hI : ∀ k ∈ t.ks, ∀ (qs : List TStep) (q : Int), qs.length + k.cnt ≤ 24 → DC Try.prog 30 [.agg (rowT k), .osl 6 (qs.map TStep.oc), .int .i64 q] (.osl 6 ((qs ++ stepsT qs.length q k).map TStep.oc)) []) (hn : ([] : List TStep).length + t.cnt ≤ 24) (hc0 : t.s.cond.length ≤ 1048576) (he0 : t.s.expr.length ≤ 1048576) : DC Try.prog 30 [.agg (rowT t), .nils, .int .i64 par] (.osl 6 ((([] : List TStep) ++ stepsT ([] : List TStep).length par t).map TStep.oc)) [] := by
 have htc := t.cnt_eq
 have hkl := TB.cntL_len t.ks
 have hps : (([] : List TStep).map TStep.oc).take ([] : List TStep).length = ([] : List TStep).map TStep.oc := List.take_of_length_le (by rw [List.length_map]; exact Nat.le_refl _)
 refine DC.intro tiOk Try.func30 rfl rfl rfl rfl rfl rfl rfl rfl [1000] ?_
 refine rg [1,2,3] ?_
 intro k hk; simp -dsimp [go_sem, -decide_eq_true_eq, -decide_eq_false_iff_not, hps]
 repeat' first | apply And.intro | refine hk _ ?_ | intro hg | omega | exact True.intro
 all_goals clear hk k
 refine rg [1,2,3,7] ?_
 intro k hk; simp -dsimp [go_sem, -decide_eq_true_eq, -decide_eq_false_iff_not, hps]
 repeat' first | apply And.intro | refine hk _ ?_ | intro hg | omega | exact True.intro
 all_goals clear hk k
 refine rg [1,2,3,7,8] ?_
 intro k hk; simp -dsimp [go_sem, -decide_eq_true_eq, -decide_eq_false_iff_not, hps]
 repeat' first | apply And.intro | refine hk _ ?_ | intro hg | omega | exact True.intro
 all_goals clear hk k
 rcases ccases t.s.cond with ⟨hoc, hoc0⟩ | ⟨hoc, hoc0⟩ <;> rcases ccases t.s.expr with ⟨hoe, hoe0⟩ | ⟨hoe, hoe0⟩
 all_goals (
  refine rg0 [1,3,7,8] ?_
  intro k hk; simp -dsimp (maxSteps := 2000000) [go_sem, -decide_eq_true_eq, -decide_eq_false_iff_not, hps, hoc, hoe]
  repeat' first | (refine Chk.keys ?_; simp only [go_sem, List.map_cons, List.map_nil, List.flatMap_cons, List.flatMap_nil, List.flatMap_append, List.append_nil, List.nil_append, List.cons_append]; decide +kernel) | apply And.intro | refine hk _ ?_ | intro hg | ((first | refine CallK.intro (dc_CloneN t.s.cond hc0) ?_ | refine CallK.intro (dc_CloneN t.s.expr he0) ?_); simp -dsimp (maxSteps := 2000000) [go_sem, -decide_eq_true_eq, -decide_eq_false_iff_not, hps, hoc, hoe]) | omega | exact True.intro
  all_goals clear hk k
  refine rg0 [1,3,7] ?_
  intro k hk; simp -dsimp [go_sem, -decide_eq_true_eq, -decide_eq_false_iff_not, hps, hoc, hoe]
  repeat' first | apply And.intro | refine hk _ ?_ | intro hg | omega | exact True.intro
  all_goals clear hk k
  refine AW.seq ?_
  try (guard_hyp hoc0 : 0 < t.s.cond.length; refine AW.fold 28 ([] : List TStep).length 4 1018 rfl (by first | rfl | exact app_here (by simp)) rfl rfl (by simp) (by decide) (by simp [go_sem]) ?_)
  try (guard_hyp hoe0 : 0 < t.s.expr.length; refine AW.fold 28 ([] : List TStep).length 5 1021 rfl (by first | rfl | exact app_here (by simp) | exact node_here (by simp)) rfl rfl (by simp) (by decide) (by simp [go_sem]) ?_)
  refine rg [1,7,30,31,32] ?_
  intro k hk; simp -dsimp [go_sem, -decide_eq_true_eq, -decide_eq_false_iff_not, hps, hoc, hoe]
  repeat' first | apply And.intro | refine hk _ ?_ | intro hg | omega | exact True.intro
  all_goals clear hk k
  refine AW.block ?_
  refine AW.rename 28 1039 rfl (by simp [go_sem]) (by simp [go_sem]) ?_
  refine AW.loopI (fun i : Nat => ⟨42, [(1, .sl 1039 6 0 (stK ([] : List TStep) par t i).length), (7, .int .i64 ([] : List TStep).length), (30, .isl 7 (t.ks.map TB.ro)), (31, .int .i64 t.ks.length), (32, .int .i64 (i : Nat))], [(1039, some ⟨6, (stK ([] : List TStep) par t i).map TStep.oc⟩)]⟩) (fun i => i ≤ t.ks.length) (fun i => t.ks.length - i) (0) (Nat.zero_le _) (Less.of rfl (by simp [go_sem, stK_zero]) (by simp [go_sem, stK_zero, TStep.oc, hoc, hoe, List.set_append])) ?_
  rintro i hi
  refine AW.rename 1039 28 rfl (by simp [go_sem]) (by simp [go_sem]) ?_
  refine rg [1,7,30,31,32,33] ?_
  intro k hk; simp -dsimp [go_sem, -decide_eq_true_eq, -decide_eq_false_iff_not, hps]
  repeat' first | apply And.intro | refine hk _ ?_ | intro hg | omega | exact True.intro
  all_goals clear hk k
  refine AW.seq ?_
  refine AW.cond rfl ?_ ?_
  ·intro hc; try simp at hc
   all_goals (
    have hlt : i < t.ks.length := by first | assumption | omega
    obtain ⟨y, hy⟩ := at_some (l := t.ks) hlt
    have hy3 : ∀ h, t.ks[i]'h = y := fun h => by have h9 := hy; rw [List.getElem?_eq_getElem h] at h9; exact Option.some.inj h9
    have hks := stK_succ ([] : List TStep) par hy
    have hsl := stK_len ([] : List TStep) par t i
    have hs2 := stK_len ([] : List TStep) par t (i + 1)
    have hIy := hI y (List.mem_of_getElem? hy) (stK ([] : List TStep) par t i) (([] : List TStep).length : Int) (by rw [hks, List.length_append, stepsT_len] at hs2; omega)
    rw [← hks] at hIy
    refine AW.skipN (fun _ h => h) ?_
    refine AW.seq ?_
    refine AW.block ?_
    refine rg [1,7,10,30,31,32] ?_
    intro k hk; simp -dsimp [go_sem, -decide_eq_true_eq, -decide_eq_false_iff_not, hps, hy, hy3]
    repeat' first | apply And.intro | refine hk _ ?_ | intro hg | omega | exact True.intro
    all_goals clear hk k
    refine AW.regN tiOk (fun _ => [1]) [1,7,30,31,32] (fun _ h => h) ?_
    intro k hk; simp -dsimp (maxSteps := 2000000) [go_sem, -decide_eq_true_eq, -decide_eq_false_iff_not, hps, hy, hy3]
    repeat' first | apply And.intro | refine hk _ ?_ | intro hg | (refine CallK.intro (hIy) ?_; simp -dsimp (maxSteps := 2000000) [go_sem, -decide_eq_true_eq, -decide_eq_false_iff_not, hps, hy, hy3]) | omega | exact True.intro
    all_goals clear hk k
    refine rgK ?_
    intro k hk; simp -dsimp [go_sem, -decide_eq_true_eq, -decide_eq_false_iff_not, hps, hy, hy3]
    repeat' first | apply And.intro | refine hk _ ?_ | intro hg | omega | exact True.intro
    all_goals clear hk k
    show ∃ _, _
    have hww := wrapi hlt (by omega)
    refine ⟨i + 1, by omega, by omega, Less.of rfl (by simp [go_sem, hww]) (by simp [go_sem])⟩)
  ·intro hc; try simp at hc
   all_goals (
    refine AW.exitN (fun _ h => h) ?_
    refine rg [6] ?_
    intro k hk; simp -dsimp [go_sem, -decide_eq_true_eq, -decide_eq_false_iff_not, hps]
    repeat' first | apply And.intro | refine hk _ ?_ | intro hg | omega | exact True.intro
    all_goals clear hk k
    refine rt ?_
    obtain rfl : i = t.ks.length := (by first | omega | (simp at hc; omega))
    simp [go_sem, Try.results30, stK_end]))

theorem dc_steps_impl : ∀ (t : TB), t.all (fun s => s.cond.length ≤ 1048576 ∧ s.expr.length ≤ 1048576) → ∀ (ps : List TStep) (q : Int), ps.length + t.cnt ≤ 24 → DC Try.prog 30 [.agg (rowT t), .osl 6 (ps.map TStep.oc), .int .i64 q] (.osl 6 ((ps ++ stepsT ps.length q t).map TStep.oc)) [] := by
 refine TB.ind fun t ih => ?_
 intro hz ps q hn
 have h := TB.all_iff.1 hz
 exact dc_impl_block_steps ps t q (fun k hk => ih k hk (h.2 k hk)) hn h.1.1 h.1.2
theorem dc_steps_impl_n (t : TB) (hz : t.all fun s => s.cond.length ≤ 1048576 ∧ s.expr.length ≤ 1048576) (q : Int) (hn : t.cnt ≤ 24) : DC Try.prog 30 [.agg (rowT t), .nils, .int .i64 q] (.osl 6 ((stepsT 0 q t).map TStep.oc)) [] := by
 have h := TB.all_iff.1 hz
 exact dc_impl_block_steps_n t q (fun k hk => dc_steps_impl k (h.2 k hk)) (by simp; omega) h.1.1 h.1.2

end Go.AM
namespace Go.AM
open Go.Proofs

/-- impl.wantsCond -/
theorem dc_impl_wantsCond_z (p : List TStep) (ho : StepsOk p) : DC Try.prog 97 [.isl 6 (p.map TStep.ro), .int .i64 0] (.bool (wants p 0)) [] := by
 have hi : 0 < p.length := by have := ho.len; omega
 have hlen := ho.len
 obtain ⟨x, hx⟩ := at_some hi
 have hxS := nS_at hx
 have hx0 := ho.par0
 rw [hxS] at hx0
 refine DC.intro tiOk Try.func97 rfl rfl rfl rfl rfl rfl rfl rfl [] ?_
 refine rg [0,1] ?_
 intro k hk; simp -dsimp [go_sem, -decide_eq_true_eq, -decide_eq_false_iff_not, hx, hx0]
 repeat' first | apply And.intro | refine hk _ ?_ | intro hg | omega | exact True.intro
 all_goals clear hk k
 refine rg [0,1,5] ?_
 intro k hk; simp -dsimp [go_sem, -decide_eq_true_eq, -decide_eq_false_iff_not, hx, hx0]
 repeat' first | apply And.intro | refine hk _ ?_ | intro hg | omega | exact True.intro
 all_goals clear hk k
 refine AW.seq ?_
 refine rg [0,1,5,21] ?_
 intro k hk; simp +contextual -dsimp (maxSteps := 2000000) [go_sem, -decide_eq_true_eq, -decide_eq_false_iff_not, hx, hx0]
 repeat' first | apply And.intro | refine hk _ ?_ | (intro hg; try simp only [decide_eq_true_eq, decide_eq_false_iff_not] at hg) | omega | exact True.intro
 all_goals clear hk k
 all_goals (
  refine AW.cond rfl ?_ ?_
  ·intro hc; try simp at hc
   all_goals try (exfalso; first | omega | (simp at hc; done); done)
   all_goals (
    refine rg [4] ?_
    intro k hk; simp -dsimp [go_sem, -decide_eq_true_eq, -decide_eq_false_iff_not, hx, hx0]
    repeat' first | apply And.intro | refine hk _ ?_ | intro hg | omega | exact True.intro
    all_goals clear hk k
    refine rt ?_
    simp [go_sem, Try.results97, wants])
  ·intro hc; try simp at hc
   all_goals try (exfalso; first | omega | (simp at hc; done); done)
   all_goals (
    refine AW.skipN (fun _ h => h) ?_
    refine rg [1,6] ?_
    intro k hk; simp -dsimp (maxSteps := 2000000) [go_sem, -decide_eq_true_eq, -decide_eq_false_iff_not, hx, hx0]
    repeat' first | apply And.intro | refine hk _ ?_ | intro hg | (refine CallK.intro (fail) ?_; simp -dsimp (maxSteps := 2000000) [go_sem, -decide_eq_true_eq, -decide_eq_false_iff_not, hx, hx0]) | omega | exact True.intro
    all_goals clear hk k
    refine rg [4] ?_
    intro k hk; simp -dsimp (maxSteps := 2000000) [go_sem, -decide_eq_true_eq, -decide_eq_false_iff_not, hx, hx0]
    repeat' first | apply And.intro | refine hk _ ?_ | intro hg | omega | exact True.intro
    all_goals clear hk k
    refine rt ?_
    simp [go_sem, Try.results97, wants]))

/-- impl.wantsCond -/
theorem dc_impl_wantsCond_s (p : List TStep) (ho : StepsOk p) (i : Nat) (hi : i < p.length) (hi0 : 0 < i) : DC Try.prog 97 [.isl 6 (p.map TStep.ro), .int .i64 (i : Nat)] (.bool (wants p i)) [] := by
 have hlen := ho.len
 obtain ⟨x, hx⟩ := at_some hi
 have hxS := nS_at hx
 have hpi := ho.parI hi0 hi
 rw [hxS] at hpi
 obtain ⟨a, ha⟩ : ∃ a : Nat, x.par = a := ⟨_, (Int.toNat_of_nonneg hpi.1).symm⟩
 obtain ⟨y, hy⟩ := at_some (l := p) (show a < p.length by omega)
 have hyS := nS_at hy
 have hdi : decide ((i : Int) = 0) = false := decide_eq_false (by omega)
 have hdi2 : ((i : Int) = 0) = False := eq_false (by omega)
 have hdj : (i = 0) = False := eq_false (by omega)
 have hkn := ho.kids_ne hi0 hi
 rw [hxS, ha] at hkn
 have hkl := last_at hkn
 have hkm := kids_len p (a : Int)
 have hkp := List.length_pos_iff.2 hkn
 have hwl : IntKind.wrap .i64 (((kids p a).length : Int) - 1) = ((kids p a).length : Int) - 1 := wrap64 (by omega) (by omega)
 have hwt : (((kids p a).length : Int) - 1).toNat = (kids p a).length - 1 := by omega
 refine DC.intro tiOk Try.func97 rfl rfl rfl rfl rfl rfl rfl rfl [] ?_
 refine rg [0,1] ?_
 intro k hk; simp -dsimp [go_sem, -decide_eq_true_eq, -decide_eq_false_iff_not, hx, hy, ha, hdi, hdi2]
 repeat' first | apply And.intro | refine hk _ ?_ | intro hg | omega | exact True.intro
 all_goals clear hk k
 refine rg [0,1,5] ?_
 intro k hk; simp -dsimp [go_sem, -decide_eq_true_eq, -decide_eq_false_iff_not, hx, hy, ha, hdi, hdi2]
 repeat' first | apply And.intro | refine hk _ ?_ | intro hg | omega | exact True.intro
 all_goals clear hk k
 refine AW.seq ?_
 refine rg [0,1,5,21] ?_
 intro k hk; simp +contextual -dsimp (maxSteps := 2000000) [go_sem, -decide_eq_true_eq, -decide_eq_false_iff_not, hx, hy, ha, hdi, hdi2]
 repeat' first | apply And.intro | refine hk _ ?_ | (intro hg; try simp only [decide_eq_true_eq, decide_eq_false_iff_not] at hg) | omega | exact True.intro
 all_goals clear hk k
 all_goals (
  refine AW.cond rfl ?_ ?_
  ·intro hc; try simp at hc
   all_goals try (exfalso; omega; done)
   all_goals (
    refine rg [4] ?_
    intro k hk; simp -dsimp [go_sem, -decide_eq_true_eq, -decide_eq_false_iff_not, hx, hy, ha, hdi, hdi2]
    repeat' first | apply And.intro | refine hk _ ?_ | intro hg | omega | exact True.intro
    all_goals clear hk k
    refine rt ?_
    simp [go_sem, Try.results97, wants, hxS, hyS, ha, hdj, hdi2] <;> grind)
  ·intro hc; try simp at hc
   all_goals try (exfalso; omega; done)
   all_goals (
    refine AW.skipN (fun _ h => h) ?_
    refine rg [1,6] ?_
    intro k hk; simp -dsimp (maxSteps := 2000000) [go_sem, -decide_eq_true_eq, -decide_eq_false_iff_not, hx, hy, ha, hdi, hdi2]
    repeat' first | apply And.intro | refine hk _ ?_ | intro hg | (refine CallK.intro (dc_impl_kids p (a : Int) (by omega)) ?_; simp -dsimp (maxSteps := 2000000) [go_sem, -decide_eq_true_eq, -decide_eq_false_iff_not, hx, hy, ha, hdi, hdi2]) | omega | exact True.intro
    all_goals clear hk k
    refine rg [4] ?_
    intro k hk; simp -dsimp (maxSteps := 2000000) [go_sem, -decide_eq_true_eq, -decide_eq_false_iff_not, hx, hy, ha, hdi, hdi2, hkl, hwl, hwt]
    repeat' first | apply And.intro | refine hk _ ?_ | intro hg | omega | exact True.intro
    all_goals clear hk k
    refine rt ?_
    simp [go_sem, Try.results97, wants, hxS, hyS, ha, hdj, hdi2] <;> grind))
theorem dc_impl_wantsCond (p : List TStep) (ho : StepsOk p) (i : Nat) (hi : i < p.length) : DC Try.prog 97 [.isl 6 (p.map TStep.ro), .int .i64 (i : Nat)] (.bool (wants p i)) [] := by
  rcases Nat.eq_zero_or_pos i with h | h
  · subst h; exact dc_impl_wantsCond_z p ho
  · exact dc_impl_wantsCond_s p ho i hi h

/-- spec.l4Needs -/
theorem dc_spec_l4Needs_z (p : List TStep) (ho : StepsOk p) : DC Try.prog 88 [.isl 6 (p.map TStep.ro), .int .i64 0] (.bool (wants p 0)) [] := by
 have hi : 0 < p.length := by have := ho.len; omega
 have hlen := ho.len
 obtain ⟨x, hx⟩ := at_some hi
 have hxS := nS_at hx
 have hx0 := ho.par0
 rw [hxS] at hx0
 refine DC.intro tiOk Try.func88 rfl rfl rfl rfl rfl rfl rfl rfl [] ?_
 refine rg [0,1] ?_
 intro k hk; simp -dsimp [go_sem, -decide_eq_true_eq, -decide_eq_false_iff_not, hx, hx0]
 repeat' first | apply And.intro | refine hk _ ?_ | intro hg | omega | exact True.intro
 all_goals clear hk k
 refine rg [0,1,5] ?_
 intro k hk; simp -dsimp [go_sem, -decide_eq_true_eq, -decide_eq_false_iff_not, hx, hx0]
 repeat' first | apply And.intro | refine hk _ ?_ | intro hg | omega | exact True.intro
 all_goals clear hk k
 refine AW.seq ?_
 refine rg [0,1,5,21] ?_
 intro k hk; simp +contextual -dsimp (maxSteps := 2000000) [go_sem, -decide_eq_true_eq, -decide_eq_false_iff_not, hx, hx0]
 repeat' first | apply And.intro | refine hk _ ?_ | (intro hg; try simp only [decide_eq_true_eq, decide_eq_false_iff_not] at hg) | omega | exact True.intro
 all_goals clear hk k
 all_goals (
  refine AW.cond rfl ?_ ?_
  ·intro hc; try simp at hc
   all_goals try (exfalso; first | omega | (simp at hc; done); done)
   all_goals (
    refine rg [4] ?_
    intro k hk; simp -dsimp [go_sem, -decide_eq_true_eq, -decide_eq_false_iff_not, hx, hx0]
    repeat' first | apply And.intro | refine hk _ ?_ | intro hg | omega | exact True.intro
    all_goals clear hk k
    refine rt ?_
    simp [go_sem, Try.results88, wants])
  ·intro hc; try simp at hc
   all_goals try (exfalso; first | omega | (simp at hc; done); done)
   all_goals (
    refine AW.skipN (fun _ h => h) ?_
    refine rg [1,6] ?_
    intro k hk; simp -dsimp (maxSteps := 2000000) [go_sem, -decide_eq_true_eq, -decide_eq_false_iff_not, hx, hx0]
    repeat' first | apply And.intro | refine hk _ ?_ | intro hg | (refine CallK.intro (fail) ?_; simp -dsimp (maxSteps := 2000000) [go_sem, -decide_eq_true_eq, -decide_eq_false_iff_not, hx, hx0]) | omega | exact True.intro
    all_goals clear hk k
    refine rg [4] ?_
    intro k hk; simp -dsimp (maxSteps := 2000000) [go_sem, -decide_eq_true_eq, -decide_eq_false_iff_not, hx, hx0]
    repeat' first | apply And.intro | refine hk _ ?_ | intro hg | omega | exact True.intro
    all_goals clear hk k
    refine rt ?_
    simp [go_sem, Try.results88, wants]))

/-- spec.l4Needs -/
theorem dc_spec_l4Needs_s (p : List TStep) (ho : StepsOk p) (i : Nat) (hi : i < p.length) (hi0 : 0 < i) : DC Try.prog 88 [.isl 6 (p.map TStep.ro), .int .i64 (i : Nat)] (.bool (wants p i)) [] := by
 have hlen := ho.len
 obtain ⟨x, hx⟩ := at_some hi
 have hxS := nS_at hx
 have hpi := ho.parI hi0 hi
 rw [hxS] at hpi
 obtain ⟨a, ha⟩ : ∃ a : Nat, x.par = a := ⟨_, (Int.toNat_of_nonneg hpi.1).symm⟩
 obtain ⟨y, hy⟩ := at_some (l := p) (show a < p.length by omega)
 have hyS := nS_at hy
 have hdi : decide ((i : Int) = 0) = false := decide_eq_false (by omega)
 have hdi2 : ((i : Int) = 0) = False := eq_false (by omega)
 have hdj : (i = 0) = False := eq_false (by omega)
 have hkn := ho.kids_ne hi0 hi
 rw [hxS, ha] at hkn
 have hkl := last_at hkn
 have hkm := kids_len p (a : Int)
 have hkp := List.length_pos_iff.2 hkn
 have hwl : IntKind.wrap .i64 (((kids p a).length : Int) - 1) = ((kids p a).length : Int) - 1 := wrap64 (by omega) (by omega)
 have hwt : (((kids p a).length : Int) - 1).toNat = (kids p a).length - 1 := by omega
 refine DC.intro tiOk Try.func88 rfl rfl rfl rfl rfl rfl rfl rfl [] ?_
 refine rg [0,1] ?_
 intro k hk; simp -dsimp [go_sem, -decide_eq_true_eq, -decide_eq_false_iff_not, hx, hy, ha, hdi, hdi2]
 repeat' first | apply And.intro | refine hk _ ?_ | intro hg | omega | exact True.intro
 all_goals clear hk k
 refine rg [0,1,5] ?_
 intro k hk; simp -dsimp [go_sem, -decide_eq_true_eq, -decide_eq_false_iff_not, hx, hy, ha, hdi, hdi2]
 repeat' first | apply And.intro | refine hk _ ?_ | intro hg | omega | exact True.intro
 all_goals clear hk k
 refine AW.seq ?_
 refine rg [0,1,5,21] ?_
 intro k hk; simp +contextual -dsimp (maxSteps := 2000000) [go_sem, -decide_eq_true_eq, -decide_eq_false_iff_not, hx, hy, ha, hdi, hdi2]
 repeat' first | apply And.intro | refine hk _ ?_ | (intro hg; try simp only [decide_eq_true_eq, decide_eq_false_iff_not] at hg) | omega | exact True.intro
 all_goals clear hk k
 all_goals (
  refine AW.cond rfl ?_ ?_
  ·intro hc; try simp at hc
   all_goals try (exfalso; omega; done)
   all_goals (
    refine rg [4] ?_
    intro k hk; simp -dsimp [go_sem, -decide_eq_true_eq, -decide_eq_false_iff_not, hx, hy, ha, hdi, hdi2]
    repeat' first | apply And.intro | refine hk _ ?_ | intro hg | omega | exact True.intro
    all_goals clear hk k
    refine rt ?_
    simp [go_sem, Try.results88, wants, hxS, hyS, ha, hdj, hdi2] <;> grind)
  ·intro hc; try simp at hc
   all_goals try (exfalso; omega; done)
   all_goals (
    refine AW.skipN (fun _ h => h) ?_
    refine rg [1,6] ?_
    intro k hk; simp -dsimp (maxSteps := 2000000) [go_sem, -decide_eq_true_eq, -decide_eq_false_iff_not, hx, hy, ha, hdi, hdi2]
    repeat' first | apply And.intro | refine hk _ ?_ | intro hg | (refine CallK.intro (dc_spec_l4Kids p (a : Int) (by omega) (by rw [ho.par0]; omega)) ?_; simp -dsimp (maxSteps := 2000000) [go_sem, -decide_eq_true_eq, -decide_eq_false_iff_not, hx, hy, ha, hdi, hdi2]) | omega | exact True.intro
    all_goals clear hk k
    refine rg [4] ?_
    intro k hk; simp -dsimp (maxSteps := 2000000) [go_sem, -decide_eq_true_eq, -decide_eq_false_iff_not, hx, hy, ha, hdi, hdi2, hkl, hwl, hwt]
    repeat' first | apply And.intro | refine hk _ ?_ | intro hg | omega | exact True.intro
    all_goals clear hk k
    refine rt ?_
    simp [go_sem, Try.results88, wants, hxS, hyS, ha, hdj, hdi2] <;> grind))
theorem dc_spec_l4Needs (p : List TStep) (ho : StepsOk p) (i : Nat) (hi : i < p.length) : DC Try.prog 88 [.isl 6 (p.map TStep.ro), .int .i64 (i : Nat)] (.bool (wants p i)) [] := by
  rcases Nat.eq_zero_or_pos i with h | h
  · subst h; exact dc_spec_l4Needs_z p ho
  · exact dc_spec_l4Needs_s p ho i hi h

end Go.AM
namespace Go.AM
open Go.Proofs

/-- impl.isTwo -/
theorem dc_impl_isTwo (k : Int) : DC Try.prog 115 [.int .i64 k] (.bool (isTwoB k)) [] := by
 refine DC.intro tiOk Try.func115 rfl rfl rfl rfl rfl rfl rfl rfl [] ?_
 refine rgA [0] ?_
 refine rg [2] ?_
 intro k hk; simp -dsimp (maxSteps := 2000000) [go_sem, -decide_eq_true_eq, -decide_eq_false_iff_not]
 repeat' first | apply And.intro | refine hk _ ?_ | intro hg | (refine CallK.intro (dc_impl_inRange _ _ _) ?_; simp -dsimp (maxSteps := 2000000) [go_sem, -decide_eq_true_eq, -decide_eq_false_iff_not]) | omega | exact True.intro
 all_goals clear hk k
 refine rt ?_
 simp [go_sem, Try.results115, isTwoB]

/-- spec.l3Two -/
theorem dc_spec_l3Two (k : Int) : DC Try.prog 119 [.int .i64 k] (.bool (isTwoB k)) [] := by
 refine DC.intro tiOk Try.func119 rfl rfl rfl rfl rfl rfl rfl rfl [] ?_
 refine rgA [0] ?_
 refine rg [2] ?_
 intro k hk; simp -dsimp (maxSteps := 2000000) [go_sem, -decide_eq_true_eq, -decide_eq_false_iff_not]
 repeat' first | apply And.intro | refine hk _ ?_ | intro hg | (refine CallK.intro (dc_spec_l1In _ _ _) ?_; simp -dsimp (maxSteps := 2000000) [go_sem, -decide_eq_true_eq, -decide_eq_false_iff_not]) | omega | exact True.intro
 all_goals clear hk k
 refine rt ?_
 simp [go_sem, Try.results119, isTwoB]

/-- impl.nodeFault -/
theorem dc_impl_nodeFault (n : TNode) (a : Int) (ha : 0 ≤ a ∧ a ≤ 1048576) : DC Try.prog 114 [.agg n.ro, .int .i64 a] (.int .i64 (nodeF n a)) [] := by
 have hw : IntKind.wrap .i64 (a - 1) = a - 1 := wrap64 (by omega) (by omega)
 refine DC.intro tiOk Try.func114 rfl rfl rfl rfl rfl rfl rfl rfl [] ?_
 refine rg [1,2] ?_
 intro k hk; simp -dsimp [go_sem, -decide_eq_true_eq, -decide_eq_false_iff_not, hw]
 repeat' first | apply And.intro | refine hk _ ?_ | intro hg | omega | exact True.intro
 all_goals clear hk k
 refine AW.seq ?_
 refine AW.block ?_
 refine rg [1,2,6] ?_
 intro k hk; simp +contextual -dsimp (maxSteps := 2000000) [go_sem, -decide_eq_true_eq, -decide_eq_false_iff_not, hw]
 repeat' first | apply And.intro | refine hk _ ?_ | (intro hg; try simp only [decide_eq_true_eq, decide_eq_false_iff_not] at hg) | omega | exact True.intro
 all_goals clear hk k
 all_goals (
  refine AW.cond rfl ?_ ?_
  ·intro hc; try simp at hc
   all_goals try (exfalso; omega; done)
   all_goals (
    refine rg [2,5] ?_
    intro k hk; simp -dsimp [go_sem, -decide_eq_true_eq, -decide_eq_false_iff_not, hw]
    repeat' first | apply And.intro | refine hk _ ?_ | intro hg | omega | exact True.intro
    all_goals clear hk k
    refine AW.seq ?_
    refine rg [2,5,17] ?_
    intro k hk; simp -dsimp [go_sem, -decide_eq_true_eq, -decide_eq_false_iff_not, hw]
    repeat' first | apply And.intro | refine hk _ ?_ | intro hg | omega | exact True.intro
    all_goals clear hk k
    refine AW.cond rfl ?_ ?_
    ·intro hc; try simp at hc
     all_goals try (exfalso; omega; done)
     all_goals (
      refine rgN [2,5] (fun _ h => h) ?_
      intro k hk; simp -dsimp [go_sem, -decide_eq_true_eq, -decide_eq_false_iff_not, hw]
      repeat' first | apply And.intro | refine hk _ ?_ | intro hg | omega | exact True.intro
      all_goals clear hk k
      refine rg [4] ?_
      intro k hk; simp +contextual -dsimp (maxSteps := 2000000) [go_sem, -decide_eq_true_eq, -decide_eq_false_iff_not, hw]
      repeat' first | (refine Chk.keys ?_; simp only [go_sem, List.map_cons, List.map_nil, List.flatMap_cons, List.flatMap_nil, List.flatMap_append, List.append_nil, List.nil_append, List.cons_append]; decide +kernel) | apply And.intro | refine hk _ ?_ | (intro hg; try simp only [decide_eq_true_eq, decide_eq_false_iff_not] at hg) | ((first | refine CallK.intro (dc_impl_codeIf _ _) ?_ | refine CallK.intro (dc_impl_inRange _ _ _) ?_ | refine CallK.intro (dc_impl_firstCode [_, _] (by simp)) ?_ | refine CallK.intro (dc_impl_firstCode [_, _, _] (by simp)) ?_ | refine CallK.intro (dc_impl_firstCode [_, _, _, _] (by simp)) ?_); simp +contextual -dsimp (maxSteps := 2000000) [go_sem, -decide_eq_true_eq, -decide_eq_false_iff_not, hw]) | omega | exact True.intro
      all_goals clear hk k
      all_goals (
       refine rt ?_
       simp [go_sem, Try.results114, nodeF, firstC_cons, firstC_nil, inR, isTwoB] at * <;> grind))
    ·intro hc; try simp at hc
     all_goals try (exfalso; omega; done)
     all_goals (
      refine AW.skipN (fun _ h => h) ?_
      refine rg [4] ?_
      intro k hk; simp +contextual -dsimp (maxSteps := 2000000) [go_sem, -decide_eq_true_eq, -decide_eq_false_iff_not, hw]
      repeat' first | (refine Chk.keys ?_; simp only [go_sem, List.map_cons, List.map_nil, List.flatMap_cons, List.flatMap_nil, List.flatMap_append, List.append_nil, List.nil_append, List.cons_append]; decide +kernel) | apply And.intro | refine hk _ ?_ | (intro hg; try simp only [decide_eq_true_eq, decide_eq_false_iff_not] at hg) | ((first | refine CallK.intro (dc_impl_codeIf _ _) ?_ | refine CallK.intro (dc_impl_inRange _ _ _) ?_ | refine CallK.intro (dc_impl_firstCode [_, _] (by simp)) ?_ | refine CallK.intro (dc_impl_firstCode [_, _, _] (by simp)) ?_ | refine CallK.intro (dc_impl_firstCode [_, _, _, _] (by simp)) ?_); simp +contextual -dsimp (maxSteps := 2000000) [go_sem, -decide_eq_true_eq, -decide_eq_false_iff_not, hw]) | omega | exact True.intro
      all_goals clear hk k
      all_goals (
       refine rt ?_
       simp [go_sem, Try.results114, nodeF, firstC_cons, firstC_nil, inR, isTwoB] at * <;> grind)))
  ·intro hc; try simp at hc
   all_goals try (exfalso; omega; done)
   all_goals (
    refine rg [1,2,35] ?_
    intro k hk; simp -dsimp [go_sem, -decide_eq_true_eq, -decide_eq_false_iff_not, hw]
    repeat' first | apply And.intro | refine hk _ ?_ | intro hg | omega | exact True.intro
    all_goals clear hk k
    refine AW.cond rfl ?_ ?_
    ·intro hc; try simp at hc
     all_goals try (exfalso; omega; done)
     all_goals (
      refine rg [4] ?_
      intro k hk; simp +contextual -dsimp (maxSteps := 2000000) [go_sem, -decide_eq_true_eq, -decide_eq_false_iff_not, hw]
      repeat' first | (refine Chk.keys ?_; simp only [go_sem, List.map_cons, List.map_nil, List.flatMap_cons, List.flatMap_nil, List.flatMap_append, List.append_nil, List.nil_append, List.cons_append]; decide +kernel) | apply And.intro | refine hk _ ?_ | (intro hg; try simp only [decide_eq_true_eq, decide_eq_false_iff_not] at hg) | ((first | refine CallK.intro (dc_impl_codeIf _ _) ?_ | refine CallK.intro (dc_impl_inRange _ _ _) ?_ | refine CallK.intro (dc_impl_firstCode [_, _] (by simp)) ?_ | refine CallK.intro (dc_impl_firstCode [_, _, _] (by simp)) ?_ | refine CallK.intro (dc_impl_firstCode [_, _, _, _] (by simp)) ?_); simp +contextual -dsimp (maxSteps := 2000000) [go_sem, -decide_eq_true_eq, -decide_eq_false_iff_not, hw]) | omega | exact True.intro
      all_goals clear hk k
      all_goals (
       refine rt ?_
       simp [go_sem, Try.results114, nodeF, firstC_cons, firstC_nil, inR, isTwoB] at * <;> grind))
    ·intro hc; try simp at hc
     all_goals try (exfalso; omega; done)
     all_goals (
      refine rg [1,2,57] ?_
      intro k hk; simp -dsimp (maxSteps := 2000000) [go_sem, -decide_eq_true_eq, -decide_eq_false_iff_not, hw]
      repeat' first | apply And.intro | refine hk _ ?_ | intro hg | (refine CallK.intro (dc_impl_isTwo _) ?_; simp -dsimp (maxSteps := 2000000) [go_sem, -decide_eq_true_eq, -decide_eq_false_iff_not, hw]) | omega | exact True.intro
      all_goals clear hk k
      refine AW.cond rfl ?_ ?_
      ·intro hc; try simp at hc
       all_goals try (exfalso; omega; done)
       all_goals (
        refine rg [4] ?_
        intro k hk; simp +contextual -dsimp (maxSteps := 2000000) [go_sem, -decide_eq_true_eq, -decide_eq_false_iff_not, hw]
        repeat' first | (refine Chk.keys ?_; simp only [go_sem, List.map_cons, List.map_nil, List.flatMap_cons, List.flatMap_nil, List.flatMap_append, List.append_nil, List.nil_append, List.cons_append]; decide +kernel) | apply And.intro | refine hk _ ?_ | (intro hg; try simp only [decide_eq_true_eq, decide_eq_false_iff_not] at hg) | ((first | refine CallK.intro (dc_impl_codeIf _ _) ?_ | refine CallK.intro (dc_impl_inRange _ _ _) ?_ | refine CallK.intro (dc_impl_firstCode [_, _] (by simp)) ?_ | refine CallK.intro (dc_impl_firstCode [_, _, _] (by simp)) ?_ | refine CallK.intro (dc_impl_firstCode [_, _, _, _] (by simp)) ?_); simp +contextual -dsimp (maxSteps := 2000000) [go_sem, -decide_eq_true_eq, -decide_eq_false_iff_not, hw]) | omega | exact True.intro
        all_goals clear hk k
        all_goals (
         refine rt ?_
         simp [go_sem, Try.results114, nodeF, firstC_cons, firstC_nil, inR, isTwoB] at * <;> grind))
      ·intro hc; try simp at hc
       all_goals try (exfalso; omega; done)
       all_goals (
        refine AW.skipN (fun _ h => h) ?_
        refine rg [4] ?_
        intro k hk; simp -dsimp [go_sem, -decide_eq_true_eq, -decide_eq_false_iff_not, hw]
        repeat' first | apply And.intro | refine hk _ ?_ | intro hg | omega | exact True.intro
        all_goals clear hk k
        refine rt ?_
        simp [go_sem, Try.results114, nodeF, firstC_cons, firstC_nil, inR, isTwoB] at * <;> grind))))

set_option maxHeartbeats 2000000 in
/-- spec.l3Node -/
theorem dc_spec_l3Node (n : TNode) (a : Int) (ha : 0 ≤ a ∧ a ≤ 1048576) : DC Try.prog 109 [.ip n.ro, .int .i64 a] (.int .i64 (nodeF n a)) [] := by
 have hw : IntKind.wrap .i64 (a - 1) = a - 1 := wrap64 (by omega) (by omega)
 refine DC.intro tiOk Try.func109 rfl rfl rfl rfl rfl rfl rfl rfl [] ?_
 refine rg [0,1] ?_
 intro k hk; simp -dsimp [go_sem, -decide_eq_true_eq, -decide_eq_false_iff_not, hw]
 repeat' first | apply And.intro | refine hk _ ?_ | intro hg | omega | exact True.intro
 all_goals clear hk k
 refine AW.seq ?_
 refine rg [0,1,11] ?_
 intro k hk; simp -dsimp (maxSteps := 2000000) [go_sem, -decide_eq_true_eq, -decide_eq_false_iff_not, hw]
 repeat' first | apply And.intro | refine hk _ ?_ | intro hg | (refine CallK.intro (dc_spec_l1In _ _ _) ?_; simp -dsimp (maxSteps := 2000000) [go_sem, -decide_eq_true_eq, -decide_eq_false_iff_not, hw]) | omega | exact True.intro
 all_goals clear hk k
 refine AW.cond rfl ?_ ?_
 ·intro hc; try simp at hc
  all_goals try (exfalso; omega; done)
  all_goals (
   refine rg [4] ?_
   intro k hk; simp -dsimp [go_sem, -decide_eq_true_eq, -decide_eq_false_iff_not, hw]
   repeat' first | apply And.intro | refine hk _ ?_ | intro hg | omega | exact True.intro
   all_goals clear hk k
   refine rt ?_
   simp [go_sem, Try.results109, nodeF, firstC_cons, firstC_nil, inR, isTwoB] at * <;> grind)
 ·intro hc; try simp at hc
  all_goals try (exfalso; omega; done)
  all_goals (
   refine AW.skipN (fun _ h => h) ?_
   refine rg [0,1,5] ?_
   intro k hk; simp -dsimp [go_sem, -decide_eq_true_eq, -decide_eq_false_iff_not, hw]
   repeat' first | apply And.intro | refine hk _ ?_ | intro hg | omega | exact True.intro
   all_goals clear hk k
   refine AW.seq ?_
   refine AW.cut ⟨114, [(0, .ip n.ro), (1, .int .i64 a), (5, .bool (decide (n.kind ≤ 2))), (56, .bool (decide ((n.kind ≤ 2 ∧ (n.left ≠ 0 ∨ n.right ≠ 0)) ∨ (2 < n.kind ∧ n.val ≠ 0) ∨ (n.kind = 10 ∧ n.right ≠ 0))))], []⟩ ?_ ?_
   ·skip
    refine rgK ?_
    intro k hk; simp +contextual -dsimp (maxSteps := 2000000) [go_sem, -decide_eq_true_eq, -decide_eq_false_iff_not, hw]
    repeat' first | apply And.intro | refine hk _ ?_ | (intro hg; try simp only [decide_eq_true_eq, decide_eq_false_iff_not] at hg) | omega | exact True.intro
    all_goals clear hk k
    all_goals (show St.Less _ _; exact Less.of rfl (by simp [go_sem] <;> first | omega | grind) (by simp [go_sem]))
   ·skip
    refine AW.cond rfl ?_ ?_
    ·intro hc; try simp at hc
     all_goals try (exfalso; omega; done)
     all_goals (
      refine rg [4] ?_
      intro k hk; simp -dsimp [go_sem, -decide_eq_true_eq, -decide_eq_false_iff_not, hw]
      repeat' first | apply And.intro | refine hk _ ?_ | intro hg | omega | exact True.intro
      all_goals clear hk k
      refine rt ?_
      simp [go_sem, Try.results109, nodeF, firstC_cons, firstC_nil, inR, isTwoB] at * <;> grind)
    ·intro hc; try simp at hc
     all_goals try (exfalso; omega; done)
     all_goals (
      refine AW.skipN (fun _ h => h) ?_
      refine AW.seq ?_
      refine AW.cut ⟨114, [(0, .ip n.ro), (1, .int .i64 a), (5, .bool (decide (n.kind ≤ 2))), (84, .bool (decide ((n.kind = 1 ∧ (n.val < 0 ∨ 9999 < n.val)) ∨ (n.kind = 2 ∧ (n.val < 0 ∨ 3 < n.val)))))], []⟩ ?_ ?_
      ·skip
       refine rgK ?_
       intro k hk; simp +contextual -dsimp (maxSteps := 2000000) [go_sem, -decide_eq_true_eq, -decide_eq_false_iff_not, hw]
       repeat' first | apply And.intro | refine hk _ ?_ | (intro hg; try simp only [decide_eq_true_eq, decide_eq_false_iff_not] at hg) | (refine CallK.intro (dc_spec_l1In _ _ _) ?_; simp +contextual -dsimp (maxSteps := 2000000) [go_sem, -decide_eq_true_eq, -decide_eq_false_iff_not, hw]) | omega | exact True.intro
       all_goals clear hk k
       all_goals (show St.Less _ _; exact Less.of rfl (by simp [go_sem, inR] <;> first | omega | grind [inR]) (by simp [go_sem]))
      ·skip
       refine AW.cond rfl ?_ ?_
       ·intro hc; try simp at hc
        all_goals try (exfalso; omega; done)
        all_goals (
         refine rg [4] ?_
         intro k hk; simp -dsimp [go_sem, -decide_eq_true_eq, -decide_eq_false_iff_not, hw]
         repeat' first | apply And.intro | refine hk _ ?_ | intro hg | omega | exact True.intro
         all_goals clear hk k
         refine rt ?_
         simp [go_sem, Try.results109, nodeF, firstC_cons, firstC_nil, inR, isTwoB] at * <;> grind)
       ·intro hc; try simp at hc
        all_goals try (exfalso; omega; done)
        all_goals (
         refine AW.skipN (fun _ h => h) ?_
         refine AW.seq ?_
         refine rg [113] ?_
         intro k hk; simp +contextual -dsimp (maxSteps := 2000000) [go_sem, -decide_eq_true_eq, -decide_eq_false_iff_not, hw]
         repeat' first | apply And.intro | refine hk _ ?_ | (intro hg; try simp only [decide_eq_true_eq, decide_eq_false_iff_not] at hg) | ((first | refine CallK.intro (dc_spec_l1In _ _ _) ?_ | refine CallK.intro (dc_spec_l3Two _) ?_); simp +contextual -dsimp (maxSteps := 2000000) [go_sem, -decide_eq_true_eq, -decide_eq_false_iff_not, hw]) | omega | exact True.intro
         all_goals clear hk k
         all_goals (
          refine AW.cond rfl ?_ ?_
          ·intro hc; try simp at hc
           all_goals try (exfalso; omega; done)
           all_goals (
            refine rg [4] ?_
            intro k hk; simp -dsimp [go_sem, -decide_eq_true_eq, -decide_eq_false_iff_not, hw]
            repeat' first | apply And.intro | refine hk _ ?_ | intro hg | omega | exact True.intro
            all_goals clear hk k
            refine rt ?_
            simp [go_sem, Try.results109, nodeF, firstC_cons, firstC_nil, inR, isTwoB] at * <;> grind)
          ·intro hc; try simp at hc
           all_goals try (exfalso; omega; done)
           all_goals (
            refine AW.skipN (fun _ h => h) ?_
            refine rg [4] ?_
            intro k hk; simp -dsimp [go_sem, -decide_eq_true_eq, -decide_eq_false_iff_not, hw]
            repeat' first | apply And.intro | refine hk _ ?_ | intro hg | omega | exact True.intro
            all_goals clear hk k
            refine rt ?_
            simp [go_sem, Try.results109, nodeF, firstC_cons, firstC_nil, inR, isTwoB] at * <;> grind)))))

end Go.AM
namespace Go.AM
open Go.Proofs

/-- impl.ExprFault -/
theorem dc_impl_ExprFault (e : List TNode) (he : e.length ≤ 9223372036854775807) : DC Try.prog 95 [.isl 4 (e.map TNode.ro)] (.int .i64 (exprF e)) [] := by
 refine DC.intro tiOk Try.func95 rfl rfl rfl rfl rfl rfl rfl rfl [] ?_
 refine rgA [0] ?_
 refine AW.seq ?_
 refine rg [0,15] ?_
 intro k hk; simp -dsimp (maxSteps := 2000000) [go_sem, -decide_eq_true_eq, -decide_eq_false_iff_not]
 repeat' first | apply And.intro | refine hk _ ?_ | intro hg | (refine CallK.intro (dc_impl_inRange _ _ _) ?_; simp -dsimp (maxSteps := 2000000) [go_sem, -decide_eq_true_eq, -decide_eq_false_iff_not]) | omega | exact True.intro
 all_goals clear hk k
 refine AW.cond rfl ?_ ?_
 ·intro hc; try simp at hc
  all_goals (
   refine rgA [2] ?_
   refine rt ?_
   first | (rw [exprF_len (by simpa using hc)]; simp [go_sem, Try.results95]; done) | (rw [exprF_node hR hlt hall (by rw [hxn]; assumption), hxn]; simp [go_sem, Try.results95]; done) | (rw [exprF_end hR hN]; simp [go_sem, Try.results95] <;> grind))
 ·intro hc; try simp at hc
  all_goals (
   refine AW.skipN (fun _ h => h) ?_
   refine AW.seq ?_
   have hR : inR e.length 1 16 = true := by simpa using hc
   have hlen := inR_iff.1 hR
   refine rgA [0,16,17,18] ?_
   refine AW.block ?_
   refine AW.loopI (fun i : Nat => ⟨112, [(0, .isl 4 (e.map TNode.ro)), (16, .isl 4 (e.map TNode.ro)), (17, .int .i64 e.length), (18, .int .i64 i)], []⟩) (fun i => i ≤ e.length ∧ ∀ k, k < i → nodeAt e k = 0) (fun i => e.length - i) (0) (by simp) (Less.of rfl (by simp [go_sem]) (by simp [go_sem])) ?_
   rintro i ⟨hi, hall⟩
   refine rgA [0,16,17,18,19] ?_
   refine AW.seq ?_
   refine AW.cond rfl ?_ ?_
   ·intro hc; try simp at hc
    all_goals (
     have hlt : i < e.length := by assumption
     obtain ⟨x, hx⟩ := at_some hlt
     have hxn := nodeAt_at hx
     refine AW.skipN (fun _ h => h) ?_
     refine AW.seq ?_
     refine AW.block ?_
     refine rg [0,3,4,16,17,18] ?_
     intro k hk; simp -dsimp [go_sem, -decide_eq_true_eq, -decide_eq_false_iff_not, hx]
     repeat' first | apply And.intro | refine hk _ ?_ | intro hg | omega | exact True.intro
     all_goals clear hk k
     refine rg [0,5,16,17,18] ?_
     intro k hk; simp -dsimp (maxSteps := 2000000) [go_sem, -decide_eq_true_eq, -decide_eq_false_iff_not, hx]
     repeat' first | apply And.intro | refine hk _ ?_ | intro hg | (refine CallK.intro (dc_impl_nodeFault x i (by omega)) ?_; simp -dsimp (maxSteps := 2000000) [go_sem, -decide_eq_true_eq, -decide_eq_false_iff_not, hx]) | omega | exact True.intro
     all_goals clear hk k
     refine rg [0,5,16,17,18,27] ?_
     intro k hk; simp -dsimp [go_sem, -decide_eq_true_eq, -decide_eq_false_iff_not, hx]
     repeat' first | apply And.intro | refine hk _ ?_ | intro hg | omega | exact True.intro
     all_goals clear hk k
     refine AW.cond rfl ?_ ?_
     ·intro hc; try simp at hc
      all_goals (
       refine rg [2] ?_
       intro k hk; simp -dsimp [go_sem, -decide_eq_true_eq, -decide_eq_false_iff_not, hx]
       repeat' first | apply And.intro | refine hk _ ?_ | intro hg | omega | exact True.intro
       all_goals clear hk k
       refine rt ?_
       first | (rw [exprF_len (by simpa using hc)]; simp [go_sem, Try.results95]; done) | (rw [exprF_node hR hlt hall (by rw [hxn]; assumption), hxn]; simp [go_sem, Try.results95]; done) | (rw [exprF_end hR hN]; simp [go_sem, Try.results95] <;> grind))
     ·intro hc; try simp at hc
      all_goals (
       refine AW.skipN (fun _ h => h) ?_
       refine rgK ?_
       intro k hk; simp -dsimp [go_sem, -decide_eq_true_eq, -decide_eq_false_iff_not, hx]
       repeat' first | apply And.intro | refine hk _ ?_ | intro hg | omega | exact True.intro
       all_goals clear hk k
       show ∃ _, _
       have hw := wrapi hlt (by omega)
       refine ⟨i + 1, ⟨by omega, upto hall (by rw [hxn]; first | assumption | simpa using hc)⟩, by omega, Less.of rfl (by simp [go_sem, hw]) (by simp [go_sem])⟩))
   ·intro hc; try simp at hc
    all_goals (
     refine AW.exitN (fun _ h => h) ?_
     have hN : ∀ k, k < e.length → nodeAt e k = 0 := fun k hk => hall k (by omega)
     have hP : PartsOk e e.length := hN
     refine rgA [0,6,7] ?_
     refine AW.seq ?_
     refine rgA [0,6,7,31,32,33] ?_
     refine AW.block ?_
     refine AW.rename (nd := ?nd_1) 30 97 ?h1_1 ?h2_1 ?h4_1 ?kk_1
     (case h1_1 => exact rfl)
     (case h2_1 => simp [go_sem])
     (case h4_1 => simp [go_sem])
     refine AW.loopI (fun i : Nat => ⟨112, [(0, .isl 4 (e.map TNode.ro)), (6, .sl 97 1 0 i), (7, .bool (wrongU e i)), (31, .isl 4 (e.map TNode.ro)), (32, .int .i64 e.length), (33, .int .i64 i)], [(97, some ⟨1, (sizesL e i).map I1⟩)]⟩) (fun i => i ≤ e.length) (fun i => e.length - i) (0) (by simp) (Less.of rfl (by simp [go_sem, wrongU]) (by simp [go_sem, sizesL])) ?_
     rintro i hi
     refine AW.rename (nd := ?nd_2) 97 30 ?h1_2 ?h2_2 ?h4_2 ?kk_2
     (case h1_2 => exact rfl)
     (case h2_2 => simp [go_sem])
     (case h4_2 => simp [go_sem])
     refine rgA [0,6,7,31,32,33,34] ?_
     refine AW.seq ?_
     refine AW.cond rfl ?_ ?_
     ·intro hc; try simp at hc
      all_goals (
       have hlt : i < e.length := by assumption
       obtain ⟨x, hx⟩ := at_some hlt
       have hxn := nodeAt_at hx
       have hpx := hN i hlt
       rw [hxn] at hpx
       have hq := nodeF_parts hpx
       have hsl := sizesL_len e i
       have htk : List.take i ((sizesL e i).map I1) = (sizesL e i).map I1 := List.take_of_length_le (by simp [hsl])
       have hszA := szA_at hx hpx
       have hwrA := wrongU_at hx
       have hsbi := sz_bd hP hlt (by omega)
       have hwi : IntKind.wrap .i64 ((i : Int) - 1) = (i : Int) - 1 := wrap64 (by omega) (by omega)
       refine AW.skipN (fun _ h => h) ?_
       refine AW.seq ?_
       refine AW.block ?_
       refine rg [0,6,7,8,9,31,32,33] ?_
       intro k hk; simp -dsimp [go_sem, -decide_eq_true_eq, -decide_eq_false_iff_not, hx, hwi, hsl]
       repeat' first | apply And.intro | refine hk _ ?_ | intro hg | omega | exact True.intro
       all_goals clear hk k
       refine rg [0,6,7,9,10,11,31,32,33] ?_
       intro k hk; simp -dsimp [go_sem, -decide_eq_true_eq, -decide_eq_false_iff_not, hx, hwi, hsl]
       repeat' first | apply And.intro | refine hk _ ?_ | intro hg | omega | exact True.intro
       all_goals clear hk k
       refine AW.seq ?_
       refine AW.block ?_
       refine rg [0,6,7,9,10,11,31,32,33,40] ?_
       intro k hk; simp -dsimp [go_sem, -decide_eq_true_eq, -decide_eq_false_iff_not, hx, hwi, hsl]
       repeat' first | apply And.intro | refine hk _ ?_ | intro hg | omega | exact True.intro
       all_goals clear hk k
       refine AW.cond rfl ?_ ?_
       ·intro hc; try simp at hc
        all_goals (
         have hk : x.kind = 10 := by simpa using hc
         have hl := hq.1 hk
         have hsA := sizesL_at (e := e) hl.2
         have hsb := sz_bd hP (i := x.left.toNat) (by omega) (by omega)
         have hw1 : IntKind.wrap .i64 (1 + szA e x.left.toNat) = 1 + szA e x.left.toNat := wrap64 (by omega) (by omega)
         refine rg [0,6,7,9,11,31,32,33] ?_
         intro k hk; simp +contextual -dsimp (maxSteps := 2000000) [go_sem, -decide_eq_true_eq, -decide_eq_false_iff_not, hx, hwi, hsl, hsA]
         repeat' first | apply And.intro | refine hk _ ?_ | (intro hg; try simp only [decide_eq_true_eq, decide_eq_false_iff_not] at hg) | omega | exact True.intro
         all_goals clear hk k
         all_goals (
          refine rgN [0,6,7,11,31,32,33] (fun _ h => h) ?_
          intro k hk; simp -dsimp (maxSteps := 2000000) [go_sem, -decide_eq_true_eq, -decide_eq_false_iff_not, hx, hwi, hsl, hsA, hw1]
          repeat' first | apply And.intro | refine hk _ ?_ | intro hg | omega | exact True.intro
          all_goals clear hk k
          refine rgN [0,6,7,31,32,33] (fun _ h => h) ?_
          intro k hk; simp -dsimp [go_sem, -decide_eq_true_eq, -decide_eq_false_iff_not, hx, hwi, hsl]
          repeat' first | apply And.intro | refine hk _ ?_ | intro hg | omega | exact True.intro
          all_goals clear hk k
          refine rgK ?_
          intro k hk; simp -dsimp [go_sem, -decide_eq_true_eq, -decide_eq_false_iff_not, hx, hwi, hsl]
          repeat' first | apply And.intro | refine hk _ ?_ | intro hg | omega | exact True.intro
          all_goals clear hk k
          show ∃ _, _
          have hw := wrapi hlt (by omega)
          refine ⟨i + 1, by omega, by omega, Less.of rfl (by simp [go_sem, hw, hwrA, *]) (by simp [go_sem, sizesL_succ, hszA, *])⟩))
       ·intro hc; try simp at hc
        all_goals (
         refine rg [0,6,7,9,10,11,31,32,33,58] ?_
         intro k hk; simp -dsimp (maxSteps := 2000000) [go_sem, -decide_eq_true_eq, -decide_eq_false_iff_not, hx, hwi, hsl]
         repeat' first | apply And.intro | refine hk _ ?_ | intro hg | (refine CallK.intro (dc_impl_isTwo _) ?_; simp -dsimp (maxSteps := 2000000) [go_sem, -decide_eq_true_eq, -decide_eq_false_iff_not, hx, hwi, hsl]) | omega | exact True.intro
         all_goals clear hk k
         refine AW.cond rfl ?_ ?_
         ·intro hc; try simp at hc
          all_goals (
           have hk : isTwoB x.kind = true := by simpa using hc
           have hl := hq.2.1 hk
           have hsA := sizesL_at (e := e) hl.2.1
           have hsB := sizesL_at (e := e) hl.2.2.2
           have hsb := sz_bd hP (i := x.left.toNat) (by omega) (by omega)
           have hsb2 := sz_bd hP (i := x.right.toNat) (by omega) (by omega)
           have hw1 : IntKind.wrap .i64 (szA e x.left.toNat + szA e x.right.toNat) = szA e x.left.toNat + szA e x.right.toNat := wrap64 (by omega) (by omega)
           have hw2 : IntKind.wrap .i64 (1 + (szA e x.left.toNat + szA e x.right.toNat)) = 1 + (szA e x.left.toNat + szA e x.right.toNat) := wrap64 (by omega) (by omega)
           have hw3 : IntKind.wrap .i64 ((i : Int) - 1 - szA e x.right.toNat) = (i : Int) - 1 - szA e x.right.toNat := wrap64 (by omega) (by omega)
           refine rg [0,6,7,9,11,31,32,33] ?_
           intro k hk; simp +contextual -dsimp (maxSteps := 2000000) [go_sem, -decide_eq_true_eq, -decide_eq_false_iff_not, hx, hwi, hsl, hsA, hsB, hw3]
           repeat' first | (refine Chk.keys ?_; simp only [go_sem, List.map_cons, List.map_nil, List.flatMap_cons, List.flatMap_nil, List.flatMap_append, List.append_nil, List.nil_append, List.cons_append]; decide +kernel) | apply And.intro | refine hk _ ?_ | (intro hg; try simp only [decide_eq_true_eq, decide_eq_false_iff_not] at hg) | omega | exact True.intro
           all_goals clear hk k
           all_goals (
            refine rgN [0,6,7,11,31,32,33] (fun _ h => h) ?_
            intro k hk; simp -dsimp (maxSteps := 2000000) [go_sem, -decide_eq_true_eq, -decide_eq_false_iff_not, hx, hwi, hsl, hsA, hsB, hw1, hw2]
            repeat' first | (refine Chk.keys ?_; simp only [go_sem, List.map_cons, List.map_nil, List.flatMap_cons, List.flatMap_nil, List.flatMap_append, List.append_nil, List.nil_append, List.cons_append]; decide +kernel) | apply And.intro | refine hk _ ?_ | intro hg | omega | exact True.intro
            all_goals clear hk k
            refine rgN [0,6,7,31,32,33] (fun _ h => h) ?_
            intro k hk; simp -dsimp [go_sem, -decide_eq_true_eq, -decide_eq_false_iff_not, hx, hwi, hsl]
            repeat' first | apply And.intro | refine hk _ ?_ | intro hg | omega | exact True.intro
            all_goals clear hk k
            refine rgK ?_
            intro k hk; simp -dsimp [go_sem, -decide_eq_true_eq, -decide_eq_false_iff_not, hx, hwi, hsl]
            repeat' first | apply And.intro | refine hk _ ?_ | intro hg | omega | exact True.intro
            all_goals clear hk k
            show ∃ _, _
            have hw := wrapi hlt (by omega)
            refine ⟨i + 1, by omega, by omega, Less.of rfl (by simp [go_sem, hw, hwrA, *]) (by simp [go_sem, sizesL_succ, hszA, *])⟩))
         ·intro hc; try simp at hc
          all_goals (
           refine AW.skipN (fun _ h => h) ?_
           refine rgN [0,6,7,31,32,33] (fun _ h => h) ?_
           intro k hk; simp -dsimp [go_sem, -decide_eq_true_eq, -decide_eq_false_iff_not, hx, hwi, hsl]
           repeat' first | apply And.intro | refine hk _ ?_ | intro hg | omega | exact True.intro
           all_goals clear hk k
           refine rgK ?_
           intro k hk; simp -dsimp [go_sem, -decide_eq_true_eq, -decide_eq_false_iff_not, hx, hwi, hsl]
           repeat' first | apply And.intro | refine hk _ ?_ | intro hg | omega | exact True.intro
           all_goals clear hk k
           show ∃ _, _
           have hw := wrapi hlt (by omega)
           refine ⟨i + 1, by omega, by omega, Less.of rfl (by simp [go_sem, hw, hwrA, *]) (by simp [go_sem, sizesL_succ, hszA, *])⟩)))
     ·intro hc; try simp at hc
      all_goals (
       refine AW.exitN (fun _ h => h) ?_
       have hie : i = e.length := by omega
       subst hie
       have hsl := sizesL_len e e.length
       have hlast := sizesL_at (e := e) (show e.length - 1 < e.length by omega)
       have hwl : IntKind.wrap .i64 ((e.length : Int) - 1) = (e.length : Int) - 1 := wrap64 (by omega) (by omega)
       have hwt : ((e.length : Int) - 1).toNat = e.length - 1 := by omega
       refine rg [2] ?_
       intro k hk; simp +contextual -dsimp (maxSteps := 2000000) [go_sem, -decide_eq_true_eq, -decide_eq_false_iff_not, hwl, hwt, hlast, hsl]
       repeat' first | apply And.intro | refine hk _ ?_ | (intro hg; try simp only [decide_eq_true_eq, decide_eq_false_iff_not] at hg) | (refine CallK.intro (dc_impl_codeIf _ _) ?_; simp +contextual -dsimp (maxSteps := 2000000) [go_sem, -decide_eq_true_eq, -decide_eq_false_iff_not, hwl, hwt, hlast, hsl]) | omega | exact True.intro
       all_goals clear hk k
       all_goals (
        refine rt ?_
        first | (rw [exprF_len (by simpa using hc)]; simp [go_sem, Try.results95]; done) | (rw [exprF_node hR hlt hall (by rw [hxn]; assumption), hxn]; simp [go_sem, Try.results95]; done) | (rw [exprF_end hR hN]; simp [go_sem, Try.results95] <;> grind)))))

end Go.AM
namespace Go.AM
open Go.Proofs

/-- impl.partType -/
theorem dc_impl_partType (k : Int) : DC Try.prog 116 [.int .i64 k] (.tup [.int .i64 (partT k), .int .i64 (ownT k)]) [] := by
 refine DC.intro tiOk Try.func116 rfl rfl rfl rfl rfl rfl rfl rfl [] ?_
 refine rgA [0] ?_
 refine AW.seq ?_
 refine AW.block ?_
 refine rgA [0,4] ?_
 refine AW.cond rfl ?_ ?_
 ·intro hc; try simp at hc
  all_goals (
   refine rgA [2,3] ?_
   refine rt ?_
   simp [go_sem, Try.results116, partT, ownT] <;> grind)
 ·intro hc; try simp at hc
  all_goals (
   refine rgA [7] ?_
   refine AW.cond rfl ?_ ?_
   ·intro hc; try simp at hc
    all_goals (
     refine rgA [2,3] ?_
     refine rt ?_
     simp [go_sem, Try.results116, partT, ownT] <;> grind)
   ·intro hc; try simp at hc
    all_goals (
     refine AW.skipN (fun _ h => h) ?_
     refine rgA [2,3] ?_
     refine rt ?_
     simp [go_sem, Try.results116, partT, ownT] <;> grind))

/-- impl.TypeOf -/
theorem dc_impl_TypeOf (e : List TNode) (he : e.length ≤ 9223372036854775807) : DC Try.prog 98 [.isl 4 (e.map TNode.ro)] (.agg [.int .i64 (typC e), .int .i64 (typV e)]) [] := by
 refine DC.intro tiOk Try.func98 rfl rfl rfl rfl rfl rfl rfl rfl [] ?_
 refine rg [0,2] ?_
 intro k hk; simp -dsimp [go_sem, -decide_eq_true_eq, -decide_eq_false_iff_not]
 repeat' first | apply And.intro | refine hk _ ?_ | intro hg | omega | exact True.intro | (have h9 := hr (by assumption); omega) | fail
 all_goals clear hk k
 refine AW.seq ?_
 refine rg [0,2,3] ?_
 intro k hk; simp -dsimp (maxSteps := 2000000) [go_sem, -decide_eq_true_eq, -decide_eq_false_iff_not]
 repeat' first | apply And.intro | refine hk _ ?_ | intro hg | (refine CallK.intro (dc_impl_ExprFault e he) ?_; simp -dsimp (maxSteps := 2000000) [go_sem, -decide_eq_true_eq, -decide_eq_false_iff_not]) | omega | exact True.intro | (have h9 := hr (by assumption); omega) | fail
 all_goals clear hk k
 refine rg [0,2,3,12] ?_
 intro k hk; simp -dsimp [go_sem, -decide_eq_true_eq, -decide_eq_false_iff_not]
 repeat' first | apply And.intro | refine hk _ ?_ | intro hg | omega | exact True.intro | (have h9 := hr (by assumption); omega) | fail
 all_goals clear hk k
 refine AW.cond rfl ?_ ?_
 ·intro hc; try simp at hc
  all_goals (
   refine rg [2] ?_
   intro k hk; simp -dsimp [go_sem, -decide_eq_true_eq, -decide_eq_false_iff_not]
   repeat' first | apply And.intro | refine hk _ ?_ | intro hg | omega | exact True.intro | (have h9 := hr (by assumption); omega) | fail
   all_goals clear hk k
   refine rt ?_
   first | (obtain ⟨h8, h9⟩ := typC_f (show exprF e ≠ 0 by first | assumption | simpa using hc); simp [go_sem, Try.results98, h8, h9]; done) | (obtain ⟨h8, h9⟩ := typC_b h0 (typU_hit hlt (by first | assumption | simpa using hc)); simp [go_sem, Try.results98, h8, h9]; done) | (obtain ⟨h8, h9⟩ := typC_k h0 hu; simp [go_sem, Try.results98, h8, h9]))
 ·intro hc; try simp at hc
  all_goals (
   refine AW.skipN (fun _ h => h) ?_
   have h0 : exprF e = 0 := by simpa using hc
   obtain ⟨hR, hP⟩ := exprF_zero h0
   have hlen := inR_iff.1 hR
   refine rg [0,2,4] ?_
   intro k hk; simp -dsimp [go_sem, -decide_eq_true_eq, -decide_eq_false_iff_not]
   repeat' first | apply And.intro | refine hk _ ?_ | intro hg | omega | exact True.intro | (have h9 := hr (by assumption); omega) | fail
   all_goals clear hk k
   refine AW.seq ?_
   refine rg [2,4,16,17,18] ?_
   intro k hk; simp -dsimp [go_sem, -decide_eq_true_eq, -decide_eq_false_iff_not]
   repeat' first | apply And.intro | refine hk _ ?_ | intro hg | omega | exact True.intro | (have h9 := hr (by assumption); omega) | fail
   all_goals clear hk k
   refine AW.block ?_
   refine AW.rename (nd := ?nd_1) 15 58 ?h1_1 ?h2_1 ?h4_1 ?kk_1
   (case h1_1 => exact rfl)
   (case h2_1 => simp [go_sem])
   (case h4_1 => simp [go_sem])
   refine AW.loopI (fun i : Nat => ⟨67, [(2, .ptr 2 2 0 0), (4, .sl 58 1 0 i), (16, .isl 4 (e.map TNode.ro)), (17, .int .i64 e.length), (18, .int .i64 i)], [(2, some ⟨2, [[.int .i64 0, .int .i64 0]]⟩), (58, some ⟨1, (typesL e i).map I1⟩)]⟩) (fun i => i ≤ e.length ∧ typU e i = false) (fun i => e.length - i) (0) (by simp [typU]) (Less.of rfl (by simp [go_sem]) (by simp [go_sem, typesL])) ?_
   rintro i ⟨hi, hu⟩
   refine AW.rename (nd := ?nd_2) 58 15 ?h1_2 ?h2_2 ?h4_2 ?kk_2
   (case h1_2 => exact rfl)
   (case h2_2 => simp [go_sem])
   (case h4_2 => simp [go_sem])
   refine rg [2,4,16,17,18,19] ?_
   intro k hk; simp -dsimp [go_sem, -decide_eq_true_eq, -decide_eq_false_iff_not]
   repeat' first | apply And.intro | refine hk _ ?_ | intro hg | omega | exact True.intro | (have h9 := hr (by assumption); omega) | fail
   all_goals clear hk k
   refine AW.seq ?_
   refine AW.cond rfl ?_ ?_
   ·intro hc; try simp at hc
    all_goals (
     have hlt : i < e.length := by assumption
     obtain ⟨x, hx⟩ := at_some hlt
     have hxA := nA_at hx
     have hpx := hP i hlt
     rw [nodeAt_at hx] at hpx
     have hq := nodeF_parts hpx
     have hl : 2 < x.kind → 0 ≤ x.left ∧ x.left.toNat < i := left_of hpx
     have hr := hq.2.1
     have htl := typesL_len e i
     have htk : List.take i ((typesL e i).map I1) = (typesL e i).map I1 := List.take_of_length_le (by simp [htl])
     have hsA : decide (2 < x.kind) = true → (typesL e i)[x.left.toNat]? = some (ownT (nA e x.left.toNat).kind) := fun h => typesL_at (hl (by simpa using h)).2
     have hsB : isTwoB x.kind = true → (typesL e i)[x.right.toNat]? = some (ownT (nA e x.right.toNat).kind) := fun h => typesL_at (hr h).2.2.2
     refine AW.skipN (fun _ h => h) ?_
     refine AW.seq ?_
     refine AW.block ?_
     refine rg [2,4,6,16,17,18] ?_
     intro k hk; simp -dsimp [go_sem, -decide_eq_true_eq, -decide_eq_false_iff_not, hx, htl, hsA, hsB]
     repeat' first | apply And.intro | refine hk _ ?_ | intro hg | omega | exact True.intro | (have h9 := hr (by assumption); omega) | fail
     all_goals clear hk k
     refine rg [2,4,6,7,8,16,17,18] ?_
     intro k hk; simp -dsimp (maxSteps := 2000000) [go_sem, -decide_eq_true_eq, -decide_eq_false_iff_not, hx, htl, hsA, hsB]
     repeat' first | apply And.intro | refine hk _ ?_ | intro hg | (refine CallK.intro (dc_impl_partType _) ?_; simp -dsimp (maxSteps := 2000000) [go_sem, -decide_eq_true_eq, -decide_eq_false_iff_not, hx, htl, hsA, hsB]) | omega | exact True.intro | (have h9 := hr (by assumption); omega) | fail
     all_goals clear hk k
     refine AW.seq ?_
     refine AW.cut ⟨67, [(2, .ptr 2 2 0 0), (4, .sl 15 1 0 i), (8, .int .i64 (ownT x.kind)), (16, .isl 4 (e.map TNode.ro)), (17, .int .i64 e.length), (18, .int .i64 i), (53, .bool (typBad e i))], [(2, some ⟨2, [[.int .i64 0, .int .i64 0]]⟩), (15, some ⟨1, (typesL e i).map I1⟩)]⟩ ?_ ?_
     ·skip
      refine rgK ?_
      intro k hk; simp +contextual -dsimp (maxSteps := 2000000) [go_sem, -decide_eq_true_eq, -decide_eq_false_iff_not, hx, htl, hsA, hsB]
      repeat' first | apply And.intro | refine hk _ ?_ | (intro hg; try simp only [decide_eq_true_eq, decide_eq_false_iff_not] at hg) | (refine CallK.intro (dc_impl_isTwo _) ?_; simp +contextual -dsimp (maxSteps := 2000000) [go_sem, -decide_eq_true_eq, -decide_eq_false_iff_not, hx, htl, hsA, hsB]) | omega | exact True.intro | (have h9 := hr (by assumption); omega) | fail
      all_goals clear hk k
      all_goals (show St.Less _ _; exact Less.of rfl (by simp [go_sem, typBad, hxA] <;> grind) (by simp [go_sem]))
     ·skip
      refine AW.cond rfl ?_ ?_
      ·intro hc; try simp at hc
       all_goals (
        refine rg [2] ?_
        intro k hk; simp -dsimp [go_sem, -decide_eq_true_eq, -decide_eq_false_iff_not, hx, htl, hsA, hsB]
        repeat' first | apply And.intro | refine hk _ ?_ | intro hg | omega | exact True.intro | (have h9 := hr (by assumption); omega) | fail
        all_goals clear hk k
        refine rt ?_
        first | (obtain ⟨h8, h9⟩ := typC_f (show exprF e ≠ 0 by first | assumption | simpa using hc); simp [go_sem, Try.results98, h8, h9]; done) | (obtain ⟨h8, h9⟩ := typC_b h0 (typU_hit hlt (by first | assumption | simpa using hc)); simp [go_sem, Try.results98, h8, h9]; done) | (obtain ⟨h8, h9⟩ := typC_k h0 hu; simp [go_sem, Try.results98, h8, h9]))
      ·intro hc; try simp at hc
       all_goals (
        refine AW.skipN (fun _ h => h) ?_
        refine rgN [2,4,16,17,18] (fun _ h => h) ?_
        intro k hk; simp -dsimp [go_sem, -decide_eq_true_eq, -decide_eq_false_iff_not, hx, htl, hsA, hsB]
        repeat' first | apply And.intro | refine hk _ ?_ | intro hg | omega | exact True.intro | (have h9 := hr (by assumption); omega) | fail
        all_goals clear hk k
        refine rgK ?_
        intro k hk; simp -dsimp [go_sem, -decide_eq_true_eq, -decide_eq_false_iff_not, hx, htl, hsA, hsB]
        repeat' first | apply And.intro | refine hk _ ?_ | intro hg | omega | exact True.intro | (have h9 := hr (by assumption); omega) | fail
        all_goals clear hk k
        show ∃ _, _
        have hw := wrapi hlt (by omega)
        have hub : typBad e i = false := by simpa using hc
        refine ⟨i + 1, ⟨by omega, typU_go hu hub⟩, by omega, Less.of rfl (by simp [go_sem, hw]) (by simp [go_sem, typesL_succ, hxA, htk])⟩))
   ·intro hc; try simp at hc
    all_goals (
     refine AW.exitN (fun _ h => h) ?_
     obtain rfl : i = e.length := by omega
     have htl := typesL_len e e.length
     have hlast := typesL_at (e := e) (show e.length - 1 < e.length by omega)
     have hwl : IntKind.wrap .i64 ((e.length : Int) - 1) = (e.length : Int) - 1 := wrap64 (by omega) (by omega)
     have hwt : ((e.length : Int) - 1).toNat = e.length - 1 := by omega
     refine rg [2] ?_
     intro k hk; simp -dsimp (maxSteps := 2000000) [go_sem, -decide_eq_true_eq, -decide_eq_false_iff_not, htl, hlast, hwl, hwt]
     repeat' first | apply And.intro | refine hk _ ?_ | intro hg | omega | exact True.intro | (have h9 := hr (by assumption); omega) | fail
     all_goals clear hk k
     refine rt ?_
     first | (obtain ⟨h8, h9⟩ := typC_f (show exprF e ≠ 0 by first | assumption | simpa using hc); simp [go_sem, Try.results98, h8, h9]; done) | (obtain ⟨h8, h9⟩ := typC_b h0 (typU_hit hlt (by first | assumption | simpa using hc)); simp [go_sem, Try.results98, h8, h9]; done) | (obtain ⟨h8, h9⟩ := typC_k h0 hu; simp [go_sem, Try.results98, h8, h9])))

end Go.AM
namespace Go.AM
open Go.Proofs

/-- impl.typeFault -/
theorem dc_impl_typeFault (e : List TNode) (w : Int) (he : e.length ≤ 9223372036854775807) : DC Try.prog 58 [.isl 4 (e.map TNode.ro), .int .i64 w] (.int .i64 (typF e w)) [] := by
 refine DC.intro tiOk Try.func58 rfl rfl rfl rfl rfl rfl rfl rfl [] ?_
 refine rgA [0,1] ?_
 refine AW.seq ?_
 refine rgA [0,1,8] ?_
 refine AW.cond rfl ?_ ?_
 ·intro hc; try simp at hc
  all_goals (
   refine rgA [4] ?_
   refine rt ?_
   simp [go_sem, Try.results58, typF, firstC_cons, firstC_nil] <;> grind)
 ·intro hc; try simp at hc
  all_goals (
   refine AW.skipN (fun _ h => h) ?_
   refine rg [1,5] ?_
   intro k hk; simp -dsimp (maxSteps := 2000000) [go_sem, -decide_eq_true_eq, -decide_eq_false_iff_not]
   repeat' first | apply And.intro | refine hk _ ?_ | intro hg | (refine CallK.intro (dc_impl_TypeOf e he) ?_; simp -dsimp (maxSteps := 2000000) [go_sem, -decide_eq_true_eq, -decide_eq_false_iff_not]) | omega | exact True.intro
   all_goals clear hk k
   refine rg [4] ?_
   intro k hk; simp -dsimp (maxSteps := 2000000) [go_sem, -decide_eq_true_eq, -decide_eq_false_iff_not]
   repeat' first | (refine Chk.keys ?_; simp only [go_sem, List.map_cons, List.map_nil, List.flatMap_cons, List.flatMap_nil, List.flatMap_append, List.append_nil, List.nil_append, List.cons_append]; decide +kernel) | apply And.intro | refine hk _ ?_ | intro hg | ((first | refine CallK.intro (dc_impl_codeIf _ _) ?_ | refine CallK.intro (dc_impl_firstCode [_, _] (by simp)) ?_ | refine CallK.intro (dc_impl_firstCode [_, _, _] (by simp)) ?_ | refine CallK.intro (dc_impl_firstCode [_, _, _, _] (by simp)) ?_); simp -dsimp (maxSteps := 2000000) [go_sem, -decide_eq_true_eq, -decide_eq_false_iff_not]) | omega | exact True.intro
   all_goals clear hk k
   refine rt ?_
   simp [go_sem, Try.results58, typF, firstC_cons, firstC_nil] <;> grind)

/-- impl.isSmall -/
theorem dc_impl_isSmall (c : UInt8) : DC Try.prog 113 [.int .u8 c.toNat] (.bool (isLow c)) [] := by
 refine DC.intro tiOk Try.func113 rfl rfl rfl rfl rfl rfl rfl rfl [] ?_
 refine rgA [0] ?_
 refine rg [2] ?_
 intro k hk; simp +contextual -dsimp (maxSteps := 2000000) [go_sem, -decide_eq_true_eq, -decide_eq_false_iff_not]
 repeat' first | apply And.intro | refine hk _ ?_ | (intro hg; try simp only [decide_eq_true_eq, decide_eq_false_iff_not] at hg) | omega | exact True.intro
 all_goals clear hk k
 all_goals (
  refine rt ?_
  simp [go_sem, *, Try.results113, isLow, -decide_eq_true_eq, -decide_eq_false_iff_not])

/-- impl.NameFault -/
theorem dc_impl_NameFault (s : List UInt8) (hs : s.length ≤ 9223372036854775807) : DC Try.prog 94 [.str s] (.int .i64 (nameF s)) [] := by
 refine DC.intro tiOk Try.func94 rfl rfl rfl rfl rfl rfl rfl rfl [] ?_
 refine rgA [0] ?_
 refine rg [2] ?_
 intro k hk; simp +contextual -dsimp (maxSteps := 2000000) [go_sem, -decide_eq_true_eq, -decide_eq_false_iff_not]
 repeat' first | apply And.intro | refine hk _ ?_ | (intro hg; try simp only [decide_eq_true_eq, decide_eq_false_iff_not] at hg) | ((first | refine CallK.intro (dc_impl_areAll 113 isLow dc_impl_isSmall s hs) ?_ | refine CallK.intro (dc_impl_codeIf _ _) ?_ | refine CallK.intro (dc_impl_firstCode [_, _] (by simp)) ?_ | refine CallK.intro (dc_impl_firstCode [_, _, _] (by simp)) ?_ | refine CallK.intro (dc_impl_firstCode [_, _, _, _] (by simp)) ?_); simp +contextual -dsimp (maxSteps := 2000000) [go_sem, -decide_eq_true_eq, -decide_eq_false_iff_not]) | omega | exact True.intro
 all_goals clear hk k
 all_goals (
  refine rt ?_
  simp [go_sem, Try.results94, nameF, firstC_cons, firstC_nil] at * <;> grind)

end Go.AM
namespace Go.AM
open Go.Proofs

/-- impl.condFault -/
theorem dc_impl_condFault (p : List TStep) (ho : StepsOk p) (i : Nat) (hi : i < p.length) (hg : ∀ e ∈ p, e.gok) : DC Try.prog 57 [.isl 6 (p.map TStep.ro), .int .i64 (i : Nat)] (.int .i64 (shapeF p i)) [] := by
 have hlen := ho.len
 obtain ⟨x, hx⟩ := at_some hi
 have hxS := nS_at hx
 obtain ⟨g0, g1, g2⟩ := hg x (List.mem_of_getElem? hx)
 have hkm := kids_len p (i : Int)
 refine DC.intro tiOk Try.func57 rfl rfl rfl rfl rfl rfl rfl rfl [] ?_
 refine rg [0,1] ?_
 intro k hk; simp -dsimp [go_sem, -decide_eq_true_eq, -decide_eq_false_iff_not, hx]
 repeat' first | apply And.intro | refine hk _ ?_ | intro hg | omega | exact True.intro
 all_goals clear hk k
 refine rg [0,1,5,6] ?_
 intro k hk; simp -dsimp (maxSteps := 2000000) [go_sem, -decide_eq_true_eq, -decide_eq_false_iff_not, hx]
 repeat' first | apply And.intro | refine hk _ ?_ | intro hg | (refine CallK.intro (dc_impl_kidBounds _) ?_; simp -dsimp (maxSteps := 2000000) [go_sem, -decide_eq_true_eq, -decide_eq_false_iff_not, hx]) | omega | exact True.intro
 all_goals clear hk k
 refine rg [0,1,5,6,7] ?_
 intro k hk; simp -dsimp (maxSteps := 2000000) [go_sem, -decide_eq_true_eq, -decide_eq_false_iff_not, hx]
 repeat' first | apply And.intro | refine hk _ ?_ | intro hg | omega | exact True.intro
 all_goals clear hk k
 refine rg [0,1,7,8] ?_
 intro k hk; simp -dsimp (maxSteps := 2000000) [go_sem, -decide_eq_true_eq, -decide_eq_false_iff_not, hx]
 repeat' first | apply And.intro | refine hk _ ?_ | intro hg | ((first | refine CallK.intro (dc_impl_kids p (i : Int) (by omega)) ?_ | refine CallK.intro (dc_impl_inRange _ _ _) ?_ | refine CallK.intro (dc_impl_codeIf _ _) ?_ | refine CallK.intro (dc_impl_wantsCond p ho i hi) ?_ | refine CallK.intro (dc_impl_firstCode [_, _] (by simp)) ?_ | refine CallK.intro (dc_impl_firstCode [_, _, _] (by simp)) ?_ | refine CallK.intro (dc_impl_firstCode [_, _, _, _] (by simp)) ?_); simp -dsimp (maxSteps := 2000000) [go_sem, -decide_eq_true_eq, -decide_eq_false_iff_not, hx]) | omega | exact True.intro
 all_goals clear hk k
 refine AW.seq ?_
 refine rg [0,1,8,47] ?_
 intro k hk; simp +contextual -dsimp [go_sem, -decide_eq_true_eq, -decide_eq_false_iff_not, hx]
 repeat' first | apply And.intro | refine hk _ ?_ | (intro hg; try simp only [decide_eq_true_eq, decide_eq_false_iff_not] at hg) | omega | exact True.intro
 all_goals clear hk k
 all_goals (
  refine AW.cond rfl ?_ ?_
  ·intro hc; try simp at hc
   all_goals (
    refine rg [4] ?_
    intro k hk; simp -dsimp [go_sem, -decide_eq_true_eq, -decide_eq_false_iff_not, hx]
    repeat' first | apply And.intro | refine hk _ ?_ | intro hg | omega | exact True.intro
    all_goals clear hk k
    refine rt ?_
    simp [go_sem, Try.results57, shapeF, hxS, firstC_cons, firstC_nil] at * <;> grind)
  ·intro hc; try simp at hc
   all_goals (
    refine AW.skipN (fun _ h => h) ?_
    refine rg [4] ?_
    intro k hk; simp -dsimp (maxSteps := 2000000) [go_sem, -decide_eq_true_eq, -decide_eq_false_iff_not, hx]
    repeat' first | apply And.intro | refine hk _ ?_ | intro hg | (refine CallK.intro (dc_impl_ExprFault x.cond g1) ?_; simp -dsimp (maxSteps := 2000000) [go_sem, -decide_eq_true_eq, -decide_eq_false_iff_not, hx]) | omega | exact True.intro
    all_goals clear hk k
    refine rt ?_
    simp [go_sem, Try.results57, shapeF, hxS, firstC_cons, firstC_nil] at * <;> grind))

end Go.AM
namespace Go.AM
open Go.Proofs

/-- impl.stepFault -/
theorem dc_impl_stepFault (s : TStep) (hg : s.gok) (l : List Int) (hl : ParOk l) (h24 : l.length ≤ 23) : DC Try.prog 56 [.agg s.ro, .op [nlc 1 (l.map I1), nlc 1 ((depsOf l).map I1)]] (.int .i64 (stepF l s)) [(1, .op [nlc 1 ((nxtL l s.par).map I1), nlc 1 ((nxtD l (depsOf l) s.par).map I1)])] := by
 obtain ⟨g0, g1, g2⟩ := hg
 have hdl := depsOf_len l
 refine DC.intro tiOk Try.func56 rfl rfl rfl rfl rfl rfl rfl (by simp [noW, noWo]) [] ?_
 refine rgA [1,2] ?_
 refine rg [1,2,5,6] ?_
 intro k hk; simp -dsimp (maxSteps := 2000000) [go_sem, -decide_eq_true_eq, -decide_eq_false_iff_not]
 repeat' first | apply And.intro | refine hk _ ?_ | intro hg | (refine CallK.intro (dc_impl_argBounds _) ?_; simp -dsimp (maxSteps := 2000000) [go_sem, -decide_eq_true_eq, -decide_eq_false_iff_not]) | omega | exact True.intro
 all_goals clear hk k
 refine AW.cut ⟨96, [(1, .ptr 1901 2 0 0), (2, .ptr 2 6 0 0), (5, .int .i64 (lowA s.kind)), (6, .int .i64 (highA s.kind)), (7, .bool (alien s))], [(2, some ⟨6, [s.ro]⟩), (1901, some ⟨2, [[nlc 1 (l.map I1), nlc 1 ((depsOf l).map I1)]]⟩)]⟩ ?_ ?_
 ·skip
  refine rgK ?_
  intro k hk; simp +contextual -dsimp (maxSteps := 2000000) [go_sem, -decide_eq_true_eq, -decide_eq_false_iff_not]
  repeat' first | apply And.intro | refine hk _ ?_ | (intro hg; try simp only [decide_eq_true_eq, decide_eq_false_iff_not] at hg) | omega | exact True.intro
  all_goals clear hk k
  all_goals (show St.Less _ _; exact Less.of rfl (by simp [go_sem, alien] at * <;> grind) (by simp [go_sem]))
 ·skip
  refine AW.seq ?_
  refine AW.cut ⟨96, [(1, .ptr 1901 2 0 0), (2, .ptr 2 6 0 0), (5, .int .i64 (lowA s.kind)), (6, .int .i64 (highA s.kind)), (8, .int .i64 (if inR s.kind 1 8 = false ∨ alien s = true then 1 else parF l s.par))], [(2, some ⟨6, [s.ro]⟩), (1901, some ⟨2, [[nlc 1 ((nxtL l s.par).map I1), nlc 1 ((nxtD l (depsOf l) s.par).map I1)]]⟩)]⟩ ?_ ?_
  ·skip
   refine AW.regK tiOk (fun i => if i = 11 then [0] else []) ?_
   intro k hk; simp +contextual -dsimp (maxSteps := 2000000) [go_sem, -decide_eq_true_eq, -decide_eq_false_iff_not]
   repeat' first | (refine Chk.keys ?_; simp only [go_sem, List.map_cons, List.map_nil, List.flatMap_cons, List.flatMap_nil, List.flatMap_append, List.append_nil, List.nil_append, List.cons_append]; decide +kernel) | apply And.intro | refine hk _ ?_ | (intro hg; try simp only [decide_eq_true_eq, decide_eq_false_iff_not] at hg) | ((first | refine CallK.intro (dc_impl_inRange _ _ _) ?_ | refine CallK.intro (dc_impl_codeIf _ _) ?_ | refine CallK.intro (dc_parents_next l (depsOf l) s.par hl rfl (by omega)) ?_ | refine CallK.intro (dc_impl_firstCode [_, _] (by simp)) ?_ | refine CallK.intro (dc_impl_firstCode [_, _, _] (by simp)) ?_ | refine CallK.intro (dc_impl_firstCode [_, _, _, _] (by simp)) ?_); simp +contextual -dsimp (maxSteps := 2000000) [go_sem, -decide_eq_true_eq, -decide_eq_false_iff_not]) | omega | exact True.intro
   all_goals clear hk k
   all_goals (show St.Less _ _; exact Less.of rfl (by simp [go_sem, firstC_cons, firstC_nil] at * <;> grind) (by simp [go_sem]))
  ·skip
   refine rgA [1,2,5,6,8,59] ?_
   refine AW.cond rfl ?_ ?_
   ·intro hc; try simp at hc
    all_goals try (exfalso; omega; done)
    all_goals (
     refine rgA [1,4] ?_
     refine rt ?_
     first | (rw [stepF_good hz1 hz2 hz3]; simp [go_sem, Try.results56, hnL, hnD, firstC_cons, firstC_nil]; (try grind [inR]); done) | (simp [go_sem, Try.results56]; have := @inR_iff s.kind 1 8; unfold stepF; grind))
   ·intro hc; try simp at hc
    all_goals try (exfalso; omega; done)
    all_goals (
     refine AW.skipN (fun _ h => h) ?_
     refine AW.seq ?_
     have hz : inR s.kind 1 8 = true ∧ alien s = false ∧ parF l s.par = 0 := by grind
     obtain ⟨hz1, hz2, hz3⟩ := hz
     have hnL := nxtL_app hz3
     have hnD := nxtD_app hl hz3
     refine rg [1,2,5,6,9] ?_
     intro k hk; simp -dsimp (maxSteps := 2000000) [go_sem, -decide_eq_true_eq, -decide_eq_false_iff_not, hnL, hnD]
     repeat' first | apply And.intro | refine hk _ ?_ | intro hg | ((first | refine CallK.intro (dc_impl_parents_last _ _ _ (by simp [hdl]; omega)) ?_ | refine CallK.intro (dc_impl_codeIf _ _) ?_); simp -dsimp (maxSteps := 2000000) [go_sem, -decide_eq_true_eq, -decide_eq_false_iff_not, hnL, hnD]) | omega | exact True.intro
     all_goals clear hk k
     refine rgA [1,2,5,6,9,66] ?_
     refine AW.cond rfl ?_ ?_
     ·intro hc; try simp at hc
      all_goals try (exfalso; omega; done)
      all_goals (
       refine rgA [1,4] ?_
       refine rt ?_
       first | (rw [stepF_good hz1 hz2 hz3]; simp [go_sem, Try.results56, hnL, hnD, firstC_cons, firstC_nil]; (try grind [inR]); done) | (simp [go_sem, Try.results56]; have := @inR_iff s.kind 1 8; unfold stepF; grind))
     ·intro hc; try simp at hc
      all_goals try (exfalso; omega; done)
      all_goals (
       refine AW.skipN (fun _ h => h) ?_
       refine AW.seq ?_
       refine rgA [1,2,5,6,69] ?_
       refine AW.block ?_
       refine rgA [1,2,5,6,69,70] ?_
       refine AW.cond rfl ?_ ?_
       ·intro hc; try simp at hc
        all_goals try (exfalso; omega; done)
        all_goals (
         refine rg [1,4] ?_
         intro k hk; simp -dsimp (maxSteps := 2000000) [go_sem, -decide_eq_true_eq, -decide_eq_false_iff_not]
         repeat' first | apply And.intro | refine hk _ ?_ | intro hg | (refine CallK.intro (dc_impl_NameFault s.name g0) ?_; simp -dsimp (maxSteps := 2000000) [go_sem, -decide_eq_true_eq, -decide_eq_false_iff_not]) | omega | exact True.intro
         all_goals clear hk k
         refine rt ?_
         first | (rw [stepF_good hz1 hz2 hz3]; simp [go_sem, Try.results56, hnL, hnD, firstC_cons, firstC_nil]; (try grind [inR]); done) | (simp [go_sem, Try.results56]; have := @inR_iff s.kind 1 8; unfold stepF; grind))
       ·intro hc; try simp at hc
        all_goals try (exfalso; omega; done)
        all_goals (
         refine rgA [1,2,5,6,75] ?_
         refine AW.cond rfl ?_ ?_
         ·intro hc; try simp at hc
          all_goals try (exfalso; omega; done)
          all_goals (
           refine rg [1,4] ?_
           intro k hk; simp -dsimp (maxSteps := 2000000) [go_sem, -decide_eq_true_eq, -decide_eq_false_iff_not]
           repeat' first | (refine Chk.keys ?_; simp only [go_sem, List.map_cons, List.map_nil, List.flatMap_cons, List.flatMap_nil, List.flatMap_append, List.append_nil, List.nil_append, List.cons_append]; decide +kernel) | apply And.intro | refine hk _ ?_ | intro hg | ((first | refine CallK.intro (dc_impl_inRange _ _ _) ?_ | refine CallK.intro (dc_impl_codeIf _ _) ?_ | refine CallK.intro (dc_impl_ExprFault s.expr g2) ?_ | refine CallK.intro (dc_impl_firstCode [_, _] (by simp)) ?_ | refine CallK.intro (dc_impl_firstCode [_, _, _] (by simp)) ?_ | refine CallK.intro (dc_impl_firstCode [_, _, _, _] (by simp)) ?_); simp -dsimp (maxSteps := 2000000) [go_sem, -decide_eq_true_eq, -decide_eq_false_iff_not]) | omega | exact True.intro
           all_goals clear hk k
           refine rt ?_
           first | (rw [stepF_good hz1 hz2 hz3]; simp [go_sem, Try.results56, hnL, hnD, firstC_cons, firstC_nil]; (try grind [inR]); done) | (simp [go_sem, Try.results56]; have := @inR_iff s.kind 1 8; unfold stepF; grind))
         ·intro hc; try simp at hc
          all_goals try (exfalso; omega; done)
          all_goals (
           refine AW.skipN (fun _ h => h) ?_
           refine rg [1,4] ?_
           intro k hk; simp -dsimp (maxSteps := 2000000) [go_sem, -decide_eq_true_eq, -decide_eq_false_iff_not]
           repeat' first | apply And.intro | refine hk _ ?_ | intro hg | ((first | refine CallK.intro (dc_impl_inRange _ _ _) ?_ | refine CallK.intro (dc_impl_codeIf _ _) ?_); simp -dsimp (maxSteps := 2000000) [go_sem, -decide_eq_true_eq, -decide_eq_false_iff_not]) | omega | exact True.intro
           all_goals clear hk k
           refine rt ?_
           first | (rw [stepF_good hz1 hz2 hz3]; simp [go_sem, Try.results56, hnL, hnD, firstC_cons, firstC_nil]; (try grind [inR]); done) | (simp [go_sem, Try.results56]; have := @inR_iff s.kind 1 8; unfold stepF; grind)))))

end Go.AM
namespace Go.AM
open Go.Proofs

/-- impl.ProcFault -/
theorem dc_impl_ProcFault (p : List TStep) (hp : p.length ≤ 9223372036854775807) (hg : ∀ e ∈ p, e.gok) : DC Try.prog 27 [.isl 6 (p.map TStep.ro)] (.int .i64 (procF p)) [] := by
 refine DC.intro tiOk Try.func27 rfl rfl rfl rfl rfl rfl rfl rfl [] ?_
 refine rgA [0] ?_
 refine AW.seq ?_
 refine rg [0,15] ?_
 intro k hk; simp -dsimp (maxSteps := 2000000) [go_sem, -decide_eq_true_eq, -decide_eq_false_iff_not]
 repeat' first | apply And.intro | refine hk _ ?_ | intro hg | (refine CallK.intro (dc_impl_inRange _ _ _) ?_; simp -dsimp (maxSteps := 2000000) [go_sem, -decide_eq_true_eq, -decide_eq_false_iff_not]) | omega | exact True.intro
 all_goals clear hk k
 refine AW.cond rfl ?_ ?_
 ·intro hc; try simp at hc
  all_goals (
   refine rgA [2] ?_
   refine rt ?_
   first | (rw [procF_len (by simpa using hc)]; simp [go_sem, Try.results27]; done) | (rw [procF_ok hR h1 h2 h3]; simp [go_sem, Try.results27]; done) | (rw [procF_ty hR h1 h2 hlt hal3 (by first | assumption | simpa using hc)]; simp [go_sem, Try.results27]; done) | (rw [procF_shape hR h1 hlt hal2 (by first | assumption | simpa using hc)]; simp [go_sem, Try.results27]; done) | (rw [procF_one hR hlt hall (by rw [hxo]; first | assumption | simpa using hc), hxo]; simp [go_sem, Try.results27]))
 ·intro hc; try simp at hc
  all_goals (
   refine AW.skipN (fun _ h => h) ?_
   have hR : inR p.length 1 24 = true := by simpa using hc
   have hlen := inR_iff.1 hR
   have hts : depsOf [] = [] := rfl
   refine rgA [0,3] ?_
   refine AW.seq ?_
   refine rgA [0,3,18,19,20] ?_
   refine AW.block ?_
   refine AW.loopI (fun i : Nat => ⟨61, [(0, .isl 6 (p.map TStep.ro)), (3, .ptr 17 2 0 0), (18, .isl 6 (p.map TStep.ro)), (19, .int .i64 p.length), (20, .int .i64 i)], [(17, some ⟨2, [[nlc 1 ((parsT p i).map I1), nlc 1 ((depsOf (parsT p i)).map I1)]]⟩)]⟩) (fun i => i ≤ p.length ∧ ∀ k, k < i → oneF p k = 0) (fun i => p.length - i) (0) (by simp) (Less.of rfl (by simp [go_sem]) (by simp [go_sem, hts, parsT_zero])) ?_
   rintro i ⟨hi, hall⟩
   refine rgA [0,3,18,19,20,21] ?_
   refine AW.seq ?_
   refine AW.cond rfl ?_ ?_
   ·intro hc; try simp at hc
    all_goals (
     have hlt : i < p.length := by assumption
     obtain ⟨x, hx⟩ := at_some hlt
     have hxo := oneF_T hx
     refine AW.skipN (fun _ h => h) ?_
     refine AW.seq ?_
     refine AW.block ?_
     have hlo := ones_T (by omega) hall
     refine rg [0,3,5,18,19,20] ?_
     intro k hk; simp -dsimp [go_sem, -decide_eq_true_eq, -decide_eq_false_iff_not, hx]
     repeat' first | apply And.intro | refine hk _ ?_ | intro hg | omega | exact True.intro
     all_goals clear hk k
     refine AW.reg tiOk (fun _ => [1]) [0,3,6,18,19,20] ?_
     intro k hk; simp -dsimp (maxSteps := 2000000) [go_sem, -decide_eq_true_eq, -decide_eq_false_iff_not, hx]
     repeat' first | apply And.intro | refine hk _ ?_ | intro hg | (refine CallK.intro (dc_impl_stepFault x (hg x (List.mem_of_getElem? hx)) (parsT p i) hlo (by rw [parsT_len (by omega)]; omega)) ?_; simp -dsimp (maxSteps := 2000000) [go_sem, -decide_eq_true_eq, -decide_eq_false_iff_not, hx]) | omega | exact True.intro
     all_goals clear hk k
     refine rg [0,3,6,18,19,20,28] ?_
     intro k hk; simp -dsimp [go_sem, -decide_eq_true_eq, -decide_eq_false_iff_not, hx]
     repeat' first | apply And.intro | refine hk _ ?_ | intro hg | omega | exact True.intro
     all_goals clear hk k
     refine AW.cond rfl ?_ ?_
     ·intro hc; try simp at hc
      all_goals (
       refine rg [2] ?_
       intro k hk; simp -dsimp [go_sem, -decide_eq_true_eq, -decide_eq_false_iff_not, hx]
       repeat' first | apply And.intro | refine hk _ ?_ | intro hg | omega | exact True.intro
       all_goals clear hk k
       refine rt ?_
       first | (rw [procF_len (by simpa using hc)]; simp [go_sem, Try.results27]; done) | (rw [procF_ok hR h1 h2 h3]; simp [go_sem, Try.results27]; done) | (rw [procF_ty hR h1 h2 hlt hal3 (by first | assumption | simpa using hc)]; simp [go_sem, Try.results27]; done) | (rw [procF_shape hR h1 hlt hal2 (by first | assumption | simpa using hc)]; simp [go_sem, Try.results27]; done) | (rw [procF_one hR hlt hall (by rw [hxo]; first | assumption | simpa using hc), hxo]; simp [go_sem, Try.results27]))
     ·intro hc; try simp at hc
      all_goals (
       refine AW.skipN (fun _ h => h) ?_
       refine rgK ?_
       intro k hk; simp -dsimp [go_sem, -decide_eq_true_eq, -decide_eq_false_iff_not, hx]
       repeat' first | apply And.intro | refine hk _ ?_ | intro hg | omega | exact True.intro
       all_goals clear hk k
       show ∃ _, _
       have hw := wrapi hlt (by omega)
       have hz : stepF (parsT p i) x = 0 := by simpa using hc
       have hpz := stepF_par hz
       have htn := parsT_next hx
       refine ⟨i + 1, ⟨by omega, upto hall (by rw [hxo]; exact hz)⟩, by omega, Less.of rfl (by simp [go_sem, hw]) (by simp [go_sem, htn, nxtL_app hpz, nxtD_deps (ones_T (by omega) hall) hpz])⟩))
   ·intro hc; try simp at hc
    all_goals (
     refine AW.exitN (fun _ h => h) ?_
     refine AW.seq ?_
     have h1 : ∀ k, k < p.length → oneF p k = 0 := fun k hk => hall k (by omega)
     have ho : StepsOk p := ⟨by omega, h1⟩
     refine rgA [0,32,33] ?_
     refine AW.block ?_
     refine AW.loopI (fun i : Nat => ⟨61, [(0, .isl 6 (p.map TStep.ro)), (32, .int .i64 p.length), (33, .int .i64 i)], []⟩) (fun i => i ≤ p.length ∧ ∀ k, k < i → shapeF p k = 0) (fun i => p.length - i) (0) (by simp) (Less.of rfl (by simp [go_sem]) (by simp [go_sem])) ?_
     rintro i ⟨hi, hal2⟩
     refine rgA [0,32,33,34] ?_
     refine AW.seq ?_
     refine AW.cond rfl ?_ ?_
     ·intro hc; try simp at hc
      all_goals (
       have hlt : i < p.length := by assumption
       refine AW.skipN (fun _ h => h) ?_
       refine AW.seq ?_
       refine AW.block ?_
       refine rgA [0,7,32,33] ?_
       refine rg [0,8,32,33] ?_
       intro k hk; simp -dsimp (maxSteps := 2000000) [go_sem, -decide_eq_true_eq, -decide_eq_false_iff_not]
       repeat' first | apply And.intro | refine hk _ ?_ | intro hg | (refine CallK.intro (dc_impl_condFault p ho i hlt hg) ?_; simp -dsimp (maxSteps := 2000000) [go_sem, -decide_eq_true_eq, -decide_eq_false_iff_not]) | omega | exact True.intro
       all_goals clear hk k
       refine rgA [0,8,32,33,40] ?_
       refine AW.cond rfl ?_ ?_
       ·intro hc; try simp at hc
        all_goals (
         refine rgA [2] ?_
         refine rt ?_
         first | (rw [procF_len (by simpa using hc)]; simp [go_sem, Try.results27]; done) | (rw [procF_ok hR h1 h2 h3]; simp [go_sem, Try.results27]; done) | (rw [procF_ty hR h1 h2 hlt hal3 (by first | assumption | simpa using hc)]; simp [go_sem, Try.results27]; done) | (rw [procF_shape hR h1 hlt hal2 (by first | assumption | simpa using hc)]; simp [go_sem, Try.results27]; done) | (rw [procF_one hR hlt hall (by rw [hxo]; first | assumption | simpa using hc), hxo]; simp [go_sem, Try.results27]))
       ·intro hc; try simp at hc
        all_goals (
         refine AW.skipN (fun _ h => h) ?_
         refine rgKA ?_
         show ∃ _, _
         have hw := wrapi hlt (by omega)
         refine ⟨i + 1, ⟨by omega, upto hal2 (by first | assumption | simpa using hc)⟩, by omega, Less.of rfl (by simp [go_sem, hw]) (by simp [go_sem])⟩))
     ·intro hc; try simp at hc
      all_goals (
       refine AW.exitN (fun _ h => h) ?_
       refine AW.seq ?_
       have h2 : ∀ k, k < p.length → shapeF p k = 0 := fun k hk => hal2 k (by omega)
       refine rgA [43,44,45] ?_
       refine AW.block ?_
       refine AW.loopI (fun i : Nat => ⟨61, [(43, .isl 6 (p.map TStep.ro)), (44, .int .i64 p.length), (45, .int .i64 i)], []⟩) (fun i => i ≤ p.length ∧ ∀ k, k < i → tyF p k = 0) (fun i => p.length - i) (0) (by simp) (Less.of rfl (by simp [go_sem]) (by simp [go_sem])) ?_
       rintro i ⟨hi, hal3⟩
       refine rgA [43,44,45,46] ?_
       refine AW.seq ?_
       refine AW.cond rfl ?_ ?_
       ·intro hc; try simp at hc
        all_goals (
         have hlt : i < p.length := by assumption
         obtain ⟨x, hx⟩ := at_some hlt
         have hxt := tyF_at hx
         obtain ⟨g0, g1, g2⟩ := hg x (List.mem_of_getElem? hx)
         have hfc : firstC [typF x.cond 2, typF x.expr 1] = tyF p i := by rw [hxt]; simp [firstC_cons, firstC_nil] <;> grind
         refine AW.skipN (fun _ h => h) ?_
         refine AW.seq ?_
         refine AW.block ?_
         refine rg [10,43,44,45] ?_
         intro k hk; simp -dsimp [go_sem, -decide_eq_true_eq, -decide_eq_false_iff_not, hx, hfc]
         repeat' first | apply And.intro | refine hk _ ?_ | intro hg | omega | exact True.intro
         all_goals clear hk k
         refine rg [11,43,44,45] ?_
         intro k hk; simp -dsimp (maxSteps := 2000000) [go_sem, -decide_eq_true_eq, -decide_eq_false_iff_not, hx, hfc]
         repeat' first | (refine Chk.keys ?_; simp only [go_sem, List.map_cons, List.map_nil, List.flatMap_cons, List.flatMap_nil, List.flatMap_append, List.append_nil, List.nil_append, List.cons_append]; decide +kernel) | apply And.intro | refine hk _ ?_ | intro hg | ((first | refine CallK.intro (dc_impl_typeFault x.cond 2 g1) ?_ | refine CallK.intro (dc_impl_typeFault x.expr 1 g2) ?_ | refine CallK.intro (dc_impl_firstCode [_, _] (by simp)) ?_ | refine CallK.intro (dc_impl_firstCode [_, _, _] (by simp)) ?_ | refine CallK.intro (dc_impl_firstCode [_, _, _, _] (by simp)) ?_); simp -dsimp (maxSteps := 2000000) [go_sem, -decide_eq_true_eq, -decide_eq_false_iff_not, hx, hfc]) | omega | exact True.intro
         all_goals clear hk k
         refine rg [11,43,44,45,58] ?_
         intro k hk; simp -dsimp [go_sem, -decide_eq_true_eq, -decide_eq_false_iff_not, hx, hfc]
         repeat' first | apply And.intro | refine hk _ ?_ | intro hg | omega | exact True.intro
         all_goals clear hk k
         refine AW.cond rfl ?_ ?_
         ·intro hc; try simp at hc
          all_goals (
           refine rg [2] ?_
           intro k hk; simp -dsimp [go_sem, -decide_eq_true_eq, -decide_eq_false_iff_not, hx, hfc]
           repeat' first | apply And.intro | refine hk _ ?_ | intro hg | omega | exact True.intro
           all_goals clear hk k
           refine rt ?_
           first | (rw [procF_len (by simpa using hc)]; simp [go_sem, Try.results27]; done) | (rw [procF_ok hR h1 h2 h3]; simp [go_sem, Try.results27]; done) | (rw [procF_ty hR h1 h2 hlt hal3 (by first | assumption | simpa using hc)]; simp [go_sem, Try.results27]; done) | (rw [procF_shape hR h1 hlt hal2 (by first | assumption | simpa using hc)]; simp [go_sem, Try.results27]; done) | (rw [procF_one hR hlt hall (by rw [hxo]; first | assumption | simpa using hc), hxo]; simp [go_sem, Try.results27]))
         ·intro hc; try simp at hc
          all_goals (
           refine AW.skipN (fun _ h => h) ?_
           refine rgK ?_
           intro k hk; simp -dsimp [go_sem, -decide_eq_true_eq, -decide_eq_false_iff_not, hx, hfc]
           repeat' first | apply And.intro | refine hk _ ?_ | intro hg | omega | exact True.intro
           all_goals clear hk k
           show ∃ _, _
           have hw := wrapi hlt (by omega)
           refine ⟨i + 1, ⟨by omega, upto hal3 (by first | assumption | simpa using hc)⟩, by omega, Less.of rfl (by simp [go_sem, hw]) (by simp [go_sem])⟩))
       ·intro hc; try simp at hc
        all_goals (
         refine AW.exitN (fun _ h => h) ?_
         have h3 : ∀ k, k < p.length → tyF p k = 0 := fun k hk => hal3 k (by omega)
         refine rgA [2] ?_
         refine rt ?_
         first | (rw [procF_len (by simpa using hc)]; simp [go_sem, Try.results27]; done) | (rw [procF_ok hR h1 h2 h3]; simp [go_sem, Try.results27]; done) | (rw [procF_ty hR h1 h2 hlt hal3 (by first | assumption | simpa using hc)]; simp [go_sem, Try.results27]; done) | (rw [procF_shape hR h1 hlt hal2 (by first | assumption | simpa using hc)]; simp [go_sem, Try.results27]; done) | (rw [procF_one hR hlt hall (by rw [hxo]; first | assumption | simpa using hc), hxo]; simp [go_sem, Try.results27])))))

end Go.AM
namespace Go.AM
open Go.Proofs

/-- impl.PlainOf -/
theorem dc_impl_PlainOf_ok (p : List TStep) (hg : p.length ≤ 9223372036854775807 ∧ ∀ e ∈ p, e.gok) (hl : procF p = 0) : DC Try.prog 9 [.isl 6 (p.map TStep.ro)] (.agg [.int .i64 0, .osl 6 ((plS p).map TStep.oc)]) [] := by
 have hP := procOk hl
 have hpl := hP.len
 have hgo := grow_ok hP
 have hpo := plain_ok hP
 refine DC.intro tiOk Try.func9 rfl rfl rfl rfl rfl rfl rfl rfl [1000] ?_
 refine rg [0,2] ?_
 intro k hk; simp -dsimp [go_sem, -decide_eq_true_eq, -decide_eq_false_iff_not, hl]
 repeat' first | apply And.intro | refine hk _ ?_ | intro hg | omega | exact True.intro
 all_goals clear hk k
 refine AW.seq ?_
 refine rg [0,2,3] ?_
 intro k hk; simp -dsimp (maxSteps := 2000000) [go_sem, -decide_eq_true_eq, -decide_eq_false_iff_not, hl]
 repeat' first | apply And.intro | refine hk _ ?_ | intro hg | (refine CallK.intro (dc_impl_ProcFault p hg.1 hg.2) ?_; simp -dsimp (maxSteps := 2000000) [go_sem, -decide_eq_true_eq, -decide_eq_false_iff_not, hl]) | omega | exact True.intro
 all_goals clear hk k
 refine rg [0,2,3,7] ?_
 intro k hk; simp -dsimp [go_sem, -decide_eq_true_eq, -decide_eq_false_iff_not, hl]
 repeat' first | apply And.intro | refine hk _ ?_ | intro hg | omega | exact True.intro
 all_goals clear hk k
 refine AW.cond rfl ?_ ?_
 ·intro hc; try simp at hc
  all_goals try (exfalso; contradiction; done)
  all_goals (
   refine rg [2] ?_
   intro k hk; simp -dsimp [go_sem, -decide_eq_true_eq, -decide_eq_false_iff_not, hl]
   repeat' first | apply And.intro | refine hk _ ?_ | intro hg | omega | exact True.intro
   all_goals clear hk k
   refine rt ?_
   simp [go_sem, Try.results9, plS])
 ·intro hc; try simp at hc
  all_goals try (exfalso; contradiction; done)
  all_goals (
   refine AW.skipN (fun _ h => h) ?_
   refine rg [2] ?_
   intro k hk; simp -dsimp (maxSteps := 2000000) [go_sem, -decide_eq_true_eq, -decide_eq_false_iff_not, hl]
   repeat' first | apply And.intro | refine hk _ ?_ | intro hg | ((first | refine CallK.intro (dc_grow_impl p hP p.length 0 (by omega) (by simp; omega) (by simp)) ?_ | refine CallK.intro (dc_plain_impl (growF p p.length 0) hgo.1) ?_ | refine CallK.intro (dc_steps_impl_n (plainT (growF p p.length 0)) (plain_all2 hP) (-1) hpo.1) ?_); simp -dsimp (maxSteps := 2000000) [go_sem, -decide_eq_true_eq, -decide_eq_false_iff_not, hl]) | omega | exact True.intro
   all_goals clear hk k
   refine rt ?_
   simp [go_sem, Try.results9, plS])

/-- impl.PlainOf -/
theorem dc_impl_PlainOf_bad (p : List TStep) (hg : p.length ≤ 9223372036854775807 ∧ ∀ e ∈ p, e.gok) (hl : procF p ≠ 0) : DC Try.prog 9 [.isl 6 (p.map TStep.ro)] (.agg [.int .i64 (procF p), .isl 6 []]) [] := by
 refine DC.intro tiOk Try.func9 rfl rfl rfl rfl rfl rfl rfl rfl [1000] ?_
 refine rg [0,2] ?_
 intro k hk; simp -dsimp [go_sem, -decide_eq_true_eq, -decide_eq_false_iff_not, hl]
 repeat' first | apply And.intro | refine hk _ ?_ | intro hg | omega | exact True.intro
 all_goals clear hk k
 refine AW.seq ?_
 refine rg [0,2,3] ?_
 intro k hk; simp -dsimp (maxSteps := 2000000) [go_sem, -decide_eq_true_eq, -decide_eq_false_iff_not, hl]
 repeat' first | apply And.intro | refine hk _ ?_ | intro hg | (refine CallK.intro (dc_impl_ProcFault p hg.1 hg.2) ?_; simp -dsimp (maxSteps := 2000000) [go_sem, -decide_eq_true_eq, -decide_eq_false_iff_not, hl]) | omega | exact True.intro
 all_goals clear hk k
 refine rg [0,2,3,7] ?_
 intro k hk; simp -dsimp [go_sem, -decide_eq_true_eq, -decide_eq_false_iff_not, hl]
 repeat' first | apply And.intro | refine hk _ ?_ | intro hg | omega | exact True.intro
 all_goals clear hk k
 refine AW.cond rfl ?_ ?_
 ·intro hc; try simp at hc
  all_goals try (exfalso; contradiction; done)
  all_goals (
   refine rg [2] ?_
   intro k hk; simp -dsimp [go_sem, -decide_eq_true_eq, -decide_eq_false_iff_not, hl]
   repeat' first | apply And.intro | refine hk _ ?_ | intro hg | omega | exact True.intro
   all_goals clear hk k
   refine rt ?_
   simp [go_sem, Try.results9])
 ·intro hc; try simp at hc
  all_goals try (exfalso; contradiction; done)
  all_goals (
   refine AW.skipN (fun _ h => h) ?_
   skip)

end Go.AM
namespace Go.AM
open Go.Proofs

set_option maxHeartbeats 4000000 in
/-- spec.l7Plain -/
theorem dc_spec_l7Plain (t : TB) (hI : ∀ k ∈ t.ks, k.cnt ≤ 24 → DC Try.prog 50 [.agg (rowT k)] (.agg (rowT (plainT k))) []) (hn : t.cnt ≤ 24) : DC Try.prog 50 [.agg (rowT t)] (.agg (rowT (plainT t))) [] := by
 have htc := t.cnt_eq
 have hkl := TB.cntL_len t.ks
 refine DC.intro tiOk Try.func50 rfl rfl rfl rfl rfl rfl rfl rfl [] ?_
 refine rgA [1,2] ?_
 refine rgA [1,2,3] ?_
 refine AW.seq ?_
 refine rgA [1,2,3,4] ?_
 refine AW.block ?_
 refine AW.rename (nd := ?nd_1) 7 38 ?h1_1 ?h2_1 ?h4_1 ?kk_1
 (case h1_1 => exact rfl)
 (case h2_1 => simp [go_sem])
 (case h4_1 => simp [go_sem])
 refine AW.loopI (fun i : Nat => ⟨65, [(1, .ptr 1 7 0 0), (2, .ptr 2 7 0 0), (3, .sl 38 7 0 (jnL t i).length), (4, .int .i64 (i : Nat))], [(1, some ⟨7, [t.ro]⟩), (2, some ⟨7, [[.int .i64 0, .int .i64 0, .str [], .int .i64 0, .nils, .nils, .nils]]⟩), (38, some ⟨7, (jnL t i).map TB.ro⟩)]⟩) (fun i => i ≤ t.ks.length) (fun i => t.ks.length - i) (0) (Nat.zero_le _) (Less.of rfl (by simp [go_sem, jn_zero]) (by simp [go_sem, jn_zero])) ?_
 rintro i hi
 refine AW.rename (nd := ?nd_2) 38 7 ?h1_2 ?h2_2 ?h4_2 ?kk_2
 (case h1_2 => exact rfl)
 (case h2_2 => simp [go_sem])
 (case h4_2 => simp [go_sem])
 refine AW.seq ?_
 refine rgA [1,2,3,4,12] ?_
 refine AW.cond rfl ?_ ?_
 ·intro hc; try simp at hc
  all_goals (
   have hlt : i < t.ks.length := by first | assumption | omega
   obtain ⟨y, hy⟩ := at_some (l := t.ks) hlt
   have hy3 : ∀ h, t.ks[i]'h = y := fun h => by have h9 := hy; rw [List.getElem?_eq_getElem h] at h9; exact Option.some.inj h9
   have hyc := TB.cntL_mem (List.mem_of_getElem? hy)
   have hIy := hI y (List.mem_of_getElem? hy) (by omega)
   have hjs := jn_succ hy
   have hj1 := jn_len t i
   have hj2 := jn_len t (i + 1)
   obtain ⟨z, hz⟩ : ∃ z, plainT y = z := ⟨_, rfl⟩
   rw [hz] at hIy hjs
   have htk : ((jnL t i).map TB.ro).take (jnL t i).length = (jnL t i).map TB.ro := List.take_of_length_le (by rw [List.length_map]; exact Nat.le_refl _)
   refine AW.skipN (fun _ h => h) ?_
   refine AW.seq ?_
   refine AW.block ?_
   refine rg [1,2,3,4,5] ?_
   intro k hk; simp -dsimp (maxSteps := 2000000) [go_sem, -decide_eq_true_eq, -decide_eq_false_iff_not, hy, hy3, htk]
   repeat' first | apply And.intro | refine hk _ ?_ | intro hg | (refine CallK.intro (hIy) ?_; simp -dsimp (maxSteps := 2000000) [go_sem, -decide_eq_true_eq, -decide_eq_false_iff_not, hy, hy3, htk]) | omega | exact True.intro
   all_goals clear hk k
   refine rg [1,2,3,4,5,30] ?_
   intro k hk; simp +contextual -dsimp (maxSteps := 2000000) [go_sem, -decide_eq_true_eq, -decide_eq_false_iff_not, hy, hy3, htk]
   repeat' first | apply And.intro | refine hk _ ?_ | (intro hg; try simp only [decide_eq_true_eq, decide_eq_false_iff_not] at hg) | omega | exact True.intro
   all_goals clear hk k
   all_goals (
    refine AW.cond rfl ?_ ?_
    ·intro hc; try simp at hc
     all_goals (
      have hks : jnL t (i + 1) = jnL t i ++ z.ks := by rw [hjs, if_pos (by grind)]
      have hj3 : (jnL t i).length + z.ks.length ≤ 24 := by rw [hks, List.length_append] at hj2; omega
      refine rgN [1,2,3,4] (fun _ h => h) ?_
      intro k hk; simp -dsimp [go_sem, -decide_eq_true_eq, -decide_eq_false_iff_not, hy, hy3, htk]
      repeat' first | apply And.intro | refine hk _ ?_ | intro hg | omega | exact True.intro
      all_goals clear hk k
      try (refine AW.rename (nd := ?nd_3) 34 38 ?h1_3 ?h2_3 ?h4_3 ?kk_3; (case h1_3 => exact rfl); (case h2_3 => simp [go_sem]); (case h4_3 => simp [go_sem]))
      refine rgK ?_
      intro k hk; simp -dsimp [go_sem, -decide_eq_true_eq, -decide_eq_false_iff_not, hy, hy3, htk]
      repeat' first | apply And.intro | refine hk _ ?_ | intro hg | omega | exact True.intro
      all_goals clear hk k
      show ∃ _, _
      have hww := wrapi hlt (by omega)
      refine ⟨i + 1, by omega, by omega, Less.of rfl (by simp [go_sem, hww, hks]) (by simp [go_sem, hks])⟩)
    ·intro hc; try simp at hc
     all_goals (
      have hks : jnL t (i + 1) = jnL t i ++ [z] := by rw [hjs, if_neg (by grind)]
      refine rgN [1,2,3,4] (fun _ h => h) ?_
      intro k hk; simp -dsimp [go_sem, -decide_eq_true_eq, -decide_eq_false_iff_not, hy, hy3, htk]
      repeat' first | apply And.intro | refine hk _ ?_ | intro hg | omega | exact True.intro
      all_goals clear hk k
      try (refine AW.rename (nd := ?nd_4) 34 38 ?h1_4 ?h2_4 ?h4_4 ?kk_4; (case h1_4 => exact rfl); (case h2_4 => simp [go_sem]); (case h4_4 => simp [go_sem]))
      refine rgK ?_
      intro k hk; simp -dsimp [go_sem, -decide_eq_true_eq, -decide_eq_false_iff_not, hy, hy3, htk]
      repeat' first | apply And.intro | refine hk _ ?_ | intro hg | omega | exact True.intro
      all_goals clear hk k
      show ∃ _, _
      have hww := wrapi hlt (by omega)
      refine ⟨i + 1, by omega, by omega, Less.of rfl (by simp [go_sem, hww, hks]) (by simp [go_sem, hks])⟩)))
 ·intro hc; try simp at hc
  all_goals (
   refine AW.exitN (fun _ h => h) ?_
   obtain rfl : i = t.ks.length := by first | omega | (simp at hc; omega)
   rw [jn_end t]
   obtain ⟨J, hJ⟩ : ∃ J, joinF t.s (t.ks.map plainT) = J := ⟨_, rfl⟩
   rw [hJ]
   refine AW.freeze 3 7 (l' := J.map TB.ro) rfl rfl rfl (by simp) (by simp [go_sem]) (by simp [go_sem]) ?_
   rcases J with _ | ⟨o, _ | ⟨o2, r⟩⟩
   all_goals (
    refine rgA [1,2,3] ?_
    refine AW.seq ?_
    refine rg [1,2,3,49] ?_
    intro k hk; simp +contextual -dsimp (maxSteps := 2000000) [go_sem, -decide_eq_true_eq, -decide_eq_false_iff_not]
    repeat' first | apply And.intro | refine hk _ ?_ | (intro hg; try simp only [decide_eq_true_eq, decide_eq_false_iff_not] at hg) | omega | exact True.intro
    all_goals clear hk k
    all_goals (
     refine AW.cond rfl ?_ ?_
     ·intro hc; try simp at hc
      all_goals (
       refine rgA [1,2,6] ?_
       refine AW.seq ?_
       refine rgA [1,2,6,57] ?_
       refine AW.cond rfl ?_ ?_
       ·intro hc; try simp at hc
        all_goals (
         refine rgNA [2,6] (fun _ h => h) ?_
         refine rgA [2] ?_
         refine rt ?_
         first | (exfalso; omega) | (rw [plainT_eq, hJ]; simp_all [go_sem, Try.results50, soleF, condB]))
       ·intro hc; try simp at hc
        all_goals (
         refine AW.skipN (fun _ h => h) ?_
         refine rgA [2] ?_
         refine rt ?_
         first | (exfalso; omega) | (rw [plainT_eq, hJ]; simp_all [go_sem, Try.results50, soleF, condB])))
     ·intro hc; try simp at hc
      all_goals (
       refine AW.skipN (fun _ h => h) ?_
       refine rgA [2] ?_
       refine rt ?_
       first | (exfalso; omega) | (rw [plainT_eq, hJ]; simp_all [go_sem, Try.results50, soleF, condB])))))

theorem dc_plain_spec : ∀ t : TB, t.cnt ≤ 24 → DC Try.prog 50 [.agg (rowT t)] (.agg (rowT (plainT t))) [] := by
 refine TB.ind fun t ih => ?_
 intro hn
 exact dc_spec_l7Plain t ih hn

end Go.AM
namespace Go.AM
open Go.Proofs

set_option maxHeartbeats 4000000 in
/-- spec.l7Flat -/
theorem dc_spec_l7Flat (ps : List TStep) (t : TB) (par : Int) (hI : ∀ k ∈ t.ks, ∀ (qs : List TStep) (q : Int), qs.length + k.cnt ≤ 24 → DC Try.prog 53 [.osl 6 (qs.map TStep.ro), .ip (rowT k), .int .i64 q] (.osl 6 ((qs ++ stepsT qs.length q k).map TStep.ro)) []) (hn : ps.length + t.cnt ≤ 24) : DC Try.prog 53 [.osl 6 (ps.map TStep.ro), .ip (rowT t), .int .i64 par] (.osl 6 ((ps ++ stepsT ps.length par t).map TStep.ro)) [] := by
 have htc := t.cnt_eq
 have hkl := TB.cntL_len t.ks
 have hps : (ps.map TStep.ro).take ps.length = ps.map TStep.ro := List.take_of_length_le (by rw [List.length_map]; exact Nat.le_refl _)
 refine DC.intro tiOk Try.func53 rfl rfl rfl rfl rfl rfl rfl rfl [1000] ?_
 refine rg [0,1,2] ?_
 intro k hk; simp -dsimp [go_sem, -decide_eq_true_eq, -decide_eq_false_iff_not, hps]
 repeat' first | apply And.intro | refine hk _ ?_ | intro hg | omega | exact True.intro
 all_goals clear hk k
 refine rg [0,1,2,7] ?_
 intro k hk; simp -dsimp [go_sem, -decide_eq_true_eq, -decide_eq_false_iff_not, hps]
 repeat' first | apply And.intro | refine hk _ ?_ | intro hg | omega | exact True.intro
 all_goals clear hk k
 refine rg [0,1,7] ?_
 intro k hk; simp -dsimp [go_sem, -decide_eq_true_eq, -decide_eq_false_iff_not, hps]
 repeat' first | apply And.intro | refine hk _ ?_ | intro hg | omega | exact True.intro
 all_goals clear hk k
 refine rg [0,1,7,8] ?_
 intro k hk; simp -dsimp [go_sem, -decide_eq_true_eq, -decide_eq_false_iff_not, hps]
 repeat' first | apply And.intro | refine hk _ ?_ | intro hg | omega | exact True.intro
 all_goals clear hk k
 refine rg [0,1,8] ?_
 intro k hk; simp -dsimp [go_sem, -decide_eq_true_eq, -decide_eq_false_iff_not, hps]
 repeat' first | apply And.intro | refine hk _ ?_ | intro hg | omega | exact True.intro
 all_goals clear hk k
 refine AW.seq ?_
 refine rg [0,1,8,9] ?_
 intro k hk; simp -dsimp [go_sem, -decide_eq_true_eq, -decide_eq_false_iff_not, hps]
 repeat' first | apply And.intro | refine hk _ ?_ | intro hg | omega | exact True.intro
 all_goals clear hk k
 refine AW.block ?_
 refine AW.rename (nd := ?nd_1) 21 1039 ?h1_1 ?h2_1 ?h4_1 ?kk_1
 (case h1_1 => exact rfl)
 (case h2_1 => simp [go_sem])
 (case h4_1 => simp [go_sem])
 refine AW.loopI (fun i : Nat => ⟨41, [(0, .sl 1039 6 0 (stK ps par t i).length), (1, .ip (rowT t)), (8, .int .i64 ps.length), (9, .int .i64 (i : Nat))], [(1039, some ⟨6, (stK ps par t i).map TStep.ro⟩)]⟩) (fun i => i ≤ t.ks.length) (fun i => t.ks.length - i) (0) (Nat.zero_le _) (Less.of rfl (by simp [go_sem, stK_zero]) (by simp [go_sem, stK_zero])) ?_
 rintro i hi
 refine AW.rename (nd := ?nd_2) 1039 21 ?h1_2 ?h2_2 ?h4_2 ?kk_2
 (case h1_2 => exact rfl)
 (case h2_2 => simp [go_sem])
 (case h4_2 => simp [go_sem])
 refine AW.seq ?_
 refine rg [0,1,8,9,28] ?_
 intro k hk; simp -dsimp (maxSteps := 2000000) [go_sem, -decide_eq_true_eq, -decide_eq_false_iff_not, hps]
 repeat' first | apply And.intro | refine hk _ ?_ | intro hg | omega | exact True.intro
 all_goals clear hk k
 refine AW.cond rfl ?_ ?_
 ·intro hc; try simp at hc
  all_goals (
   have hlt : i < t.ks.length := by first | assumption | omega
   obtain ⟨y, hy⟩ := at_some (l := t.ks) hlt
   have hy3 : ∀ h, t.ks[i]'h = y := fun h => by have h9 := hy; rw [List.getElem?_eq_getElem h] at h9; exact Option.some.inj h9
   have hks := stK_succ ps par hy
   have hsl := stK_len ps par t i
   have hs2 := stK_len ps par t (i + 1)
   have hIy := hI y (List.mem_of_getElem? hy) (stK ps par t i) (ps.length : Int) (by rw [hks, List.length_append, stepsT_len] at hs2; omega)
   rw [← hks] at hIy
   refine AW.skipN (fun _ h => h) ?_
   refine AW.seq ?_
   refine AW.block ?_
   refine AW.regN tiOk (fun _ => [0]) [0,1,8,9] (fun _ h => h) ?_
   intro k hk; simp -dsimp (maxSteps := 2000000) [go_sem, -decide_eq_true_eq, -decide_eq_false_iff_not, hps, hy, hy3]
   repeat' first | apply And.intro | refine hk _ ?_ | intro hg | (refine CallK.intro (hIy) ?_; simp -dsimp (maxSteps := 2000000) [go_sem, -decide_eq_true_eq, -decide_eq_false_iff_not, hps, hy, hy3]) | omega | exact True.intro
   all_goals clear hk k
   refine rgK ?_
   intro k hk; simp -dsimp [go_sem, -decide_eq_true_eq, -decide_eq_false_iff_not, hps, hy, hy3]
   repeat' first | apply And.intro | refine hk _ ?_ | intro hg | omega | exact True.intro
   all_goals clear hk k
   show ∃ _, _
   have hww := wrapi hlt (by omega)
   refine ⟨i + 1, by omega, by omega, Less.of rfl (by simp [go_sem, hww]) (by simp [go_sem])⟩)
 ·intro hc; try simp at hc
  all_goals (
   refine AW.exitN (fun _ h => h) ?_
   refine rg [6] ?_
   intro k hk; simp -dsimp [go_sem, -decide_eq_true_eq, -decide_eq_false_iff_not, hps]
   repeat' first | apply And.intro | refine hk _ ?_ | intro hg | omega | exact True.intro
   all_goals clear hk k
   refine rt ?_
   obtain rfl : i = t.ks.length := (by first | omega | (simp at hc; omega))
   simp [go_sem, Try.results53, stK_end])

set_option maxHeartbeats 4000000 in
/-- spec.l7Flat -/
theorem dc_spec_l7Flat_n (t : TB) (par : Int) (hI : ∀ k ∈ t.ks, ∀ (qs : List TStep) (q : Int), qs.length + k.cnt ≤ 24 → DC Try.prog 53 [.osl 6 (qs.map TStep.ro), .ip (rowT k), .int .i64 q] (.osl 6 ((qs ++ stepsT qs.length q k).map TStep.ro)) []) (hn : ([] : List TStep).length + t.cnt ≤ 24) : DC Try.prog 53 [.nils, .op (rowT t), .int .i64 par] (.osl 6 ((([] : List TStep) ++ stepsT ([] : List TStep).length par t).map TStep.ro)) [] := by
 have htc := t.cnt_eq
 have hkl := TB.cntL_len t.ks
 have hps : (([] : List TStep).map TStep.ro).take ([] : List TStep).length = ([] : List TStep).map TStep.ro := List.take_of_length_le (by rw [List.length_map]; exact Nat.le_refl _)
 refine DC.intro tiOk Try.func53 rfl rfl rfl rfl rfl rfl rfl rfl [1000] ?_
 refine rg [0,1,2] ?_
 intro k hk; simp -dsimp [go_sem, -decide_eq_true_eq, -decide_eq_false_iff_not, hps]
 repeat' first | apply And.intro | refine hk _ ?_ | intro hg | omega | exact True.intro
 all_goals clear hk k
 refine rg [0,1,2,7] ?_
 intro k hk; simp -dsimp [go_sem, -decide_eq_true_eq, -decide_eq_false_iff_not, hps]
 repeat' first | apply And.intro | refine hk _ ?_ | intro hg | omega | exact True.intro
 all_goals clear hk k
 refine rg [0,1,7] ?_
 intro k hk; simp -dsimp [go_sem, -decide_eq_true_eq, -decide_eq_false_iff_not, hps]
 repeat' first | apply And.intro | refine hk _ ?_ | intro hg | omega | exact True.intro
 all_goals clear hk k
 refine rg [0,1,7,8] ?_
 intro k hk; simp -dsimp [go_sem, -decide_eq_true_eq, -decide_eq_false_iff_not, hps]
 repeat' first | apply And.intro | refine hk _ ?_ | intro hg | omega | exact True.intro
 all_goals clear hk k
 refine rg [0,1,8] ?_
 intro k hk; simp -dsimp [go_sem, -decide_eq_true_eq, -decide_eq_false_iff_not, hps]
 repeat' first | apply And.intro | refine hk _ ?_ | intro hg | omega | exact True.intro
 all_goals clear hk k
 refine AW.seq ?_
 refine rg [0,1,8,9] ?_
 intro k hk; simp -dsimp [go_sem, -decide_eq_true_eq, -decide_eq_false_iff_not, hps]
 repeat' first | apply And.intro | refine hk _ ?_ | intro hg | omega | exact True.intro
 all_goals clear hk k
 refine AW.block ?_
 refine AW.rename (nd := ?nd_1) 21 1039 ?h1_1 ?h2_1 ?h4_1 ?kk_1
 (case h1_1 => exact rfl)
 (case h2_1 => simp [go_sem])
 (case h4_1 => simp [go_sem])
 refine AW.loopI (fun i : Nat => ⟨41, [(0, .sl 1039 6 0 (stK ([] : List TStep) par t i).length), (1, .ptr 1901 7 0 0), (8, .int .i64 ([] : List TStep).length), (9, .int .i64 (i : Nat))], [(1901, some ⟨7, [rowT t]⟩), (1039, some ⟨6, (stK ([] : List TStep) par t i).map TStep.ro⟩)]⟩) (fun i => i ≤ t.ks.length) (fun i => t.ks.length - i) (0) (Nat.zero_le _) (Less.of rfl (by simp [go_sem, stK_zero]) (by simp [go_sem, stK_zero])) ?_
 rintro i hi
 refine AW.rename (nd := ?nd_2) 1039 21 ?h1_2 ?h2_2 ?h4_2 ?kk_2
 (case h1_2 => exact rfl)
 (case h2_2 => simp [go_sem])
 (case h4_2 => simp [go_sem])
 refine AW.seq ?_
 refine rg [0,1,8,9,28] ?_
 intro k hk; simp -dsimp (maxSteps := 2000000) [go_sem, -decide_eq_true_eq, -decide_eq_false_iff_not, hps]
 repeat' first | apply And.intro | refine hk _ ?_ | intro hg | omega | exact True.intro
 all_goals clear hk k
 refine AW.cond rfl ?_ ?_
 ·intro hc; try simp at hc
  all_goals (
   have hlt : i < t.ks.length := by first | assumption | omega
   obtain ⟨y, hy⟩ := at_some (l := t.ks) hlt
   have hy3 : ∀ h, t.ks[i]'h = y := fun h => by have h9 := hy; rw [List.getElem?_eq_getElem h] at h9; exact Option.some.inj h9
   have hks := stK_succ ([] : List TStep) par hy
   have hsl := stK_len ([] : List TStep) par t i
   have hs2 := stK_len ([] : List TStep) par t (i + 1)
   have hIy := hI y (List.mem_of_getElem? hy) (stK ([] : List TStep) par t i) (([] : List TStep).length : Int) (by rw [hks, List.length_append, stepsT_len] at hs2; omega)
   rw [← hks] at hIy
   refine AW.skipN (fun _ h => h) ?_
   refine AW.seq ?_
   refine AW.block ?_
   refine AW.regN tiOk (fun _ => [0]) [0,1,8,9] (fun _ h => h) ?_
   intro k hk; simp -dsimp (maxSteps := 2000000) [go_sem, -decide_eq_true_eq, -decide_eq_false_iff_not, hps, hy, hy3]
   repeat' first | apply And.intro | refine hk _ ?_ | intro hg | (refine CallK.intro (hIy) ?_; simp -dsimp (maxSteps := 2000000) [go_sem, -decide_eq_true_eq, -decide_eq_false_iff_not, hps, hy, hy3]) | omega | exact True.intro
   all_goals clear hk k
   refine rgK ?_
   intro k hk; simp -dsimp [go_sem, -decide_eq_true_eq, -decide_eq_false_iff_not, hps, hy, hy3]
   repeat' first | apply And.intro | refine hk _ ?_ | intro hg | omega | exact True.intro
   all_goals clear hk k
   show ∃ _, _
   have hww := wrapi hlt (by omega)
   refine ⟨i + 1, by omega, by omega, Less.of rfl (by simp [go_sem, hww]) (by simp [go_sem])⟩)
 ·intro hc; try simp at hc
  all_goals (
   refine AW.exitN (fun _ h => h) ?_
   refine rg [6] ?_
   intro k hk; simp -dsimp [go_sem, -decide_eq_true_eq, -decide_eq_false_iff_not, hps]
   repeat' first | apply And.intro | refine hk _ ?_ | intro hg | omega | exact True.intro
   all_goals clear hk k
   refine rt ?_
   obtain rfl : i = t.ks.length := (by first | omega | (simp at hc; omega))
   simp [go_sem, Try.results53, stK_end])

theorem dc_flat_spec : ∀ (t : TB) (ps : List TStep) (q : Int), ps.length + t.cnt ≤ 24 → DC Try.prog 53 [.osl 6 (ps.map TStep.ro), .ip (rowT t), .int .i64 q] (.osl 6 ((ps ++ stepsT ps.length q t).map TStep.ro)) [] := by
 refine TB.ind fun t ih => ?_
 intro ps q hn
 exact dc_spec_l7Flat ps t q ih hn
theorem dc_flat_spec_n (t : TB) (q : Int) (hn : t.cnt ≤ 24) : DC Try.prog 53 [.nils, .op (rowT t), .int .i64 q] (.osl 6 ((stepsT 0 q t).map TStep.ro)) [] :=
 dc_spec_l7Flat_n t q (fun k _ => dc_flat_spec k) (by simp; omega)

end Go.AM
namespace Go.AM
open Go.Proofs

/-- laws.szNodeS -/
theorem dc_laws_szNodeS (l : List TNode) (z : Int) (hz : 0 ≤ z ∧ z ≤ 1048576) (hl : l.length ≤ 9223372036854775807) : DC Try.prog 46 [.isl 4 (l.map TNode.ro), .int .i64 z] (.int .i64 (subz z l.length)) [] := by
 have hw : IntKind.wrap .i64 (z - (l.length : Int)) = z - (l.length : Int) := wrap64 (by omega) (by omega)
 refine DC.intro tiOk Try.func46 rfl rfl rfl rfl rfl rfl rfl rfl [] ?_
 refine rg [0,1] ?_
 intro k hk; simp -dsimp [go_sem, -decide_eq_true_eq, -decide_eq_false_iff_not, hw]
 repeat' first | apply And.intro | refine hk _ ?_ | intro hg | omega | exact True.intro
 all_goals clear hk k
 refine rg [1] ?_
 intro k hk; simp -dsimp [go_sem, -decide_eq_true_eq, -decide_eq_false_iff_not, hw]
 repeat' first | apply And.intro | refine hk _ ?_ | intro hg | omega | exact True.intro
 all_goals clear hk k
 refine AW.seq ?_
 refine rg [1,10] ?_
 intro k hk; simp -dsimp [go_sem, -decide_eq_true_eq, -decide_eq_false_iff_not, hw]
 repeat' first | apply And.intro | refine hk _ ?_ | intro hg | omega | exact True.intro
 all_goals clear hk k
 refine AW.cond rfl ?_ ?_
 ·intro hc; try simp at hc
  all_goals (
   refine rg [4] ?_
   intro k hk; simp -dsimp [go_sem, -decide_eq_true_eq, -decide_eq_false_iff_not, hw]
   repeat' first | apply And.intro | refine hk _ ?_ | intro hg | omega | exact True.intro
   all_goals clear hk k
   refine rt ?_
   simp [go_sem, Try.results46]; unfold subz; split <;> omega)
 ·intro hc; try simp at hc
  all_goals (
   refine AW.skipN (fun _ h => h) ?_
   refine rg [4] ?_
   intro k hk; simp -dsimp [go_sem, -decide_eq_true_eq, -decide_eq_false_iff_not, hw]
   repeat' first | apply And.intro | refine hk _ ?_ | intro hg | omega | exact True.intro
   all_goals clear hk k
   refine rt ?_
   simp [go_sem, Try.results46]; unfold subz; split <;> omega)

/-- laws.toNode -/
theorem dc_laws_toNode (x : TNode) : DC Try.prog 90 [.agg x.ro] (.agg [.int .i64 x.kind, .int .i64 x.val, .int .i64 x.left, .int .i64 x.right]) [] := by
 refine DC.intro tiOk Try.func90 rfl rfl rfl rfl rfl rfl rfl rfl [1000] ?_
 refine rgA [1,2] ?_
 refine rgA [1,2,3] ?_
 refine rgA [1,2,3] ?_
 refine rgA [1,2,3] ?_
 refine rgA [1,2,3] ?_
 refine rgA [2,3] ?_
 refine rgA [2] ?_
 refine rt ?_
 simp [go_sem, Try.results90]

/-- laws.toNodeS -/
theorem dc_laws_toNodeS (l : List TNode) (hl : l.length ≤ 1048576) : DC Try.prog 54 [.isl 4 (l.map TNode.ro)] (.osl 4 (l.map TNode.ro)) [] := by
 have idz : ∀ i, (fill TNode.ro [.int .i64 0, .int .i64 0, .int .i64 0, .int .i64 0] l i).flatMap idsL = [] := fun i => fill_ids (by intro x; simp [go_sem]) (by simp [go_sem])
 refine DC.intro tiOk Try.func54 rfl rfl rfl rfl rfl rfl rfl rfl [1000] ?_
 refine rgA [0] ?_
 refine rgA [0,3] ?_
 refine AW.seq ?_
 refine rgA [0,3,4] ?_
 refine AW.block ?_
 refine AW.loopI (fun i : Nat => ⟨23, [(0, .isl 4 (l.map TNode.ro)), (3, .sl 7 4 0 l.length), (4, .int .i64 i)], [(7, some ⟨4, fill TNode.ro [.int .i64 0, .int .i64 0, .int .i64 0, .int .i64 0] l i⟩)]⟩) (fun i => i ≤ l.length) (fun i => l.length - i) (0) (by simp) (Less.of rfl (by simp [go_sem]) (by simp [go_sem, fill_zero])) ?_
 rintro i hi
 refine AW.seq ?_
 refine rgA [0,3,4,11] ?_
 refine AW.cond rfl ?_ ?_
 ·intro hc; try simp at hc
  all_goals (
   have hlt : i < l.length := by assumption
   obtain ⟨x, hx⟩ := at_some hlt
   have hf := fill_len (f := TNode.ro) (z := [.int .i64 0, .int .i64 0, .int .i64 0, .int .i64 0]) hi
   have hf2 := fill_at (f := TNode.ro) (z := [.int .i64 0, .int .i64 0, .int .i64 0, .int .i64 0]) hlt
   refine AW.skipN (fun _ h => h) ?_
   refine AW.seq ?_
   refine AW.block ?_
   refine rgN [0,3,4] (fun _ h => h) ?_
   intro k hk; simp -dsimp (maxSteps := 2000000) [go_sem, -decide_eq_true_eq, -decide_eq_false_iff_not, hx, hf, hf2, idz]
   repeat' first | apply And.intro | refine hk _ ?_ | intro hg | (refine CallK.intro (dc_laws_toNode x) ?_; simp -dsimp (maxSteps := 2000000) [go_sem, -decide_eq_true_eq, -decide_eq_false_iff_not, hx, hf, hf2, idz]) | omega | exact True.intro
   all_goals clear hk k
   refine rgK ?_
   intro k hk; simp -dsimp [go_sem, -decide_eq_true_eq, -decide_eq_false_iff_not, hx, hf, hf2, idz]
   repeat' first | apply And.intro | refine hk _ ?_ | intro hg | omega | exact True.intro
   all_goals clear hk k
   show ∃ _, _
   have hw := wrapi hlt (by omega)
   have hs := fill_set (f := TNode.ro) (z := [.int .i64 0, .int .i64 0, .int .i64 0, .int .i64 0]) hx
   simp [go_sem] at hs
   refine ⟨i + 1, by omega, by omega, Less.of rfl (by simp [go_sem, hw]) (by simp [go_sem, List.set_set, ← hs])⟩)
 ·intro hc; try simp at hc
  all_goals (
   refine AW.exitN (fun _ h => h) ?_
   refine rgA [2] ?_
   refine rt ?_
   have he := fill_end (f := TNode.ro) (z := [.int .i64 0, .int .i64 0, .int .i64 0, .int .i64 0]) (show l.length ≤ i by omega); simp [go_sem, Try.results54, he])

/-- laws.eqNode -/
theorem dc_laws_eqNode (a b : TNode) : DC Try.prog 99 [.agg a.ro, .agg b.ro] (.bool (decide (a = b))) [] := by
 refine DC.intro tiOk Try.func99 rfl rfl rfl rfl rfl rfl rfl rfl [] ?_
 refine rgA [2,3] ?_
 refine AW.seq ?_
 refine rgA [2,3,9] ?_
 refine AW.cond rfl ?_ ?_
 ·intro hc; try simp at hc
  all_goals (
   refine rgA [4] ?_
   refine rt ?_
   cases a; cases b; simp [go_sem, Try.results99] at *; simp [*])
 ·intro hc; try simp at hc
  all_goals (
   refine AW.skipN (fun _ h => h) ?_
   refine AW.seq ?_
   refine rgA [2,3,14] ?_
   refine AW.cond rfl ?_ ?_
   ·intro hc; try simp at hc
    all_goals (
     refine rgA [4] ?_
     refine rt ?_
     cases a; cases b; simp [go_sem, Try.results99] at *; simp [*])
   ·intro hc; try simp at hc
    all_goals (
     refine AW.skipN (fun _ h => h) ?_
     refine AW.seq ?_
     refine rgA [2,3,19] ?_
     refine AW.cond rfl ?_ ?_
     ·intro hc; try simp at hc
      all_goals (
       refine rgA [4] ?_
       refine rt ?_
       cases a; cases b; simp [go_sem, Try.results99] at *; simp [*])
     ·intro hc; try simp at hc
      all_goals (
       refine AW.skipN (fun _ h => h) ?_
       refine AW.seq ?_
       refine rgA [24] ?_
       refine AW.cond rfl ?_ ?_
       ·intro hc; try simp at hc
        all_goals (
         refine rgA [4] ?_
         refine rt ?_
         cases a; cases b; simp [go_sem, Try.results99] at *; simp [*])
       ·intro hc; try simp at hc
        all_goals (
         refine AW.skipN (fun _ h => h) ?_
         refine rgA [4] ?_
         refine rt ?_
         cases a; cases b; simp [go_sem, Try.results99] at *; simp [*]))))

/-- laws.eqNodeS -/
theorem dc_laws_eqNodeS (a b : List TNode) (ha : a.length ≤ 9223372036854775807) : DC Try.prog 61 [.isl 4 (a.map TNode.ro), .isl 4 (b.map TNode.ro)] (.bool (decide (a = b))) [] := by
 refine DC.intro tiOk Try.func61 rfl rfl rfl rfl rfl rfl rfl rfl [] ?_
 refine rgA [0,1] ?_
 refine AW.seq ?_
 refine rgA [0,1,10] ?_
 refine AW.cond rfl ?_ ?_
 ·intro hc; try simp at hc
  all_goals (
   refine rgA [4] ?_
   refine rt ?_
   first | (rw [eq_ne_at hx hy (by first | assumption | (intro e; subst e; omega))]; simp [go_sem, Try.results61]; done) | (rw [eq_end (by omega) hinv (by omega)]; simp [go_sem, Try.results61]; done) | (rw [eq_ne_len (by omega)]; simp [go_sem, Try.results61]))
 ·intro hc; try simp at hc
  all_goals (
   refine AW.skipN (fun _ h => h) ?_
   refine AW.seq ?_
   refine rgA [0,1,5] ?_
   refine AW.block ?_
   refine AW.loopI (fun i : Nat => ⟨27, [(0, .isl 4 (a.map TNode.ro)), (1, .isl 4 (b.map TNode.ro)), (5, .int .i64 i)], []⟩) (fun i => i ≤ a.length ∧ a.take i = b.take i) (fun i => a.length - i) (0) (by simp) (Less.of rfl (by simp [go_sem]) (by simp [go_sem])) ?_
   rintro i ⟨hi, hinv⟩
   refine AW.seq ?_
   refine rgA [0,1,5,14] ?_
   refine AW.cond rfl ?_ ?_
   ·intro hc; try simp at hc
    all_goals (
     have hlt : i < a.length := by assumption
     obtain ⟨x, hx⟩ := at_some hlt
     obtain ⟨y, hy⟩ := at_some (l := b) (show i < b.length by omega)
     have hla := at_lt hy
     refine AW.skipN (fun _ h => h) ?_
     refine AW.seq ?_
     refine AW.block ?_
     refine rg [0,1,5,26] ?_
     intro k hk; simp -dsimp (maxSteps := 2000000) [go_sem, -decide_eq_true_eq, -decide_eq_false_iff_not, hx, hy]
     repeat' first | (refine Chk.keys ?_; simp only [go_sem, List.map_cons, List.map_nil, List.flatMap_cons, List.flatMap_nil, List.flatMap_append, List.append_nil, List.nil_append, List.cons_append]; decide +kernel) | apply And.intro | refine hk _ ?_ | intro hg | (refine CallK.intro (dc_laws_eqNode x y) ?_; simp -dsimp (maxSteps := 2000000) [go_sem, -decide_eq_true_eq, -decide_eq_false_iff_not, hx, hy]) | omega | exact True.intro
     all_goals clear hk k
     refine AW.cond rfl ?_ ?_
     ·intro hc; try simp at hc
      all_goals (
       refine rg [4] ?_
       intro k hk; simp -dsimp [go_sem, -decide_eq_true_eq, -decide_eq_false_iff_not, hx, hy]
       repeat' first | apply And.intro | refine hk _ ?_ | intro hg | omega | exact True.intro
       all_goals clear hk k
       refine rt ?_
       first | (rw [eq_ne_at hx hy (by first | assumption | (intro e; subst e; omega))]; simp [go_sem, Try.results61]; done) | (rw [eq_end (by omega) hinv (by omega)]; simp [go_sem, Try.results61]; done) | (rw [eq_ne_len (by omega)]; simp [go_sem, Try.results61]))
     ·intro hc; try simp at hc
      all_goals (
       refine AW.skipN (fun _ h => h) ?_
       refine rgK ?_
       intro k hk; simp -dsimp [go_sem, -decide_eq_true_eq, -decide_eq_false_iff_not, hx, hy]
       repeat' first | apply And.intro | refine hk _ ?_ | intro hg | omega | exact True.intro
       all_goals clear hk k
       show ∃ _, _
       have hw := wrapi hlt (by omega)
       refine ⟨i + 1, ⟨by omega, take_step hx hy (by first | assumption | (apply UInt8.toNat_inj.1; omega)) hinv⟩, by omega, Less.of rfl (by simp [go_sem, hw]) (by simp [go_sem])⟩))
   ·intro hc; try simp at hc
    all_goals (
     refine AW.exitN (fun _ h => h) ?_
     refine rgA [4] ?_
     refine rt ?_
     first | (rw [eq_ne_at hx hy (by first | assumption | (intro e; subst e; omega))]; simp [go_sem, Try.results61]; done) | (rw [eq_end (by omega) hinv (by omega)]; simp [go_sem, Try.results61]; done) | (rw [eq_ne_len (by omega)]; simp [go_sem, Try.results61])))

/-- laws.szStep -/
theorem dc_laws_szStep (x : TStep) (z : Int) (hz : 0 ≤ z ∧ z ≤ 1048576) (hg : x.gok) : DC Try.prog 23 [.agg x.ro, .int .i64 z] (.int .i64 (subz z x.sz)) [] := by
 have hg' := hg
 unfold TStep.gok at hg'
 obtain ⟨h2, h4, h5⟩ := hg'
 have hw : IntKind.wrap .i64 (z - (x.name.length : Int)) = z - (x.name.length : Int) := wrap64 (by omega) (by omega)
 refine DC.intro tiOk Try.func23 rfl rfl rfl rfl rfl rfl rfl rfl [] ?_
 refine rg [1,2] ?_
 intro k hk; simp -dsimp [go_sem, -decide_eq_true_eq, -decide_eq_false_iff_not, hw]
 repeat' first | apply And.intro | refine hk _ ?_ | intro hg | omega | exact True.intro
 all_goals clear hk k
 refine rg [1,2] ?_
 intro k hk; simp -dsimp [go_sem, -decide_eq_true_eq, -decide_eq_false_iff_not, hw]
 repeat' first | apply And.intro | refine hk _ ?_ | intro hg | omega | exact True.intro
 all_goals clear hk k
 refine AW.seq ?_
 refine rg [1,2,11] ?_
 intro k hk; simp -dsimp [go_sem, -decide_eq_true_eq, -decide_eq_false_iff_not, hw]
 repeat' first | apply And.intro | refine hk _ ?_ | intro hg | omega | exact True.intro
 all_goals clear hk k
 refine AW.cond rfl ?_ ?_
 ·intro hc; try simp [subz_neg, subz_nn] at hc
  all_goals (
   refine rg [4] ?_
   intro k hk; simp -dsimp [go_sem, -decide_eq_true_eq, -decide_eq_false_iff_not, hw]
   repeat' first | apply And.intro | refine hk _ ?_ | intro hg | omega | exact True.intro
   all_goals clear hk k
   refine rt ?_
   simp [go_sem, Try.results23]; simp only [subz, TStep.sz] at * <;> grind)
 ·intro hc; try simp [subz_neg, subz_nn] at hc
  all_goals (
   refine AW.skipN (fun _ h => h) ?_
   refine rg [1,2] ?_
   intro k hk; simp -dsimp (maxSteps := 2000000) [go_sem, -decide_eq_true_eq, -decide_eq_false_iff_not, hw]
   repeat' first | apply And.intro | refine hk _ ?_ | intro hg | (refine CallK.intro (dc_laws_szNodeS _ _ (by constructor <;> first | omega | grind [subz]) (by first | assumption | (constructor <;> assumption))) ?_; simp -dsimp (maxSteps := 2000000) [go_sem, -decide_eq_true_eq, -decide_eq_false_iff_not, hw]) | omega | exact True.intro
   all_goals clear hk k
   refine AW.seq ?_
   refine rg [1,2,17] ?_
   intro k hk; simp -dsimp [go_sem, -decide_eq_true_eq, -decide_eq_false_iff_not, hw]
   repeat' first | apply And.intro | refine hk _ ?_ | intro hg | omega | exact True.intro
   all_goals clear hk k
   refine AW.cond rfl ?_ ?_
   ·intro hc; try simp [subz_neg, subz_nn] at hc
    all_goals (
     refine rg [4] ?_
     intro k hk; simp -dsimp [go_sem, -decide_eq_true_eq, -decide_eq_false_iff_not, hw]
     repeat' first | apply And.intro | refine hk _ ?_ | intro hg | omega | exact True.intro
     all_goals clear hk k
     refine rt ?_
     simp [go_sem, Try.results23]; simp only [subz, TStep.sz] at * <;> grind)
   ·intro hc; try simp [subz_neg, subz_nn] at hc
    all_goals (
     refine AW.skipN (fun _ h => h) ?_
     refine rg [1] ?_
     intro k hk; simp -dsimp (maxSteps := 2000000) [go_sem, -decide_eq_true_eq, -decide_eq_false_iff_not, hw]
     repeat' first | apply And.intro | refine hk _ ?_ | intro hg | (refine CallK.intro (dc_laws_szNodeS _ _ (by constructor <;> first | omega | grind [subz]) (by first | assumption | (constructor <;> assumption))) ?_; simp -dsimp (maxSteps := 2000000) [go_sem, -decide_eq_true_eq, -decide_eq_false_iff_not, hw]) | omega | exact True.intro
     all_goals clear hk k
     refine AW.seq ?_
     refine rg [1,23] ?_
     intro k hk; simp -dsimp [go_sem, -decide_eq_true_eq, -decide_eq_false_iff_not, hw]
     repeat' first | apply And.intro | refine hk _ ?_ | intro hg | omega | exact True.intro
     all_goals clear hk k
     refine AW.cond rfl ?_ ?_
     ·intro hc; try simp [subz_neg, subz_nn] at hc
      all_goals (
       refine rg [4] ?_
       intro k hk; simp -dsimp [go_sem, -decide_eq_true_eq, -decide_eq_false_iff_not, hw]
       repeat' first | apply And.intro | refine hk _ ?_ | intro hg | omega | exact True.intro
       all_goals clear hk k
       refine rt ?_
       simp [go_sem, Try.results23]; simp only [subz, TStep.sz] at * <;> grind)
     ·intro hc; try simp [subz_neg, subz_nn] at hc
      all_goals (
       refine AW.skipN (fun _ h => h) ?_
       refine rg [4] ?_
       intro k hk; simp -dsimp [go_sem, -decide_eq_true_eq, -decide_eq_false_iff_not, hw]
       repeat' first | apply And.intro | refine hk _ ?_ | intro hg | omega | exact True.intro
       all_goals clear hk k
       refine rt ?_
       simp [go_sem, Try.results23]; simp only [subz, TStep.sz] at * <;> grind)))

/-- laws.szStepS -/
theorem dc_laws_szStepS (l : List TStep) (z : Int) (hz : 0 ≤ z ∧ z ≤ 1048576) (hl : l.length ≤ 9223372036854775807 ∧ ∀ e ∈ l, e.gok) : DC Try.prog 6 [.isl 6 (l.map TStep.ro), .int .i64 z] (.int .i64 (subz z (l.length + (l.map TStep.sz).sum))) [] := by
 obtain ⟨hl, hg⟩ := hl
 have hw : IntKind.wrap .i64 (z - (l.length : Int)) = z - (l.length : Int) := wrap64 (by omega) (by omega)
 refine DC.intro tiOk Try.func6 rfl rfl rfl rfl rfl rfl rfl rfl [] ?_
 refine rg [0,1] ?_
 intro k hk; simp -dsimp [go_sem, -decide_eq_true_eq, -decide_eq_false_iff_not, hw]
 repeat' first | apply And.intro | refine hk _ ?_ | intro hg | omega | exact True.intro
 all_goals clear hk k
 refine rg [0,1] ?_
 intro k hk; simp -dsimp [go_sem, -decide_eq_true_eq, -decide_eq_false_iff_not, hw]
 repeat' first | apply And.intro | refine hk _ ?_ | intro hg | omega | exact True.intro
 all_goals clear hk k
 refine AW.seq ?_
 refine rg [0,1,11] ?_
 intro k hk; simp -dsimp [go_sem, -decide_eq_true_eq, -decide_eq_false_iff_not, hw]
 repeat' first | apply And.intro | refine hk _ ?_ | intro hg | omega | exact True.intro
 all_goals clear hk k
 refine AW.cond rfl ?_ ?_
 ·intro hc; try simp [subz_neg, subz_nn] at hc
  all_goals (
   refine rg [4] ?_
   intro k hk; simp -dsimp [go_sem, -decide_eq_true_eq, -decide_eq_false_iff_not, hw]
   repeat' first | apply And.intro | refine hk _ ?_ | intro hg | omega | exact True.intro
   all_goals clear hk k
   refine rt ?_
   have hle := fun i => sum_le (f := TStep.sz) (l := l) (i := i); first | (rw [subz_no (by have := hle (i + 1); simp at *; omega)]; simp [go_sem, Try.results6]; done) | (rw [subz_no (by simp at *; omega)]; simp [go_sem, Try.results6]; done) | (rw [List.take_of_length_le (show (l.map TStep.sz).length ≤ i by simp; omega)] at *; rw [subz_ok (by simp at *; omega)]; simp [go_sem, Try.results6]; omega))
 ·intro hc; try simp [subz_neg, subz_nn] at hc
  all_goals (
   refine AW.skipN (fun _ h => h) ?_
   refine AW.seq ?_
   refine rg [0,1,5] ?_
   intro k hk; simp -dsimp [go_sem, -decide_eq_true_eq, -decide_eq_false_iff_not, hw]
   repeat' first | apply And.intro | refine hk _ ?_ | intro hg | omega | exact True.intro
   all_goals clear hk k
   refine AW.block ?_
   refine AW.loopI (fun i : Nat => ⟨27, [(0, .isl 6 (l.map TStep.ro)), (1, .int .i64 (z - (l.length : Int) - (((l.map TStep.sz).take i).sum : Int))), (5, .int .i64 i)], []⟩) (fun i => i ≤ l.length ∧ (l.length : Int) + (((l.map TStep.sz).take i).sum : Nat) ≤ z) (fun i => l.length - i) (0) (by refine ⟨Nat.zero_le _, ?_⟩; simp; omega) (Less.of rfl (by simp [go_sem]) (by simp [go_sem])) ?_
   rintro i ⟨hi, hinv⟩
   refine AW.seq ?_
   refine rg [0,1,5,15] ?_
   intro k hk; simp -dsimp [go_sem, -decide_eq_true_eq, -decide_eq_false_iff_not, hw]
   repeat' first | apply And.intro | refine hk _ ?_ | intro hg | omega | exact True.intro
   all_goals clear hk k
   refine AW.cond rfl ?_ ?_
   ·intro hc; try simp [subz_neg, subz_nn] at hc
    all_goals (
     have hlt : i < l.length := by assumption
     obtain ⟨x, hx⟩ := at_some hlt
     have hst := sum_take (f := TStep.sz) hx
     refine AW.skipN (fun _ h => h) ?_
     refine AW.seq ?_
     refine AW.block ?_
     refine rg [0,1,5] ?_
     intro k hk; simp -dsimp (maxSteps := 2000000) [go_sem, -decide_eq_true_eq, -decide_eq_false_iff_not, hw, hx]
     repeat' first | apply And.intro | refine hk _ ?_ | intro hg | (refine CallK.intro (dc_laws_szStep x _ (by omega) (hg x (List.mem_of_getElem? hx))) ?_; simp -dsimp (maxSteps := 2000000) [go_sem, -decide_eq_true_eq, -decide_eq_false_iff_not, hw, hx]) | omega | exact True.intro
     all_goals clear hk k
     refine rg [0,1,5,25] ?_
     intro k hk; simp -dsimp [go_sem, -decide_eq_true_eq, -decide_eq_false_iff_not, hw, hx]
     repeat' first | apply And.intro | refine hk _ ?_ | intro hg | omega | exact True.intro
     all_goals clear hk k
     refine AW.cond rfl ?_ ?_
     ·intro hc; try simp [subz_neg, subz_nn] at hc
      all_goals (
       refine rg [4] ?_
       intro k hk; simp -dsimp [go_sem, -decide_eq_true_eq, -decide_eq_false_iff_not, hw, hx]
       repeat' first | apply And.intro | refine hk _ ?_ | intro hg | omega | exact True.intro
       all_goals clear hk k
       refine rt ?_
       have hle := fun i => sum_le (f := TStep.sz) (l := l) (i := i); first | (rw [subz_no (by have := hle (i + 1); simp at *; omega)]; simp [go_sem, Try.results6]; done) | (rw [subz_no (by simp at *; omega)]; simp [go_sem, Try.results6]; done) | (rw [List.take_of_length_le (show (l.map TStep.sz).length ≤ i by simp; omega)] at *; rw [subz_ok (by simp at *; omega)]; simp [go_sem, Try.results6]; omega))
     ·intro hc; try simp [subz_neg, subz_nn] at hc
      all_goals (
       refine AW.skipN (fun _ h => h) ?_
       refine rgK ?_
       intro k hk; simp -dsimp [go_sem, -decide_eq_true_eq, -decide_eq_false_iff_not, hw, hx]
       repeat' first | apply And.intro | refine hk _ ?_ | intro hg | omega | exact True.intro
       all_goals clear hk k
       show ∃ _, _
       have hw2 := wrapi hlt hl
       have hb : (TStep.sz x : Int) ≤ z - (l.length : Int) - (((l.map TStep.sz).take i).sum : Int) := by first | exact subz_nn.1 (by assumption) | omega
       refine ⟨i + 1, ⟨by omega, by omega⟩, by omega, Less.of rfl (by simp [go_sem, hw2, subz_ok hb, hst]; omega) (by simp [go_sem])⟩))
   ·intro hc; try simp [subz_neg, subz_nn] at hc
    all_goals (
     refine AW.exitN (fun _ h => h) ?_
     refine rg [4] ?_
     intro k hk; simp -dsimp [go_sem, -decide_eq_true_eq, -decide_eq_false_iff_not, hw]
     repeat' first | apply And.intro | refine hk _ ?_ | intro hg | omega | exact True.intro
     all_goals clear hk k
     refine rt ?_
     have hle := fun i => sum_le (f := TStep.sz) (l := l) (i := i); first | (rw [subz_no (by have := hle (i + 1); simp at *; omega)]; simp [go_sem, Try.results6]; done) | (rw [subz_no (by simp at *; omega)]; simp [go_sem, Try.results6]; done) | (rw [List.take_of_length_le (show (l.map TStep.sz).length ≤ i by simp; omega)] at *; rw [subz_ok (by simp at *; omega)]; simp [go_sem, Try.results6]; omega)))

/-- laws.eqStep -/
theorem dc_laws_eqStep (a b : TStep) (hg : a.gok) : DC Try.prog 31 [.agg a.ro, .agg b.ro] (.bool (decide (a = b))) [] := by
 obtain ⟨h0, h1, h2⟩ := hg
 refine DC.intro tiOk Try.func31 rfl rfl rfl rfl rfl rfl rfl rfl [] ?_
 refine rgA [2,3] ?_
 refine AW.seq ?_
 refine rgA [2,3,9] ?_
 refine AW.cond rfl ?_ ?_
 ·intro hc; try simp at hc
  all_goals (
   refine rgA [4] ?_
   refine rt ?_
   cases a; cases b; simp [go_sem, Try.results31] at *; simp [*])
 ·intro hc; try simp at hc
  all_goals (
   refine AW.skipN (fun _ h => h) ?_
   refine AW.seq ?_
   refine rgA [2,3,14] ?_
   refine AW.cond rfl ?_ ?_
   ·intro hc; try simp at hc
    all_goals (
     refine rgA [4] ?_
     refine rt ?_
     cases a; cases b; simp [go_sem, Try.results31] at *; simp [*])
   ·intro hc; try simp at hc
    all_goals (
     refine AW.skipN (fun _ h => h) ?_
     refine AW.seq ?_
     refine rgA [2,3,19] ?_
     refine AW.cond rfl ?_ ?_
     ·intro hc; try simp at hc
      all_goals (
       refine rgA [4] ?_
       refine rt ?_
       cases a; cases b; simp [go_sem, Try.results31] at *; simp [*])
     ·intro hc; try simp at hc
      all_goals (
       refine AW.skipN (fun _ h => h) ?_
       refine AW.seq ?_
       refine rgA [2,3,24] ?_
       refine AW.cond rfl ?_ ?_
       ·intro hc; try simp at hc
        all_goals (
         refine rgA [4] ?_
         refine rt ?_
         cases a; cases b; simp [go_sem, Try.results31] at *; simp [*])
       ·intro hc; try simp at hc
        all_goals (
         refine AW.skipN (fun _ h => h) ?_
         refine AW.seq ?_
         refine rg [2,3,30] ?_
         intro k hk; simp -dsimp (maxSteps := 2000000) [go_sem, -decide_eq_true_eq, -decide_eq_false_iff_not]
         repeat' first | apply And.intro | refine hk _ ?_ | intro hg | (refine CallK.intro (dc_laws_eqNodeS _ _ (by assumption)) ?_; simp -dsimp (maxSteps := 2000000) [go_sem, -decide_eq_true_eq, -decide_eq_false_iff_not]) | omega | exact True.intro
         all_goals clear hk k
         refine AW.cond rfl ?_ ?_
         ·intro hc; try simp at hc
          all_goals (
           refine rgA [4] ?_
           refine rt ?_
           cases a; cases b; simp [go_sem, Try.results31] at *; simp [*])
         ·intro hc; try simp at hc
          all_goals (
           refine AW.skipN (fun _ h => h) ?_
           refine AW.seq ?_
           refine rg [36] ?_
           intro k hk; simp -dsimp (maxSteps := 2000000) [go_sem, -decide_eq_true_eq, -decide_eq_false_iff_not]
           repeat' first | apply And.intro | refine hk _ ?_ | intro hg | (refine CallK.intro (dc_laws_eqNodeS _ _ (by assumption)) ?_; simp -dsimp (maxSteps := 2000000) [go_sem, -decide_eq_true_eq, -decide_eq_false_iff_not]) | omega | exact True.intro
           all_goals clear hk k
           refine AW.cond rfl ?_ ?_
           ·intro hc; try simp at hc
            all_goals (
             refine rgA [4] ?_
             refine rt ?_
             cases a; cases b; simp [go_sem, Try.results31] at *; simp [*])
           ·intro hc; try simp at hc
            all_goals (
             refine AW.skipN (fun _ h => h) ?_
             refine rgA [4] ?_
             refine rt ?_
             cases a; cases b; simp [go_sem, Try.results31] at *; simp [*]))))))

/-- laws.eqStepS -/
theorem dc_laws_eqStepS (a b : List TStep) (ha : a.length ≤ 9223372036854775807 ∧ ∀ e ∈ a, e.gok) : DC Try.prog 11 [.isl 6 (a.map TStep.ro), .isl 6 (b.map TStep.ro)] (.bool (decide (a = b))) [] := by
 obtain ⟨ha, hg⟩ := ha
 refine DC.intro tiOk Try.func11 rfl rfl rfl rfl rfl rfl rfl rfl [] ?_
 refine rgA [0,1] ?_
 refine AW.seq ?_
 refine rgA [0,1,10] ?_
 refine AW.cond rfl ?_ ?_
 ·intro hc; try simp at hc
  all_goals (
   refine rgA [4] ?_
   refine rt ?_
   first | (rw [eq_ne_at hx hy (by first | assumption | (intro e; subst e; omega))]; simp [go_sem, Try.results11]; done) | (rw [eq_end (by omega) hinv (by omega)]; simp [go_sem, Try.results11]; done) | (rw [eq_ne_len (by omega)]; simp [go_sem, Try.results11]))
 ·intro hc; try simp at hc
  all_goals (
   refine AW.skipN (fun _ h => h) ?_
   refine AW.seq ?_
   refine rgA [0,1,5] ?_
   refine AW.block ?_
   refine AW.loopI (fun i : Nat => ⟨27, [(0, .isl 6 (a.map TStep.ro)), (1, .isl 6 (b.map TStep.ro)), (5, .int .i64 i)], []⟩) (fun i => i ≤ a.length ∧ a.take i = b.take i) (fun i => a.length - i) (0) (by simp) (Less.of rfl (by simp [go_sem]) (by simp [go_sem])) ?_
   rintro i ⟨hi, hinv⟩
   refine AW.seq ?_
   refine rgA [0,1,5,14] ?_
   refine AW.cond rfl ?_ ?_
   ·intro hc; try simp at hc
    all_goals (
     have hlt : i < a.length := by assumption
     obtain ⟨x, hx⟩ := at_some hlt
     obtain ⟨y, hy⟩ := at_some (l := b) (show i < b.length by omega)
     have hla := at_lt hy
     refine AW.skipN (fun _ h => h) ?_
     refine AW.seq ?_
     refine AW.block ?_
     refine rg [0,1,5,26] ?_
     intro k hk; simp -dsimp (maxSteps := 2000000) [go_sem, -decide_eq_true_eq, -decide_eq_false_iff_not, hx, hy]
     repeat' first | (refine Chk.keys ?_; simp only [go_sem, List.map_cons, List.map_nil, List.flatMap_cons, List.flatMap_nil, List.flatMap_append, List.append_nil, List.nil_append, List.cons_append]; decide +kernel) | apply And.intro | refine hk _ ?_ | intro hg | (refine CallK.intro (dc_laws_eqStep x y (hg x (List.mem_of_getElem? hx))) ?_; simp -dsimp (maxSteps := 2000000) [go_sem, -decide_eq_true_eq, -decide_eq_false_iff_not, hx, hy]) | omega | exact True.intro
     all_goals clear hk k
     refine AW.cond rfl ?_ ?_
     ·intro hc; try simp at hc
      all_goals (
       refine rg [4] ?_
       intro k hk; simp -dsimp [go_sem, -decide_eq_true_eq, -decide_eq_false_iff_not, hx, hy]
       repeat' first | apply And.intro | refine hk _ ?_ | intro hg | omega | exact True.intro
       all_goals clear hk k
       refine rt ?_
       first | (rw [eq_ne_at hx hy (by first | assumption | (intro e; subst e; omega))]; simp [go_sem, Try.results11]; done) | (rw [eq_end (by omega) hinv (by omega)]; simp [go_sem, Try.results11]; done) | (rw [eq_ne_len (by omega)]; simp [go_sem, Try.results11]))
     ·intro hc; try simp at hc
      all_goals (
       refine AW.skipN (fun _ h => h) ?_
       refine rgK ?_
       intro k hk; simp -dsimp [go_sem, -decide_eq_true_eq, -decide_eq_false_iff_not, hx, hy]
       repeat' first | apply And.intro | refine hk _ ?_ | intro hg | omega | exact True.intro
       all_goals clear hk k
       show ∃ _, _
       have hw := wrapi hlt (by omega)
       refine ⟨i + 1, ⟨by omega, take_step hx hy (by first | assumption | (apply UInt8.toNat_inj.1; omega)) hinv⟩, by omega, Less.of rfl (by simp [go_sem, hw]) (by simp [go_sem])⟩))
   ·intro hc; try simp at hc
    all_goals (
     refine AW.exitN (fun _ h => h) ?_
     refine rgA [4] ?_
     refine rt ?_
     first | (rw [eq_ne_at hx hy (by first | assumption | (intro e; subst e; omega))]; simp [go_sem, Try.results11]; done) | (rw [eq_end (by omega) hinv (by omega)]; simp [go_sem, Try.results11]; done) | (rw [eq_ne_len (by omega)]; simp [go_sem, Try.results11])))

end Go.AM
namespace Go.AM
open Go.Proofs

set_option maxHeartbeats 4000000 in
/-- spec.l4Copy -/
theorem dc_spec_l4Copy (l : List TStep) (hl : l.length ≤ 1048576 ∧ ∀ e ∈ l, e.sz ≤ 1048576) : DC Try.prog 52 [.isl 6 (l.map TStep.ro)] (.osl 6 (l.map TStep.oc)) [] := by
 refine DC.intro tiOk Try.func52 rfl rfl rfl rfl rfl rfl rfl rfl [1000] ?_
 refine rgA [0] ?_
 refine rgA [0,3] ?_
 refine AW.seq ?_
 refine rgA [0,3,4] ?_
 refine AW.block ?_
 refine AW.rename (nd := ?nd_1) 6 30 ?h1_1 ?h2_1 ?h4_1 ?kk_1
 (case h1_1 => exact rfl)
 (case h2_1 => simp [go_sem])
 (case h4_1 => simp [go_sem])
 refine AW.loopI (fun i : Nat => ⟨32, [(0, .isl 6 (l.map TStep.ro)), (4, .int .i64 i), (3, .sl 30 6 0 i)], [(30, some ⟨6, cpS l i⟩)]⟩) (fun i => i ≤ l.length) (fun i => l.length - i) (0) (by simp) (Less.of rfl (by simp [go_sem]) (by simp [go_sem])) ?_
 rintro i hi
 refine AW.rename (nd := ?nd_2) 30 6 ?h1_2 ?h2_2 ?h4_2 ?kk_2
 (case h1_2 => exact rfl)
 (case h2_2 => simp [go_sem])
 (case h4_2 => simp [go_sem])
 refine AW.seq ?_
 refine rgA [0,3,4,10] ?_
 refine AW.cond rfl ?_ ?_
 ·intro hc; try simp at hc
  all_goals (
   have hlt : i < l.length := by assumption
   obtain ⟨x, hx⟩ := at_some hlt
   have hxz := hl.2 x (List.mem_of_getElem? hx)
   unfold TStep.sz at hxz
   have hti : (cpS l i).length = i := cpS_len (by omega)
   have htk : (cpS l i).take i = cpS l i := List.take_of_length_le (Nat.le_of_eq hti)
   refine AW.skipN (fun _ h => h) ?_
   refine AW.seq ?_
   refine AW.block ?_
   refine rg [0,3,4,5] ?_
   intro k hk; simp -dsimp [go_sem, -decide_eq_true_eq, -decide_eq_false_iff_not, hx, hti, htk]
   repeat' first | apply And.intro | refine hk _ ?_ | intro hg | omega | exact True.intro
   all_goals clear hk k
   refine rg0 [0,3,4,5] ?_
   intro k hk; simp -dsimp [go_sem, -decide_eq_true_eq, -decide_eq_false_iff_not, hx, hti, htk]
   repeat' first | apply And.intro | refine hk _ ?_ | intro hg | omega | exact True.intro
   all_goals clear hk k
   refine rg0 [0,3,4,5] ?_
   intro k hk; simp -dsimp [go_sem, -decide_eq_true_eq, -decide_eq_false_iff_not, hx, hti, htk]
   repeat' first | apply And.intro | refine hk _ ?_ | intro hg | omega | exact True.intro
   all_goals clear hk k
   refine rgN0 [0,3,4] (fun _ h => h) ?_
   intro k hk; simp -dsimp [go_sem, -decide_eq_true_eq, -decide_eq_false_iff_not, hx, hti, htk]
   repeat' first | apply And.intro | refine hk _ ?_ | intro hg | omega | exact True.intro
   all_goals clear hk k
   refine AW.fold (nd := ?nd_3) (c := ?c_3) (l := ?l_3) (es := ?es_3) (n := ?n_3) 30 i 4 20 ?h1_3 ?h2_3 ?h4_3 ?h3_3 ?hn_3 (by decide) ?h6_3 ?kk_3
   (case h1_3 => exact rfl)
   (case h2_3 => exact app_here hti)
   (case h4_3 => exact rfl)
   (case h3_3 => exact rfl)
   (case hn_3 => simp)
   (case h6_3 => simp [go_sem])
   refine AW.cellLe (nd := ?nd_4) (c := ?c_4) (x := ?x_4) 30 i 4 (owc 4 (x.cond.map TNode.ro)) ?h1_4 ?h2_4 ?h3_4 ?h4_4 ?kk_4
   (case h1_4 => exact rfl)
   (case h2_4 => refine node_here ?_; (repeat rw [List.length_set]); rw [List.length_append, hti]; exact Nat.lt_succ_self i)
   (case h3_4 => exact rfl)
   (case h4_4 => simp [go_sem])
   refine AW.fold (nd := ?nd_5) (c := ?c_5) (l := ?l_5) (es := ?es_5) (n := ?n_5) 30 i 5 25 ?h1_5 ?h2_5 ?h4_5 ?h3_5 ?hn_5 (by decide) ?h6_5 ?kk_5
   (case h1_5 => exact rfl)
   (case h2_5 => refine node_here ?_; (repeat rw [List.length_set]); rw [List.length_append, hti]; exact Nat.lt_succ_self i)
   (case h4_5 => exact rfl)
   (case h3_5 => exact rfl)
   (case hn_5 => simp)
   (case h6_5 => simp [go_sem])
   refine AW.cellLe (nd := ?nd_6) (c := ?c_6) (x := ?x_6) 30 i 5 (owc 4 (x.expr.map TNode.ro)) ?h1_6 ?h2_6 ?h3_6 ?h4_6 ?kk_6
   (case h1_6 => exact rfl)
   (case h2_6 => refine node_here ?_; (repeat rw [List.length_set]); rw [List.length_append, hti]; exact Nat.lt_succ_self i)
   (case h3_6 => exact rfl)
   (case h4_6 => simp [go_sem])
   refine rgK ?_
   intro k hk; simp -dsimp [go_sem, -decide_eq_true_eq, -decide_eq_false_iff_not, hx, hti, htk]
   repeat' first | apply And.intro | refine hk _ ?_ | intro hg | omega | exact True.intro
   all_goals clear hk k
   show ∃ _, _
   have hw := wrapi hlt (by omega)
   have hs := cpS_snoc hx
   refine ⟨i + 1, by omega, by omega, Less.of rfl (by simp [go_sem, hw]) (by rw [hs]; simp [go_sem, TStep.oc, List.set_append, hti])⟩)
 ·intro hc; try simp at hc
  all_goals (
   refine AW.exitN (fun _ h => h) ?_
   refine rgA [2] ?_
   refine rt ?_
   obtain rfl : i = l.length := (by omega)
   simp [go_sem, Try.results52, cpS_end, cpS_len (Nat.le_refl _)])

end Go.AM
