/- Joined texts: G1 G2 G3 F1 F2 F5 F7 G4 G5 G6 H1 H2 H3 K1 G7 F3. -/
import Derived.Test.YtilmgakneefdmaaB1
import Derived.Test.YtilmgakneefdmaaB2
import Derived.Test.YtilmgakneefdmaaB3
import Derived.Test.YtilmgakneefdmaaB4
set_option linter.unusedVariables false
set_option linter.unusedSimpArgs false
/-! ### G1 -/
set_option linter.unusedVariables false
set_option linter.unusedSimpArgs false
namespace Go.AM
open Go.Proofs

set_option maxHeartbeats 600000 in
set_option linter.unusedSimpArgs false in
set_option maxRecDepth 100000 in
/-- impl.argBounds -/
theorem dc_impl_argBounds (k : Int) : DC Try.prog 103 [.int .i64 k] (.tup [.int .i64 (lowA k), .int .i64 (highA k)]) [] := by
  refine DC.intro tiOk Try.func103 rfl rfl rfl rfl rfl rfl rfl rfl [] ?_
  refine AW.reg tiOk (fun _ => []) [0] ?_
  intro k hk; simp -dsimp [go_sem, -decide_eq_true_eq, -decide_eq_false_iff_not]
  repeat' (first | refine And.intro ?_ ?_ | refine hk _ ?_ | intro hg | omega | exact True.intro)
  all_goals clear hk k
  refine AW.seq ?_
  refine AW.reg tiOk (fun _ => []) [4] ?_
  intro k hk; simp -dsimp [go_sem, -decide_eq_true_eq, -decide_eq_false_iff_not]
  repeat' (first | refine And.intro ?_ ?_ | refine hk _ ?_ | intro hg | omega | exact True.intro)
  all_goals clear hk k
  refine AW.block ?_
  refine AW.reg tiOk (fun _ => []) [4, 5] ?_
  intro k hk; simp -dsimp [go_sem, -decide_eq_true_eq, -decide_eq_false_iff_not]
  repeat' (first | refine And.intro ?_ ?_ | refine hk _ ?_ | intro hg | omega | exact True.intro)
  all_goals clear hk k
  refine AW.cond rfl ?_ ?_
  · intro hc; try simp at hc
    all_goals try (exfalso; omega; done)
    all_goals (
      refine AW.reg tiOk (fun _ => []) [2, 3] ?_
      intro k hk; simp -dsimp [go_sem, -decide_eq_true_eq, -decide_eq_false_iff_not]
      repeat' (first | refine And.intro ?_ ?_ | refine hk _ ?_ | intro hg | omega | exact True.intro)
      all_goals clear hk k
      refine AW.retF (ow := []) (muts := []) ?_ (fun h => And.intro (.inr rfl) h)
      simp [go_sem, Try.results103, lowA, highA] <;> grind)
  · intro hc; try simp at hc
    all_goals try (exfalso; omega; done)
    all_goals (
      refine AW.seq ?_
      refine AW.reg tiOk (fun _ => []) [4, 7] ?_
      intro k hk; simp -dsimp [go_sem, -decide_eq_true_eq, -decide_eq_false_iff_not]
      repeat' (first | refine And.intro ?_ ?_ | refine hk _ ?_ | intro hg | omega | exact True.intro)
      all_goals clear hk k
      refine AW.cond rfl ?_ ?_
      · intro hc; try simp at hc
        all_goals try (exfalso; omega; done)
        all_goals (
          refine AW.skipN (fun _ h => h) ?_
          refine AW.cond rfl ?_ ?_
          · intro hc; try simp at hc
            all_goals try (exfalso; omega; done)
            all_goals (
              refine AW.reg tiOk (fun _ => []) [2, 3] ?_
              intro k hk; simp -dsimp [go_sem, -decide_eq_true_eq, -decide_eq_false_iff_not]
              repeat' (first | refine And.intro ?_ ?_ | refine hk _ ?_ | intro hg | omega | exact True.intro)
              all_goals clear hk k
              refine AW.retF (ow := []) (muts := []) ?_ (fun h => And.intro (.inr rfl) h)
              simp [go_sem, Try.results103, lowA, highA] <;> grind)
          · intro hc; try simp at hc
            all_goals try (exfalso; omega; done)
            all_goals (
              refine AW.reg tiOk (fun _ => []) [10] ?_
              intro k hk; simp -dsimp [go_sem, -decide_eq_true_eq, -decide_eq_false_iff_not]
              repeat' (first | refine And.intro ?_ ?_ | refine hk _ ?_ | intro hg | omega | exact True.intro)
              all_goals clear hk k
              refine AW.cond rfl ?_ ?_
              · intro hc; try simp at hc
                all_goals try (exfalso; omega; done)
                all_goals (
                  refine AW.reg tiOk (fun _ => []) [2, 3] ?_
                  intro k hk; simp -dsimp [go_sem, -decide_eq_true_eq, -decide_eq_false_iff_not]
                  repeat' (first | refine And.intro ?_ ?_ | refine hk _ ?_ | intro hg | omega | exact True.intro)
                  all_goals clear hk k
                  refine AW.retF (ow := []) (muts := []) ?_ (fun h => And.intro (.inr rfl) h)
                  simp [go_sem, Try.results103, lowA, highA] <;> grind)
              · intro hc; try simp at hc
                all_goals try (exfalso; omega; done)
                all_goals (
                  refine AW.skipN (fun _ h => h) ?_
                  refine AW.reg tiOk (fun _ => []) [2, 3] ?_
                  intro k hk; simp -dsimp [go_sem, -decide_eq_true_eq, -decide_eq_false_iff_not]
                  repeat' (first | refine And.intro ?_ ?_ | refine hk _ ?_ | intro hg | omega | exact True.intro)
                  all_goals clear hk k
                  refine AW.retF (ow := []) (muts := []) ?_ (fun h => And.intro (.inr rfl) h)
                  simp [go_sem, Try.results103, lowA, highA] <;> grind)))
      · intro hc; try simp at hc
        all_goals try (exfalso; omega; done)
        all_goals (
          refine AW.regN tiOk (fun _ => []) [4, 7] (fun _ h => h) ?_
          intro k hk; simp -dsimp [go_sem, -decide_eq_true_eq, -decide_eq_false_iff_not]
          repeat' (first | refine And.intro ?_ ?_ | refine hk _ ?_ | intro hg | omega | exact True.intro)
          all_goals clear hk k
          refine AW.cond rfl ?_ ?_
          · intro hc; try simp at hc
            all_goals try (exfalso; omega; done)
            all_goals (
              refine AW.reg tiOk (fun _ => []) [2, 3] ?_
              intro k hk; simp -dsimp [go_sem, -decide_eq_true_eq, -decide_eq_false_iff_not]
              repeat' (first | refine And.intro ?_ ?_ | refine hk _ ?_ | intro hg | omega | exact True.intro)
              all_goals clear hk k
              refine AW.retF (ow := []) (muts := []) ?_ (fun h => And.intro (.inr rfl) h)
              simp [go_sem, Try.results103, lowA, highA] <;> grind)
          · intro hc; try simp at hc
            all_goals try (exfalso; omega; done)
            all_goals (
              refine AW.reg tiOk (fun _ => []) [10] ?_
              intro k hk; simp -dsimp [go_sem, -decide_eq_true_eq, -decide_eq_false_iff_not]
              repeat' (first | refine And.intro ?_ ?_ | refine hk _ ?_ | intro hg | omega | exact True.intro)
              all_goals clear hk k
              refine AW.cond rfl ?_ ?_
              · intro hc; try simp at hc
                all_goals try (exfalso; omega; done)
                all_goals (
                  refine AW.reg tiOk (fun _ => []) [2, 3] ?_
                  intro k hk; simp -dsimp [go_sem, -decide_eq_true_eq, -decide_eq_false_iff_not]
                  repeat' (first | refine And.intro ?_ ?_ | refine hk _ ?_ | intro hg | omega | exact True.intro)
                  all_goals clear hk k
                  refine AW.retF (ow := []) (muts := []) ?_ (fun h => And.intro (.inr rfl) h)
                  simp [go_sem, Try.results103, lowA, highA] <;> grind)
              · intro hc; try simp at hc
                all_goals try (exfalso; omega; done)
                all_goals (
                  refine AW.skipN (fun _ h => h) ?_
                  refine AW.reg tiOk (fun _ => []) [2, 3] ?_
                  intro k hk; simp -dsimp [go_sem, -decide_eq_true_eq, -decide_eq_false_iff_not]
                  repeat' (first | refine And.intro ?_ ?_ | refine hk _ ?_ | intro hg | omega | exact True.intro)
                  all_goals clear hk k
                  refine AW.retF (ow := []) (muts := []) ?_ (fun h => And.intro (.inr rfl) h)
                  simp [go_sem, Try.results103, lowA, highA] <;> grind))))

set_option maxHeartbeats 600000 in
set_option linter.unusedSimpArgs false in
set_option maxRecDepth 100000 in
/-- impl.kidBounds -/
theorem dc_impl_kidBounds (k : Int) : DC Try.prog 108 [.int .i64 k] (.tup [.int .i64 (kidLo k), .int .i64 (kidHi k)]) [] := by
  refine DC.intro tiOk Try.func108 rfl rfl rfl rfl rfl rfl rfl rfl [] ?_
  refine AW.reg tiOk (fun _ => []) [0] ?_
  intro k hk; simp -dsimp [go_sem, -decide_eq_true_eq, -decide_eq_false_iff_not]
  repeat' (first | refine And.intro ?_ ?_ | refine hk _ ?_ | intro hg | omega | exact True.intro)
  all_goals clear hk k
  refine AW.seq ?_
  refine AW.reg tiOk (fun _ => []) [4] ?_
  intro k hk; simp -dsimp [go_sem, -decide_eq_true_eq, -decide_eq_false_iff_not]
  repeat' (first | refine And.intro ?_ ?_ | refine hk _ ?_ | intro hg | omega | exact True.intro)
  all_goals clear hk k
  refine AW.block ?_
  refine AW.reg tiOk (fun _ => []) [4, 5] ?_
  intro k hk; simp -dsimp [go_sem, -decide_eq_true_eq, -decide_eq_false_iff_not]
  repeat' (first | refine And.intro ?_ ?_ | refine hk _ ?_ | intro hg | omega | exact True.intro)
  all_goals clear hk k
  refine AW.cond rfl ?_ ?_
  · intro hc; try simp at hc
    all_goals try (exfalso; omega; done)
    all_goals (
      refine AW.reg tiOk (fun _ => []) [2, 3] ?_
      intro k hk; simp -dsimp [go_sem, -decide_eq_true_eq, -decide_eq_false_iff_not]
      repeat' (first | refine And.intro ?_ ?_ | refine hk _ ?_ | intro hg | omega | exact True.intro)
      all_goals clear hk k
      refine AW.retF (ow := []) (muts := []) ?_ (fun h => And.intro (.inr rfl) h)
      simp [go_sem, Try.results108, kidLo, kidHi] <;> grind)
  · intro hc; try simp at hc
    all_goals try (exfalso; omega; done)
    all_goals (
      refine AW.seq ?_
      refine AW.reg tiOk (fun _ => []) [4, 7] ?_
      intro k hk; simp -dsimp [go_sem, -decide_eq_true_eq, -decide_eq_false_iff_not]
      repeat' (first | refine And.intro ?_ ?_ | refine hk _ ?_ | intro hg | omega | exact True.intro)
      all_goals clear hk k
      refine AW.cond rfl ?_ ?_
      · intro hc; try simp at hc
        all_goals try (exfalso; omega; done)
        all_goals (
          refine AW.skipN (fun _ h => h) ?_
          refine AW.cond rfl ?_ ?_
          · intro hc; try simp at hc
            all_goals try (exfalso; omega; done)
            all_goals (
              refine AW.reg tiOk (fun _ => []) [2, 3] ?_
              intro k hk; simp -dsimp [go_sem, -decide_eq_true_eq, -decide_eq_false_iff_not]
              repeat' (first | refine And.intro ?_ ?_ | refine hk _ ?_ | intro hg | omega | exact True.intro)
              all_goals clear hk k
              refine AW.retF (ow := []) (muts := []) ?_ (fun h => And.intro (.inr rfl) h)
              simp [go_sem, Try.results108, kidLo, kidHi] <;> grind)
          · intro hc; try simp at hc
            all_goals try (exfalso; omega; done)
            all_goals (
              refine AW.reg tiOk (fun _ => []) [10] ?_
              intro k hk; simp -dsimp [go_sem, -decide_eq_true_eq, -decide_eq_false_iff_not]
              repeat' (first | refine And.intro ?_ ?_ | refine hk _ ?_ | intro hg | omega | exact True.intro)
              all_goals clear hk k
              refine AW.cond rfl ?_ ?_
              · intro hc; try simp at hc
                all_goals try (exfalso; omega; done)
                all_goals (
                  refine AW.reg tiOk (fun _ => []) [2, 3] ?_
                  intro k hk; simp -dsimp [go_sem, -decide_eq_true_eq, -decide_eq_false_iff_not]
                  repeat' (first | refine And.intro ?_ ?_ | refine hk _ ?_ | intro hg | omega | exact True.intro)
                  all_goals clear hk k
                  refine AW.retF (ow := []) (muts := []) ?_ (fun h => And.intro (.inr rfl) h)
                  simp [go_sem, Try.results108, kidLo, kidHi] <;> grind)
              · intro hc; try simp at hc
                all_goals try (exfalso; omega; done)
                all_goals (
                  refine AW.skipN (fun _ h => h) ?_
                  refine AW.reg tiOk (fun _ => []) [2, 3] ?_
                  intro k hk; simp -dsimp [go_sem, -decide_eq_true_eq, -decide_eq_false_iff_not]
                  repeat' (first | refine And.intro ?_ ?_ | refine hk _ ?_ | intro hg | omega | exact True.intro)
                  all_goals clear hk k
                  refine AW.retF (ow := []) (muts := []) ?_ (fun h => And.intro (.inr rfl) h)
                  simp [go_sem, Try.results108, kidLo, kidHi] <;> grind)))
      · intro hc; try simp at hc
        all_goals try (exfalso; omega; done)
        all_goals (
          refine AW.regN tiOk (fun _ => []) [4, 7] (fun _ h => h) ?_
          intro k hk; simp -dsimp [go_sem, -decide_eq_true_eq, -decide_eq_false_iff_not]
          repeat' (first | refine And.intro ?_ ?_ | refine hk _ ?_ | intro hg | omega | exact True.intro)
          all_goals clear hk k
          refine AW.cond rfl ?_ ?_
          · intro hc; try simp at hc
            all_goals try (exfalso; omega; done)
            all_goals (
              refine AW.reg tiOk (fun _ => []) [2, 3] ?_
              intro k hk; simp -dsimp [go_sem, -decide_eq_true_eq, -decide_eq_false_iff_not]
              repeat' (first | refine And.intro ?_ ?_ | refine hk _ ?_ | intro hg | omega | exact True.intro)
              all_goals clear hk k
              refine AW.retF (ow := []) (muts := []) ?_ (fun h => And.intro (.inr rfl) h)
              simp [go_sem, Try.results108, kidLo, kidHi] <;> grind)
          · intro hc; try simp at hc
            all_goals try (exfalso; omega; done)
            all_goals (
              refine AW.reg tiOk (fun _ => []) [10] ?_
              intro k hk; simp -dsimp [go_sem, -decide_eq_true_eq, -decide_eq_false_iff_not]
              repeat' (first | refine And.intro ?_ ?_ | refine hk _ ?_ | intro hg | omega | exact True.intro)
              all_goals clear hk k
              refine AW.cond rfl ?_ ?_
              · intro hc; try simp at hc
                all_goals try (exfalso; omega; done)
                all_goals (
                  refine AW.reg tiOk (fun _ => []) [2, 3] ?_
                  intro k hk; simp -dsimp [go_sem, -decide_eq_true_eq, -decide_eq_false_iff_not]
                  repeat' (first | refine And.intro ?_ ?_ | refine hk _ ?_ | intro hg | omega | exact True.intro)
                  all_goals clear hk k
                  refine AW.retF (ow := []) (muts := []) ?_ (fun h => And.intro (.inr rfl) h)
                  simp [go_sem, Try.results108, kidLo, kidHi] <;> grind)
              · intro hc; try simp at hc
                all_goals try (exfalso; omega; done)
                all_goals (
                  refine AW.skipN (fun _ h => h) ?_
                  refine AW.reg tiOk (fun _ => []) [2, 3] ?_
                  intro k hk; simp -dsimp [go_sem, -decide_eq_true_eq, -decide_eq_false_iff_not]
                  repeat' (first | refine And.intro ?_ ?_ | refine hk _ ?_ | intro hg | omega | exact True.intro)
                  all_goals clear hk k
                  refine AW.retF (ow := []) (muts := []) ?_ (fun h => And.intro (.inr rfl) h)
                  simp [go_sem, Try.results108, kidLo, kidHi] <;> grind))))

set_option maxHeartbeats 600000 in
set_option linter.unusedSimpArgs false in
set_option maxRecDepth 100000 in
/-- spec.l4Many -/
theorem dc_spec_l4Many (k : Int) (n : Nat) (hn : n ≤ 24) : DC Try.prog 123 [.int .i64 k, .int .i64 (n : Nat)] (.bool (inR n (kidLo k) (kidHi k))) [] := by
  refine DC.intro tiOk Try.func123 rfl rfl rfl rfl rfl rfl rfl rfl [] ?_
  refine AW.reg tiOk (fun _ => []) [0, 1] ?_
  intro k hk; simp -dsimp [go_sem, -decide_eq_true_eq, -decide_eq_false_iff_not]
  repeat' (first | refine And.intro ?_ ?_ | refine hk _ ?_ | intro hg | omega | exact True.intro)
  all_goals clear hk k
  refine AW.seq ?_
  refine AW.reg tiOk (fun _ => []) [1, 5] ?_
  intro k hk; simp -dsimp [go_sem, -decide_eq_true_eq, -decide_eq_false_iff_not]
  repeat' (first | refine And.intro ?_ ?_ | refine hk _ ?_ | intro hg | omega | exact True.intro)
  all_goals clear hk k
  refine AW.block ?_
  refine AW.reg tiOk (fun _ => []) [1, 5, 6] ?_
  intro k hk; simp -dsimp [go_sem, -decide_eq_true_eq, -decide_eq_false_iff_not]
  repeat' (first | refine And.intro ?_ ?_ | refine hk _ ?_ | intro hg | omega | exact True.intro)
  all_goals clear hk k
  refine AW.cond rfl ?_ ?_
  · intro hc; try simp at hc
    all_goals try (exfalso; omega; done)
    all_goals (
      refine AW.reg tiOk (fun _ => []) [4] ?_
      intro k hk; simp -dsimp [go_sem, -decide_eq_true_eq, -decide_eq_false_iff_not]
      repeat' (first | refine And.intro ?_ ?_ | refine hk _ ?_ | intro hg | omega | exact True.intro)
      all_goals clear hk k
      refine AW.retF (ow := []) (muts := []) ?_ (fun h => And.intro (.inr rfl) h)
      simp [go_sem, Try.results123, inR, kidLo, kidHi] <;> grind)
  · intro hc; try simp at hc
    all_goals try (exfalso; omega; done)
    all_goals (
      refine AW.seq ?_
      refine AW.reg tiOk (fun _ => []) [1, 5, 10] ?_
      intro k hk; simp -dsimp [go_sem, -decide_eq_true_eq, -decide_eq_false_iff_not]
      repeat' (first | refine And.intro ?_ ?_ | refine hk _ ?_ | intro hg | omega | exact True.intro)
      all_goals clear hk k
      refine AW.cond rfl ?_ ?_
      · intro hc; try simp at hc
        all_goals try (exfalso; omega; done)
        all_goals (
          refine AW.skipN (fun _ h => h) ?_
          refine AW.cond rfl ?_ ?_
          · intro hc; try simp at hc
            all_goals try (exfalso; omega; done)
            all_goals (
              refine AW.reg tiOk (fun _ => []) [4] ?_
              intro k hk; simp -dsimp [go_sem, -decide_eq_true_eq, -decide_eq_false_iff_not]
              repeat' (first | refine And.intro ?_ ?_ | refine hk _ ?_ | intro hg | omega | exact True.intro)
              all_goals clear hk k
              refine AW.retF (ow := []) (muts := []) ?_ (fun h => And.intro (.inr rfl) h)
              simp [go_sem, Try.results123, inR, kidLo, kidHi] <;> grind)
          · intro hc; try simp at hc
            all_goals try (exfalso; omega; done)
            all_goals (
              refine AW.reg tiOk (fun _ => []) [1, 15] ?_
              intro k hk; simp -dsimp [go_sem, -decide_eq_true_eq, -decide_eq_false_iff_not]
              repeat' (first | refine And.intro ?_ ?_ | refine hk _ ?_ | intro hg | omega | exact True.intro)
              all_goals clear hk k
              refine AW.cond rfl ?_ ?_
              · intro hc; try simp at hc
                all_goals try (exfalso; omega; done)
                all_goals (
                  refine AW.reg tiOk (fun _ => []) [4] ?_
                  intro k hk; simp -dsimp [go_sem, -decide_eq_true_eq, -decide_eq_false_iff_not]
                  repeat' (first | refine And.intro ?_ ?_ | refine hk _ ?_ | intro hg | omega | exact True.intro)
                  all_goals clear hk k
                  refine AW.retF (ow := []) (muts := []) ?_ (fun h => And.intro (.inr rfl) h)
                  simp [go_sem, Try.results123, inR, kidLo, kidHi] <;> grind)
              · intro hc; try simp at hc
                all_goals try (exfalso; omega; done)
                all_goals (
                  refine AW.skipN (fun _ h => h) ?_
                  refine AW.reg tiOk (fun _ => []) [4] ?_
                  intro k hk; simp -dsimp [go_sem, -decide_eq_true_eq, -decide_eq_false_iff_not]
                  repeat' (first | refine And.intro ?_ ?_ | refine hk _ ?_ | intro hg | omega | exact True.intro)
                  all_goals clear hk k
                  refine AW.retF (ow := []) (muts := []) ?_ (fun h => And.intro (.inr rfl) h)
                  simp [go_sem, Try.results123, inR, kidLo, kidHi] <;> grind)))
      · intro hc; try simp at hc
        all_goals try (exfalso; omega; done)
        all_goals (
          refine AW.regN tiOk (fun _ => []) [1, 5, 10] (fun _ h => h) ?_
          intro k hk; simp -dsimp [go_sem, -decide_eq_true_eq, -decide_eq_false_iff_not]
          repeat' (first | refine And.intro ?_ ?_ | refine hk _ ?_ | intro hg | omega | exact True.intro)
          all_goals clear hk k
          refine AW.cond rfl ?_ ?_
          · intro hc; try simp at hc
            all_goals try (exfalso; omega; done)
            all_goals (
              refine AW.reg tiOk (fun _ => []) [4] ?_
              intro k hk; simp -dsimp [go_sem, -decide_eq_true_eq, -decide_eq_false_iff_not]
              repeat' (first | refine And.intro ?_ ?_ | refine hk _ ?_ | intro hg | omega | exact True.intro)
              all_goals clear hk k
              refine AW.retF (ow := []) (muts := []) ?_ (fun h => And.intro (.inr rfl) h)
              simp [go_sem, Try.results123, inR, kidLo, kidHi] <;> grind)
          · intro hc; try simp at hc
            all_goals try (exfalso; omega; done)
            all_goals (
              refine AW.reg tiOk (fun _ => []) [1, 15] ?_
              intro k hk; simp -dsimp [go_sem, -decide_eq_true_eq, -decide_eq_false_iff_not]
              repeat' (first | refine And.intro ?_ ?_ | refine hk _ ?_ | intro hg | omega | exact True.intro)
              all_goals clear hk k
              refine AW.cond rfl ?_ ?_
              · intro hc; try simp at hc
                all_goals try (exfalso; omega; done)
                all_goals (
                  refine AW.reg tiOk (fun _ => []) [4] ?_
                  intro k hk; simp -dsimp [go_sem, -decide_eq_true_eq, -decide_eq_false_iff_not]
                  repeat' (first | refine And.intro ?_ ?_ | refine hk _ ?_ | intro hg | omega | exact True.intro)
                  all_goals clear hk k
                  refine AW.retF (ow := []) (muts := []) ?_ (fun h => And.intro (.inr rfl) h)
                  simp [go_sem, Try.results123, inR, kidLo, kidHi] <;> grind)
              · intro hc; try simp at hc
                all_goals try (exfalso; omega; done)
                all_goals (
                  refine AW.skipN (fun _ h => h) ?_
                  refine AW.reg tiOk (fun _ => []) [4] ?_
                  intro k hk; simp -dsimp [go_sem, -decide_eq_true_eq, -decide_eq_false_iff_not]
                  repeat' (first | refine And.intro ?_ ?_ | refine hk _ ?_ | intro hg | omega | exact True.intro)
                  all_goals clear hk k
                  refine AW.retF (ow := []) (muts := []) ?_ (fun h => And.intro (.inr rfl) h)
                  simp [go_sem, Try.results123, inR, kidLo, kidHi] <;> grind))))

set_option maxHeartbeats 600000 in
set_option linter.unusedSimpArgs false in
set_option maxRecDepth 100000 in
/-- spec.l4Arg -/
theorem dc_spec_l4Arg (s : TStep) : DC Try.prog 121 [.ip s.ro] (.bool (decide (s.kind = 5 ∨ s.kind = 6 ∨ s.kind = 7 ∨ s.kind = 8 → lowA s.kind ≤ s.arg ∧ s.arg ≤ highA s.kind))) [] := by
  refine DC.intro tiOk Try.func121 rfl rfl rfl rfl rfl rfl rfl rfl [] ?_
  refine AW.reg tiOk (fun _ => []) [0] ?_
  intro k hk; simp -dsimp [go_sem, -decide_eq_true_eq, -decide_eq_false_iff_not]
  repeat' (first | refine And.intro ?_ ?_ | refine hk _ ?_ | intro hg | omega | exact True.intro)
  all_goals clear hk k
  refine AW.seq ?_
  refine AW.reg tiOk (fun _ => []) [0, 6] ?_
  intro k hk; simp -dsimp [go_sem, -decide_eq_true_eq, -decide_eq_false_iff_not]
  repeat' (first | refine And.intro ?_ ?_ | refine hk _ ?_ | intro hg | omega | exact True.intro)
  all_goals clear hk k
  refine AW.block ?_
  refine AW.reg tiOk (fun _ => []) [0, 6, 7] ?_
  intro k hk; simp -dsimp [go_sem, -decide_eq_true_eq, -decide_eq_false_iff_not]
  repeat' (first | refine And.intro ?_ ?_ | refine hk _ ?_ | intro hg | omega | exact True.intro)
  all_goals clear hk k
  refine AW.cond rfl ?_ ?_
  · intro hc; try simp at hc
    all_goals try (exfalso; omega; done)
    all_goals (
      refine AW.reg tiOk (fun _ => []) [2] ?_
      intro k hk; simp -dsimp (maxSteps := 2000000) [go_sem, -decide_eq_true_eq, -decide_eq_false_iff_not]
      repeat' (first | refine And.intro ?_ ?_ | refine hk _ ?_ | intro hg | (refine CallK.intro (dc_spec_l1In _ _ _) ?_; simp -dsimp (maxSteps := 2000000) [go_sem, -decide_eq_true_eq, -decide_eq_false_iff_not]) | omega | exact True.intro)
      all_goals clear hk k
      refine AW.retF (ow := []) (muts := []) ?_ (fun h => And.intro (.inr rfl) h)
      simp [go_sem, Try.results121, inR, lowA, highA] <;> grind)
  · intro hc; try simp at hc
    all_goals try (exfalso; omega; done)
    all_goals (
      refine AW.seq ?_
      refine AW.reg tiOk (fun _ => []) [0, 6, 14] ?_
      intro k hk; simp -dsimp [go_sem, -decide_eq_true_eq, -decide_eq_false_iff_not]
      repeat' (first | refine And.intro ?_ ?_ | refine hk _ ?_ | intro hg | omega | exact True.intro)
      all_goals clear hk k
      refine AW.cond rfl ?_ ?_
      · intro hc; try simp at hc
        all_goals try (exfalso; omega; done)
        all_goals (
          refine AW.skipN (fun _ h => h) ?_
          refine AW.cond rfl ?_ ?_
          · intro hc; try simp at hc
            all_goals try (exfalso; omega; done)
            all_goals (
              refine AW.reg tiOk (fun _ => []) [2] ?_
              intro k hk; simp -dsimp (maxSteps := 2000000) [go_sem, -decide_eq_true_eq, -decide_eq_false_iff_not]
              repeat' (first | refine And.intro ?_ ?_ | refine hk _ ?_ | intro hg | (refine CallK.intro (dc_spec_l1In _ _ _) ?_; simp -dsimp (maxSteps := 2000000) [go_sem, -decide_eq_true_eq, -decide_eq_false_iff_not]) | omega | exact True.intro)
              all_goals clear hk k
              refine AW.retF (ow := []) (muts := []) ?_ (fun h => And.intro (.inr rfl) h)
              simp [go_sem, Try.results121, inR, lowA, highA] <;> grind)
          · intro hc; try simp at hc
            all_goals try (exfalso; omega; done)
            all_goals (
              refine AW.reg tiOk (fun _ => []) [0, 22] ?_
              intro k hk; simp -dsimp [go_sem, -decide_eq_true_eq, -decide_eq_false_iff_not]
              repeat' (first | refine And.intro ?_ ?_ | refine hk _ ?_ | intro hg | omega | exact True.intro)
              all_goals clear hk k
              refine AW.cond rfl ?_ ?_
              · intro hc; try simp at hc
                all_goals try (exfalso; omega; done)
                all_goals (
                  refine AW.reg tiOk (fun _ => []) [2] ?_
                  intro k hk; simp -dsimp (maxSteps := 2000000) [go_sem, -decide_eq_true_eq, -decide_eq_false_iff_not]
                  repeat' (first | refine And.intro ?_ ?_ | refine hk _ ?_ | intro hg | (refine CallK.intro (dc_spec_l1In _ _ _) ?_; simp -dsimp (maxSteps := 2000000) [go_sem, -decide_eq_true_eq, -decide_eq_false_iff_not]) | omega | exact True.intro)
                  all_goals clear hk k
                  refine AW.retF (ow := []) (muts := []) ?_ (fun h => And.intro (.inr rfl) h)
                  simp [go_sem, Try.results121, inR, lowA, highA] <;> grind)
              · intro hc; try simp at hc
                all_goals try (exfalso; omega; done)
                all_goals (
                  refine AW.skipN (fun _ h => h) ?_
                  refine AW.reg tiOk (fun _ => []) [2] ?_
                  intro k hk; simp -dsimp [go_sem, -decide_eq_true_eq, -decide_eq_false_iff_not]
                  repeat' (first | refine And.intro ?_ ?_ | refine hk _ ?_ | intro hg | omega | exact True.intro)
                  all_goals clear hk k
                  refine AW.retF (ow := []) (muts := []) ?_ (fun h => And.intro (.inr rfl) h)
                  simp [go_sem, Try.results121, inR, lowA, highA] <;> grind)))
      · intro hc; try simp at hc
        all_goals try (exfalso; omega; done)
        all_goals (
          refine AW.regN tiOk (fun _ => []) [0, 6, 14] (fun _ h => h) ?_
          intro k hk; simp -dsimp [go_sem, -decide_eq_true_eq, -decide_eq_false_iff_not]
          repeat' (first | refine And.intro ?_ ?_ | refine hk _ ?_ | intro hg | omega | exact True.intro)
          all_goals clear hk k
          refine AW.cond rfl ?_ ?_
          · intro hc; try simp at hc
            all_goals try (exfalso; omega; done)
            all_goals (
              refine AW.reg tiOk (fun _ => []) [2] ?_
              intro k hk; simp -dsimp (maxSteps := 2000000) [go_sem, -decide_eq_true_eq, -decide_eq_false_iff_not]
              repeat' (first | refine And.intro ?_ ?_ | refine hk _ ?_ | intro hg | (refine CallK.intro (dc_spec_l1In _ _ _) ?_; simp -dsimp (maxSteps := 2000000) [go_sem, -decide_eq_true_eq, -decide_eq_false_iff_not]) | omega | exact True.intro)
              all_goals clear hk k
              refine AW.retF (ow := []) (muts := []) ?_ (fun h => And.intro (.inr rfl) h)
              simp [go_sem, Try.results121, inR, lowA, highA] <;> grind)
          · intro hc; try simp at hc
            all_goals try (exfalso; omega; done)
            all_goals (
              refine AW.reg tiOk (fun _ => []) [0, 22] ?_
              intro k hk; simp -dsimp [go_sem, -decide_eq_true_eq, -decide_eq_false_iff_not]
              repeat' (first | refine And.intro ?_ ?_ | refine hk _ ?_ | intro hg | omega | exact True.intro)
              all_goals clear hk k
              refine AW.cond rfl ?_ ?_
              · intro hc; try simp at hc
                all_goals try (exfalso; omega; done)
                all_goals (
                  refine AW.reg tiOk (fun _ => []) [2] ?_
                  intro k hk; simp -dsimp (maxSteps := 2000000) [go_sem, -decide_eq_true_eq, -decide_eq_false_iff_not]
                  repeat' (first | refine And.intro ?_ ?_ | refine hk _ ?_ | intro hg | (refine CallK.intro (dc_spec_l1In _ _ _) ?_; simp -dsimp (maxSteps := 2000000) [go_sem, -decide_eq_true_eq, -decide_eq_false_iff_not]) | omega | exact True.intro)
                  all_goals clear hk k
                  refine AW.retF (ow := []) (muts := []) ?_ (fun h => And.intro (.inr rfl) h)
                  simp [go_sem, Try.results121, inR, lowA, highA] <;> grind)
              · intro hc; try simp at hc
                all_goals try (exfalso; omega; done)
                all_goals (
                  refine AW.skipN (fun _ h => h) ?_
                  refine AW.reg tiOk (fun _ => []) [2] ?_
                  intro k hk; simp -dsimp [go_sem, -decide_eq_true_eq, -decide_eq_false_iff_not]
                  repeat' (first | refine And.intro ?_ ?_ | refine hk _ ?_ | intro hg | omega | exact True.intro)
                  all_goals clear hk k
                  refine AW.retF (ow := []) (muts := []) ?_ (fun h => And.intro (.inr rfl) h)
                  simp [go_sem, Try.results121, inR, lowA, highA] <;> grind))))

set_option maxHeartbeats 600000 in
set_option linter.unusedSimpArgs false in
set_option maxRecDepth 100000 in
/-- spec.l4Bare -/
theorem dc_spec_l4Bare (s : TStep) (hg : s.gok) : DC Try.prog 117 [.ip s.ro] (.bool (!alien s)) [] := by
  obtain ⟨g0, g1, g2⟩ := hg
  refine DC.intro tiOk Try.func117 rfl rfl rfl rfl rfl rfl rfl rfl [] ?_
  refine AW.reg tiOk (fun _ => []) [0] ?_
  intro k hk; simp -dsimp [go_sem, -decide_eq_true_eq, -decide_eq_false_iff_not]
  repeat' (first | refine And.intro ?_ ?_ | refine hk _ ?_ | intro hg | omega | exact True.intro)
  all_goals clear hk k
  refine AW.reg tiOk (fun _ => []) [0, 3] ?_
  intro k hk; simp -dsimp (maxSteps := 2000000) [go_sem, -decide_eq_true_eq, -decide_eq_false_iff_not]
  repeat' (first | refine And.intro ?_ ?_ | refine hk _ ?_ | intro hg | (refine CallK.intro (dc_spec_l1In _ _ _) ?_; simp -dsimp (maxSteps := 2000000) [go_sem, -decide_eq_true_eq, -decide_eq_false_iff_not]) | omega | exact True.intro)
  all_goals clear hk k
  refine AW.cut ⟨46, [(2, .bool (!alien s))], []⟩ ?_ ?_
  · skip
    refine AW.regK tiOk (fun _ => []) ?_
    intro k hk; simp +contextual -dsimp (maxSteps := 2000000) [go_sem, -decide_eq_true_eq, -decide_eq_false_iff_not]
    repeat' (first | refine And.intro ?_ ?_ | refine hk _ ?_ | (intro hg; try simp only [decide_eq_true_eq, decide_eq_false_iff_not] at hg) | omega | exact True.intro)
    all_goals clear hk k
    all_goals (show St.Less _ _; exact Less.of rfl (by simp [go_sem, alien, highA, inR] at * <;> grind) (by simp [go_sem]))
  · skip
    refine AW.retF (ow := []) (muts := []) ?_ (fun h => And.intro (.inr rfl) h)
    simp [go_sem, Try.results117]

set_option maxHeartbeats 600000 in
set_option linter.unusedSimpArgs false in
set_option maxRecDepth 100000 in
/-- (*impl.parents).next -/
theorem dc_impl_parents_next_z (par : Int) : DC Try.prog 104 [.op [.nils, .nils], .int .i64 par] (.int .i64 (parF [] par)) [(0, .op [nlc 1 ((nxtL [] par).map I1), nlc 1 ((nxtD [] [] par).map I1)])] := by
  have hwm : IntKind.wrap .i64 (-1) = -1 := wrap64 (by omega) (by omega)
  refine DC.intro tiOk Try.func104 rfl rfl rfl rfl rfl rfl rfl (by simp [noW, noWo]) [] ?_
  refine AW.reg tiOk (fun _ => []) [0, 1] ?_
  intro k hk; simp -dsimp [go_sem, -decide_eq_true_eq, -decide_eq_false_iff_not, hwm]
  repeat' (first | refine And.intro ?_ ?_ | refine hk _ ?_ | intro hg | omega | exact True.intro)
  all_goals clear hk k
  refine AW.reg tiOk (fun _ => []) [0, 1, 5] ?_
  intro k hk; simp -dsimp [go_sem, -decide_eq_true_eq, -decide_eq_false_iff_not, hwm]
  repeat' (first | refine And.intro ?_ ?_ | refine hk _ ?_ | intro hg | omega | exact True.intro)
  all_goals clear hk k
  refine AW.seq ?_
  refine AW.cut ⟨75, [(0, .ptr 1900 2 0 0), (1, .int .i64 par), (5, .int .i64 0), (29, .bool (decide (par ≠ -1)))], [(1900, some ⟨2, [[.nils, .nils]]⟩)]⟩ ?_ ?_
  · skip
    refine AW.regK tiOk (fun _ => []) ?_
    intro k hk; simp +contextual -dsimp (maxSteps := 2000000) [go_sem, -decide_eq_true_eq, -decide_eq_false_iff_not, hwm]
    repeat' (first | refine And.intro ?_ ?_ | refine hk _ ?_ | (intro hg; try simp only [decide_eq_true_eq, decide_eq_false_iff_not] at hg) | (refine CallK.intro (dc_impl_inRange _ _ _) ?_; simp +contextual -dsimp (maxSteps := 2000000) [go_sem, -decide_eq_true_eq, -decide_eq_false_iff_not, hwm]) | omega | exact True.intro)
    all_goals clear hk k
    all_goals (show St.Less _ _; exact Less.of rfl (by simp [go_sem] <;> grind) (by simp [go_sem]))
  · skip
    refine AW.cond rfl ?_ ?_
    · intro hc; try simp at hc
      all_goals try (exfalso; omega; done)
      all_goals (
        refine AW.reg tiOk (fun _ => []) [0, 4] ?_
        intro k hk; simp -dsimp [go_sem, -decide_eq_true_eq, -decide_eq_false_iff_not, hwm]
        repeat' (first | refine And.intro ?_ ?_ | refine hk _ ?_ | intro hg | omega | exact True.intro)
        all_goals clear hk k
        refine AW.retF (ow := []) (muts := [(0, .op [nlc 1 ((nxtL [] par).map I1), nlc 1 ((nxtD [] [] par).map I1)])]) ?_ (fun h => And.intro (.inr rfl) h)
        first | (have hpm : par = -1 := (by assumption); subst hpm; simp [go_sem, Try.results104, nxtL, nxtD, parF]; done) | (have hpm : ¬ par = -1 := (by first | assumption | simpa using hc); simp [go_sem, Try.results104, nxtL, nxtD, parF, hpm]))
    · intro hc; try simp at hc
      all_goals try (exfalso; omega; done)
      all_goals (
        refine AW.skipN (fun _ h => h) ?_
        have hpm : par = -1 := by simpa using hc
        refine AW.reg tiOk (fun _ => []) [0, 1, 6] ?_
        intro k hk; simp -dsimp [go_sem, -decide_eq_true_eq, -decide_eq_false_iff_not, hwm, hpm]
        repeat' (first | refine And.intro ?_ ?_ | refine hk _ ?_ | intro hg | omega | exact True.intro)
        all_goals clear hk k
        refine AW.seq ?_
        refine AW.block ?_
        -- live at the loop's head: [0, 1, 6]
        refine AW.loopI (fun _ : Nat => ⟨75, [(0, .ptr 1900 2 0 0), (1, .int .i64 par), (6, .int .i64 (-1))], [(1900, some ⟨2, [[.nils, .nils]]⟩)]⟩) (fun _ => True) (fun _ => 0) (0) (trivial) (Less.of rfl (by simp [go_sem, hpm, hwm]) (by simp [go_sem])) ?_
        rintro i _
        refine AW.seq ?_
        refine AW.reg tiOk (fun _ => []) [0, 1, 6, 34] ?_
        intro k hk; simp -dsimp [go_sem, -decide_eq_true_eq, -decide_eq_false_iff_not, hwm]
        repeat' (first | refine And.intro ?_ ?_ | refine hk _ ?_ | intro hg | omega | exact True.intro)
        all_goals clear hk k
        refine AW.cond rfl ?_ ?_
        · intro hc; try simp at hc
          all_goals try (exfalso; omega; done)
          all_goals (
            refine AW.skipN (fun _ h => h) ?_
            refine AW.block ?_
            refine AW.regK tiOk (fun _ => []) ?_
            intro k hk; simp -dsimp (maxSteps := 2000000) [go_sem, -decide_eq_true_eq, -decide_eq_false_iff_not, hwm]
            repeat' (first | refine And.intro ?_ ?_ | refine hk _ ?_ | intro hg | omega | exact True.intro)
            all_goals clear hk k
            show ∃ _, _
            exfalso; omega)
        · intro hc; try simp at hc
          all_goals try (exfalso; omega; done)
          all_goals (
            refine AW.exitN (fun _ h => h) ?_
            refine AW.seq ?_
            refine AW.reg tiOk (fun _ => []) [0, 1, 44] ?_
            intro k hk; simp -dsimp [go_sem, -decide_eq_true_eq, -decide_eq_false_iff_not, hwm]
            repeat' (first | refine And.intro ?_ ?_ | refine hk _ ?_ | intro hg | omega | exact True.intro)
            all_goals clear hk k
            refine AW.cond rfl ?_ ?_
            · intro hc; try simp at hc
              all_goals try (exfalso; omega; done)
              all_goals (
                refine AW.reg tiOk (fun _ => []) [0, 4] ?_
                intro k hk; simp -dsimp [go_sem, -decide_eq_true_eq, -decide_eq_false_iff_not, hwm]
                repeat' (first | refine And.intro ?_ ?_ | refine hk _ ?_ | intro hg | omega | exact True.intro)
                all_goals clear hk k
                refine AW.retF (ow := []) (muts := [(0, .op [nlc 1 ((nxtL [] par).map I1), nlc 1 ((nxtD [] [] par).map I1)])]) ?_ (fun h => And.intro (.inr rfl) h)
                first | (have hpm : par = -1 := (by assumption); subst hpm; simp [go_sem, Try.results104, nxtL, nxtD, parF]; done) | (have hpm : ¬ par = -1 := (by first | assumption | simpa using hc); simp [go_sem, Try.results104, nxtL, nxtD, parF, hpm]))
            · intro hc; try simp at hc
              all_goals try (exfalso; omega; done)
              all_goals (
                refine AW.skipN (fun _ h => h) ?_
                refine AW.reg tiOk (fun _ => []) [0, 1, 7] ?_
                intro k hk; simp -dsimp [go_sem, -decide_eq_true_eq, -decide_eq_false_iff_not, hwm]
                repeat' (first | refine And.intro ?_ ?_ | refine hk _ ?_ | intro hg | omega | exact True.intro)
                all_goals clear hk k
                refine AW.seq ?_
                refine AW.reg tiOk (fun _ => []) [0, 1, 7, 46] ?_
                intro k hk; simp -dsimp [go_sem, -decide_eq_true_eq, -decide_eq_false_iff_not, hwm]
                repeat' (first | refine And.intro ?_ ?_ | refine hk _ ?_ | intro hg | omega | exact True.intro)
                all_goals clear hk k
                refine AW.cond rfl ?_ ?_
                · intro hc; try simp at hc
                  all_goals try (exfalso; omega; done)
                  all_goals (
                    refine AW.regN tiOk (fun _ => []) [0, 1, 7] (fun _ h => h) ?_
                    intro k hk; simp -dsimp (maxSteps := 2000000) [go_sem, -decide_eq_true_eq, -decide_eq_false_iff_not, hwm]
                    repeat' (first | refine And.intro ?_ ?_ | refine hk _ ?_ | intro hg | omega | exact True.intro)
                    all_goals clear hk k
                    refine AW.reg tiOk (fun _ => []) [0] ?_
                    intro k hk; simp -dsimp (maxSteps := 2000000) [go_sem, -decide_eq_true_eq, -decide_eq_false_iff_not, hwm]
                    repeat' (first | refine And.intro ?_ ?_ | (refine Chk.keys ?_; simp only [go_sem, List.map_cons, List.map_nil, List.flatMap_cons, List.flatMap_nil, List.flatMap_append, List.append_nil, List.nil_append, List.cons_append]; decide +kernel) | refine hk _ ?_ | intro hg | omega | exact True.intro)
                    all_goals clear hk k
                    refine AW.fold (nd := ?nd_1) (c := ?c_1) (l := ?l_1) (es := ?es_1) (n := ?n_1) 1900 0 0 63 ?h1_1 ?h2_1 ?h4_1 ?h3_1 ?hn_1 (by decide) ?h6_1 ?kk_1
                    (case h1_1 => exact rfl)
                    (case h2_1 => exact rfl)
                    (case h4_1 => exact rfl)
                    (case h3_1 => exact rfl)
                    (case hn_1 => simp)
                    (case h6_1 => simp [go_sem])
                    refine AW.fold (nd := ?nd_2) (c := ?c_2) (l := ?l_2) (es := ?es_2) (n := ?n_2) 1900 0 1 70 ?h1_2 ?h2_2 ?h4_2 ?h3_2 ?hn_2 (by decide) ?h6_2 ?kk_2
                    (case h1_2 => exact rfl)
                    (case h2_2 => exact rfl)
                    (case h4_2 => exact rfl)
                    (case h3_2 => exact rfl)
                    (case hn_2 => simp)
                    (case h6_2 => simp [go_sem])
                    refine AW.reg tiOk (fun _ => []) [0, 4] ?_
                    intro k hk; simp -dsimp [go_sem, -decide_eq_true_eq, -decide_eq_false_iff_not, hwm]
                    repeat' (first | refine And.intro ?_ ?_ | refine hk _ ?_ | intro hg | omega | exact True.intro)
                    all_goals clear hk k
                    refine AW.retF (ow := []) (muts := [(0, .op [nlc 1 ((nxtL [] par).map I1), nlc 1 ((nxtD [] [] par).map I1)])]) ?_ (fun h => And.intro (.inr rfl) h)
                    first | (have hpm : par = -1 := (by assumption); subst hpm; simp [go_sem, Try.results104, nxtL, nxtD, parF]; done) | (have hpm : ¬ par = -1 := (by first | assumption | simpa using hc); simp [go_sem, Try.results104, nxtL, nxtD, parF, hpm]))
                · intro hc; try simp at hc
                  all_goals try (exfalso; omega; done)
                  all_goals (
                    refine AW.skipN (fun _ h => h) ?_
                    refine AW.reg tiOk (fun _ => []) [0] ?_
                    intro k hk; simp -dsimp (maxSteps := 2000000) [go_sem, -decide_eq_true_eq, -decide_eq_false_iff_not, hwm]
                    repeat' (first | refine And.intro ?_ ?_ | (refine Chk.keys ?_; simp only [go_sem, List.map_cons, List.map_nil, List.flatMap_cons, List.flatMap_nil, List.flatMap_append, List.append_nil, List.nil_append, List.cons_append]; decide +kernel) | refine hk _ ?_ | intro hg | omega | exact True.intro)
                    all_goals clear hk k
                    refine AW.fold (nd := ?nd_3) (c := ?c_3) (l := ?l_3) (es := ?es_3) (n := ?n_3) 1900 0 0 63 ?h1_3 ?h2_3 ?h4_3 ?h3_3 ?hn_3 (by decide) ?h6_3 ?kk_3
                    (case h1_3 => exact rfl)
                    (case h2_3 => exact rfl)
                    (case h4_3 => exact rfl)
                    (case h3_3 => exact rfl)
                    (case hn_3 => simp)
                    (case h6_3 => simp [go_sem])
                    refine AW.fold (nd := ?nd_4) (c := ?c_4) (l := ?l_4) (es := ?es_4) (n := ?n_4) 1900 0 1 70 ?h1_4 ?h2_4 ?h4_4 ?h3_4 ?hn_4 (by decide) ?h6_4 ?kk_4
                    (case h1_4 => exact rfl)
                    (case h2_4 => exact rfl)
                    (case h4_4 => exact rfl)
                    (case h3_4 => exact rfl)
                    (case hn_4 => simp)
                    (case h6_4 => simp [go_sem])
                    refine AW.reg tiOk (fun _ => []) [0, 4] ?_
                    intro k hk; simp -dsimp [go_sem, -decide_eq_true_eq, -decide_eq_false_iff_not, hwm]
                    repeat' (first | refine And.intro ?_ ?_ | refine hk _ ?_ | intro hg | omega | exact True.intro)
                    all_goals clear hk k
                    refine AW.retF (ow := []) (muts := [(0, .op [nlc 1 ((nxtL [] par).map I1), nlc 1 ((nxtD [] [] par).map I1)])]) ?_ (fun h => And.intro (.inr rfl) h)
                    first | (have hpm : par = -1 := (by assumption); subst hpm; simp [go_sem, Try.results104, nxtL, nxtD, parF]; done) | (have hpm : ¬ par = -1 := (by first | assumption | simpa using hc); simp [go_sem, Try.results104, nxtL, nxtD, parF, hpm])))))

set_option maxHeartbeats 600000 in
set_option linter.unusedSimpArgs false in
set_option maxRecDepth 100000 in
/-- (*impl.parents).next -/
theorem dc_impl_parents_next_s (l d : List Int) (par : Int) (hl : ParOk l) (hd : d = depsOf l) (hn : l ≠ []) (h24 : l.length ≤ 24) : DC Try.prog 104 [.op [.osl 1 (l.map I1), .osl 1 (d.map I1)], .int .i64 par] (.int .i64 (parF l par)) [(0, .op [nlc 1 ((nxtL l par).map I1), nlc 1 ((nxtD l d par).map I1)])] := by
  have hlp : 0 < l.length := List.length_pos_iff.2 hn
  have hdl : d.length = l.length := by rw [hd]; exact depsOf_len l
  have hnl := nlc_map (f := I1) hn 1
  have hnd := nlc_map (f := I1) (l := d) (by intro h; rw [h] at hdl; simp at hdl; omega) 1
  have hw1 : IntKind.wrap .i64 ((l.length : Int) - 1) = (l.length : Int) - 1 := wrap64 (by omega) (by omega)
  have htl : List.take l.length (d.map I1) = d.map I1 := List.take_of_length_le (by simp [hdl])
  refine DC.intro tiOk Try.func104 rfl rfl rfl rfl rfl rfl rfl (by simp [noW, noWo]) [] ?_
  refine AW.reg tiOk (fun _ => []) [0, 1] ?_
  intro k hk; simp -dsimp [go_sem, -decide_eq_true_eq, -decide_eq_false_iff_not, hw1, hdl, htl]
  repeat' (first | refine And.intro ?_ ?_ | refine hk _ ?_ | intro hg | omega | exact True.intro)
  all_goals clear hk k
  refine AW.thaw (nd := ?nd_1) (c := ?c_1) (l := ?l_1) (es := ?es_1) 1900 0 0 7001 ?h1_1 ?h2_1 ?h3_1 ?h45_1 ?kk_1
  (case h1_1 => exact rfl)
  (case h2_1 => exact rfl)
  (case h3_1 => exact rfl)
  (case h45_1 => simp [go_sem])
  refine AW.thaw (nd := ?nd_2) (c := ?c_2) (l := ?l_2) (es := ?es_2) 1900 0 1 7002 ?h1_2 ?h2_2 ?h3_2 ?h45_2 ?kk_2
  (case h1_2 => exact rfl)
  (case h2_2 => exact rfl)
  (case h3_2 => exact rfl)
  (case h45_2 => simp [go_sem])
  refine AW.reg tiOk (fun _ => []) [0, 1, 5] ?_
  intro k hk; simp -dsimp [go_sem, -decide_eq_true_eq, -decide_eq_false_iff_not, hw1, hdl, htl]
  repeat' (first | refine And.intro ?_ ?_ | refine hk _ ?_ | intro hg | omega | exact True.intro)
  all_goals clear hk k
  refine AW.seq ?_
  refine AW.cut ⟨75, [(0, .ptr 1900 2 0 0), (1, .int .i64 par), (5, .int .i64 (l.length : Nat)), (29, .bool (decide (parF l par = 3)))], [(7001, some ⟨1, l.map I1⟩), (7002, some ⟨1, d.map I1⟩), (1900, some ⟨2, [[.sl 7001 1 0 l.length, .sl 7002 1 0 l.length]]⟩)]⟩ ?_ ?_
  · skip
    refine AW.regK tiOk (fun _ => []) ?_
    intro k hk; simp +contextual -dsimp (maxSteps := 2000000) [go_sem, -decide_eq_true_eq, -decide_eq_false_iff_not, hw1, hdl, htl]
    repeat' (first | refine And.intro ?_ ?_ | refine hk _ ?_ | (intro hg; try simp only [decide_eq_true_eq, decide_eq_false_iff_not] at hg) | (refine CallK.intro (dc_impl_inRange _ _ _) ?_; simp +contextual -dsimp (maxSteps := 2000000) [go_sem, -decide_eq_true_eq, -decide_eq_false_iff_not, hw1, hdl, htl]) | omega | exact True.intro)
    all_goals clear hk k
    all_goals (show St.Less _ _; exact Less.of rfl (by simp [go_sem, parF, inR] at * <;> grind) (by simp [go_sem, hdl]))
  · skip
    refine AW.cond rfl ?_ ?_
    · intro hc; try simp at hc
      all_goals try (exfalso; omega; done)
      all_goals (
        refine AW.fold (nd := ?nd_3) (c := ?c_3) (l := ?l_3) (es := ?es_3) (n := ?n_3) 1900 0 0 7001 ?h1_3 ?h2_3 ?h4_3 ?h3_3 ?hn_3 (by decide) ?h6_3 ?kk_3
        (case h1_3 => exact rfl)
        (case h2_3 => exact rfl)
        (case h4_3 => exact rfl)
        (case h3_3 => exact rfl)
        (case hn_3 => simp [hdl])
        (case h6_3 => simp [go_sem, hdl])
        refine AW.fold (nd := ?nd_4) (c := ?c_4) (l := ?l_4) (es := ?es_4) (n := ?n_4) 1900 0 1 7002 ?h1_4 ?h2_4 ?h4_4 ?h3_4 ?hn_4 (by decide) ?h6_4 ?kk_4
        (case h1_4 => exact rfl)
        (case h2_4 => exact rfl)
        (case h4_4 => exact rfl)
        (case h3_4 => exact rfl)
        (case hn_4 => simp [hdl])
        (case h6_4 => simp [go_sem, hdl])
        have hp3 : parF l par = 3 := by simpa using hc
        refine AW.reg tiOk (fun _ => []) [0, 4] ?_
        intro k hk; simp -dsimp [go_sem, -decide_eq_true_eq, -decide_eq_false_iff_not, hw1, hdl, htl]
        repeat' (first | refine And.intro ?_ ?_ | refine hk _ ?_ | intro hg | omega | exact True.intro)
        all_goals clear hk k
        refine AW.retF (ow := []) (muts := [(0, .op [nlc 1 ((nxtL l par).map I1), nlc 1 ((nxtD l d par).map I1)])]) ?_ (fun h => And.intro (.inr rfl) h)
        first | (simp [go_sem, Try.results104, nxtL, nxtD, hp3, hnl, hnd]; done) | (simp [go_sem, Try.results104, nxtL, nxtD, hp1, hnl, hnd]; done) | (simp [go_sem, Try.results104, hb, hnl2, hnd2, hp0, hnl, hnd, htl]; done))
    · intro hc; try simp at hc
      all_goals try (exfalso; omega; done)
      all_goals (
        refine AW.skipN (fun _ h => h) ?_
        have hp3 : ¬ parF l par = 3 := by simpa using hc
        have hpr := parF_not3 hlp hp3
        refine AW.reg tiOk (fun _ => []) [0, 1, 6] ?_
        intro k hk; simp -dsimp [go_sem, -decide_eq_true_eq, -decide_eq_false_iff_not, hw1, hdl, htl]
        repeat' (first | refine And.intro ?_ ?_ | refine hk _ ?_ | intro hg | omega | exact True.intro)
        all_goals clear hk k
        refine AW.seq ?_
        refine AW.block ?_
        -- live at the loop's head: [0, 1, 6]
        refine AW.loopI (fun a : Int => ⟨75, [(0, .ptr 1900 2 0 0), (1, .int .i64 par), (6, .int .i64 a)], [(7001, some ⟨1, l.map I1⟩), (7002, some ⟨1, d.map I1⟩), (1900, some ⟨2, [[.sl 7001 1 0 l.length, .sl 7002 1 0 l.length]]⟩)]⟩) (fun a => -1 ≤ a ∧ a < l.length ∧ upB l a par = upB l ((l.length : Int) - 1) par) (fun a => (a + 1).toNat) ((l.length : Int) - 1) (by refine ⟨by omega, by omega, rfl⟩) (Less.of rfl (by simp [go_sem, hdl]) (by simp [go_sem, hdl])) ?_
        rintro a ⟨ha0, ha1, hinv⟩
        refine AW.seq ?_
        refine AW.reg tiOk (fun _ => []) [0, 1, 6, 34] ?_
        intro k hk; simp -dsimp [go_sem, -decide_eq_true_eq, -decide_eq_false_iff_not, hw1, hdl, htl]
        repeat' (first | refine And.intro ?_ ?_ | refine hk _ ?_ | intro hg | omega | exact True.intro)
        all_goals clear hk k
        refine AW.cond rfl ?_ ?_
        · intro hc; try simp at hc
          all_goals try (exfalso; omega; done)
          all_goals (
            have hlt : par < a := by assumption
            obtain ⟨k, hk⟩ : ∃ k : Nat, a = k := ⟨_, (Int.toNat_of_nonneg (show 0 ≤ a by omega)).symm⟩
            subst hk
            obtain ⟨x, hx⟩ := at_some (l := l) (show k < l.length by omega)
            have hxg : l.getD k 0 = x := by rw [List.getD, hx]; rfl
            have hxl := hl k (by omega)
            rw [hxg] at hxl
            refine AW.skipN (fun _ h => h) ?_
            refine AW.block ?_
            refine AW.regK tiOk (fun _ => []) ?_
            intro k hk; simp -dsimp (maxSteps := 2000000) [go_sem, -decide_eq_true_eq, -decide_eq_false_iff_not, hw1, hdl, htl, hx]
            repeat' (first | refine And.intro ?_ ?_ | refine hk _ ?_ | intro hg | omega | exact True.intro)
            all_goals clear hk k
            show ∃ _, _
            refine ⟨x, ⟨by omega, by omega, ?_⟩, by omega, Less.of rfl (by simp [go_sem]) (by simp [go_sem])⟩
            rw [← hinv, upB_eq hl (show (0 : Int) ≤ (k : Int) by omega) (by omega), if_neg (by omega), Int.toNat_natCast, hxg])
        · intro hc; try simp at hc
          all_goals try (exfalso; omega; done)
          all_goals (
            refine AW.exitN (fun _ h => h) ?_
            refine AW.seq ?_
            refine AW.reg tiOk (fun _ => []) [0, 1, 44] ?_
            intro k hk; simp -dsimp [go_sem, -decide_eq_true_eq, -decide_eq_false_iff_not, hw1, hdl, htl]
            repeat' (first | refine And.intro ?_ ?_ | refine hk _ ?_ | intro hg | omega | exact True.intro)
            all_goals clear hk k
            refine AW.cond rfl ?_ ?_
            · intro hc; try simp at hc
              all_goals try (exfalso; omega; done)
              all_goals (
                refine AW.fold (nd := ?nd_5) (c := ?c_5) (l := ?l_5) (es := ?es_5) (n := ?n_5) 1900 0 0 7001 ?h1_5 ?h2_5 ?h4_5 ?h3_5 ?hn_5 (by decide) ?h6_5 ?kk_5
                (case h1_5 => exact rfl)
                (case h2_5 => exact rfl)
                (case h4_5 => exact rfl)
                (case h3_5 => exact rfl)
                (case hn_5 => simp [hdl])
                (case h6_5 => simp [go_sem, hdl])
                refine AW.fold (nd := ?nd_6) (c := ?c_6) (l := ?l_6) (es := ?es_6) (n := ?n_6) 1900 0 1 7002 ?h1_6 ?h2_6 ?h4_6 ?h3_6 ?hn_6 (by decide) ?h6_6 ?kk_6
                (case h1_6 => exact rfl)
                (case h2_6 => exact rfl)
                (case h4_6 => exact rfl)
                (case h3_6 => exact rfl)
                (case hn_6 => simp [hdl])
                (case h6_6 => simp [go_sem, hdl])
                have hup : upB l ((l.length : Int) - 1) par = false := by rw [← hinv]; exact upB_lt hl l.length a (by omega) (by omega) (by omega)
                have hp1 : parF l par = 1 := by unfold parF; rw [if_neg (by omega), if_pos ⟨hlp, hup⟩]
                refine AW.reg tiOk (fun _ => []) [0, 4] ?_
                intro k hk; simp -dsimp [go_sem, -decide_eq_true_eq, -decide_eq_false_iff_not, hw1, hdl, htl]
                repeat' (first | refine And.intro ?_ ?_ | refine hk _ ?_ | intro hg | omega | exact True.intro)
                all_goals clear hk k
                refine AW.retF (ow := []) (muts := [(0, .op [nlc 1 ((nxtL l par).map I1), nlc 1 ((nxtD l d par).map I1)])]) ?_ (fun h => And.intro (.inr rfl) h)
                first | (simp [go_sem, Try.results104, nxtL, nxtD, hp3, hnl, hnd]; done) | (simp [go_sem, Try.results104, nxtL, nxtD, hp1, hnl, hnd]; done) | (simp [go_sem, Try.results104, hb, hnl2, hnd2, hp0, hnl, hnd, htl]; done))
            · intro hc; try simp at hc
              all_goals try (exfalso; omega; done)
              all_goals (
                refine AW.skipN (fun _ h => h) ?_
                have hpa : a = par := by first | assumption | omega
                have hup : upB l ((l.length : Int) - 1) par = true := by rw [← hinv, upB_eq hl (by omega) (by omega), if_pos hpa]
                have hp0 : parF l par = 0 := by unfold parF; rw [if_neg (by omega), if_neg (by rw [hup]; simp)]
                refine AW.reg tiOk (fun _ => []) [0, 1, 7] ?_
                intro k hk; simp -dsimp [go_sem, -decide_eq_true_eq, -decide_eq_false_iff_not, hw1, hdl, htl]
                repeat' (first | refine And.intro ?_ ?_ | refine hk _ ?_ | intro hg | omega | exact True.intro)
                all_goals clear hk k
                refine AW.seq ?_
                refine AW.reg tiOk (fun _ => []) [0, 1, 7, 46] ?_
                intro k hk; simp -dsimp [go_sem, -decide_eq_true_eq, -decide_eq_false_iff_not, hw1, hdl, htl]
                repeat' (first | refine And.intro ?_ ?_ | refine hk _ ?_ | intro hg | omega | exact True.intro)
                all_goals clear hk k
                refine AW.cond rfl ?_ ?_
                · intro hc; try simp at hc
                  all_goals try (exfalso; omega; done)
                  all_goals (
                    obtain ⟨b, hb⟩ : ∃ b : Nat, par = b := ⟨_, (Int.toNat_of_nonneg hpr.1).symm⟩
                    have hdb : d[b]? = some (dep l b) := by rw [hd]; exact depsOf_at (by omega)
                    have hds := dep_small hl (a := (b : Int)) (by omega)
                    have hw2 : IntKind.wrap .i64 (dep l b + 1) = dep l b + 1 := wrap64 (by omega) (by omega)
                    have hdg : d.getD b 0 = dep l b := by rw [List.getD, hdb]; rfl
                    have hnl2 : nxtL l par = l ++ [par] := nxtL_app hp0
                    have hnd2 : nxtD l d par = d ++ [dep l b + 1] := by rw [nxtD, if_pos hp0, if_pos hpr.1, hb, Int.toNat_natCast, hdg]
                    rw [hb] at hnl2 hnd2 hp0
                    refine AW.regN tiOk (fun _ => []) [0, 1, 7] (fun _ h => h) ?_
                    intro k hk; simp -dsimp (maxSteps := 2000000) [go_sem, -decide_eq_true_eq, -decide_eq_false_iff_not, hw1, hdl, htl, hb, hdb, hw2]
                    repeat' (first | refine And.intro ?_ ?_ | refine hk _ ?_ | intro hg | omega | exact True.intro)
                    all_goals clear hk k
                    refine AW.reg tiOk (fun _ => []) [0] ?_
                    intro k hk; simp -dsimp (maxSteps := 2000000) [go_sem, -decide_eq_true_eq, -decide_eq_false_iff_not, hw1, hdl, htl]
                    repeat' (first | refine And.intro ?_ ?_ | (refine Chk.keys ?_; simp only [go_sem, List.map_cons, List.map_nil, List.flatMap_cons, List.flatMap_nil, List.flatMap_append, List.append_nil, List.nil_append, List.cons_append]; decide +kernel) | refine hk _ ?_ | intro hg | omega | exact True.intro)
                    all_goals clear hk k
                    refine AW.fold (nd := ?nd_7) (c := ?c_7) (l := ?l_7) (es := ?es_7) (n := ?n_7) 1900 0 0 63 ?h1_7 ?h2_7 ?h4_7 ?h3_7 ?hn_7 (by decide) ?h6_7 ?kk_7
                    (case h1_7 => exact rfl)
                    (case h2_7 => exact rfl)
                    (case h4_7 => exact rfl)
                    (case h3_7 => exact rfl)
                    (case hn_7 => simp [hdl])
                    (case h6_7 => simp [go_sem, hdl])
                    refine AW.fold (nd := ?nd_8) (c := ?c_8) (l := ?l_8) (es := ?es_8) (n := ?n_8) 1900 0 1 70 ?h1_8 ?h2_8 ?h4_8 ?h3_8 ?hn_8 (by decide) ?h6_8 ?kk_8
                    (case h1_8 => exact rfl)
                    (case h2_8 => exact rfl)
                    (case h4_8 => exact rfl)
                    (case h3_8 => exact rfl)
                    (case hn_8 => simp [hdl])
                    (case h6_8 => simp [go_sem, hdl])
                    refine AW.reg tiOk (fun _ => []) [0, 4] ?_
                    intro k hk; simp -dsimp [go_sem, -decide_eq_true_eq, -decide_eq_false_iff_not, hw1, hdl, htl]
                    repeat' (first | refine And.intro ?_ ?_ | refine hk _ ?_ | intro hg | omega | exact True.intro)
                    all_goals clear hk k
                    refine AW.retF (ow := []) (muts := [(0, .op [nlc 1 ((nxtL l par).map I1), nlc 1 ((nxtD l d par).map I1)])]) ?_ (fun h => And.intro (.inr rfl) h)
                    first | (simp [go_sem, Try.results104, nxtL, nxtD, hp3, hnl, hnd]; done) | (simp [go_sem, Try.results104, nxtL, nxtD, hp1, hnl, hnd]; done) | (simp [go_sem, Try.results104, hb, hnl2, hnd2, hp0, hnl, hnd, htl]; done))
                · intro hc; try simp at hc
                  all_goals try (exfalso; omega; done)
                  all_goals (
                    refine AW.skipN (fun _ h => h) ?_
                    refine AW.reg tiOk (fun _ => []) [0] ?_
                    intro k hk; simp -dsimp (maxSteps := 2000000) [go_sem, -decide_eq_true_eq, -decide_eq_false_iff_not, hw1, hdl, htl]
                    repeat' (first | refine And.intro ?_ ?_ | (refine Chk.keys ?_; simp only [go_sem, List.map_cons, List.map_nil, List.flatMap_cons, List.flatMap_nil, List.flatMap_append, List.append_nil, List.nil_append, List.cons_append]; decide +kernel) | refine hk _ ?_ | intro hg | omega | exact True.intro)
                    all_goals clear hk k
                    refine AW.fold (nd := ?nd_9) (c := ?c_9) (l := ?l_9) (es := ?es_9) (n := ?n_9) 1900 0 0 63 ?h1_9 ?h2_9 ?h4_9 ?h3_9 ?hn_9 (by decide) ?h6_9 ?kk_9
                    (case h1_9 => exact rfl)
                    (case h2_9 => exact rfl)
                    (case h4_9 => exact rfl)
                    (case h3_9 => exact rfl)
                    (case hn_9 => simp [hdl])
                    (case h6_9 => simp [go_sem, hdl])
                    refine AW.fold (nd := ?nd_10) (c := ?c_10) (l := ?l_10) (es := ?es_10) (n := ?n_10) 1900 0 1 70 ?h1_10 ?h2_10 ?h4_10 ?h3_10 ?hn_10 (by decide) ?h6_10 ?kk_10
                    (case h1_10 => exact rfl)
                    (case h2_10 => exact rfl)
                    (case h4_10 => exact rfl)
                    (case h3_10 => exact rfl)
                    (case hn_10 => simp [hdl])
                    (case h6_10 => simp [go_sem, hdl])
                    refine AW.reg tiOk (fun _ => []) [0, 4] ?_
                    intro k hk; simp -dsimp [go_sem, -decide_eq_true_eq, -decide_eq_false_iff_not, hw1, hdl, htl]
                    repeat' (first | refine And.intro ?_ ?_ | refine hk _ ?_ | intro hg | omega | exact True.intro)
                    all_goals clear hk k
                    refine AW.retF (ow := []) (muts := [(0, .op [nlc 1 ((nxtL l par).map I1), nlc 1 ((nxtD l d par).map I1)])]) ?_ (fun h => And.intro (.inr rfl) h)
                    first | (simp [go_sem, Try.results104, nxtL, nxtD, hp3, hnl, hnd]; done) | (simp [go_sem, Try.results104, nxtL, nxtD, hp1, hnl, hnd]; done) | (simp [go_sem, Try.results104, hb, hnl2, hnd2, hp0, hnl, hnd, htl]; done)))))
theorem dc_parents_next (l d : List Int) (par : Int) (hl : ParOk l) (hd : d = depsOf l) (h24 : l.length ≤ 24) : DC Try.prog 104 [.op [nlc 1 (l.map I1), nlc 1 (d.map I1)], .int .i64 par] (.int .i64 (parF l par)) [(0, .op [nlc 1 ((nxtL l par).map I1), nlc 1 ((nxtD l d par).map I1)])] := by
  by_cases hn : l = []
  · subst hn; subst hd; exact dc_impl_parents_next_z par
  · have hdl : d.length = l.length := by rw [hd]; exact depsOf_len l
    rw [nlc_map hn, nlc_map (l := d) (by intro h; rw [h] at hdl; exact hn (List.eq_nil_of_length_eq_zero hdl.symm))]
    exact dc_impl_parents_next_s l d par hl hd hn h24

set_option maxHeartbeats 600000 in
set_option linter.unusedSimpArgs false in
set_option maxRecDepth 100000 in
/-- (*impl.parents).last -/
theorem dc_impl_parents_last (L D : List (List AV)) (v : Int) (hD : D.length ≤ 1000) : DC Try.prog 105 [.ip [.isl 1 L, .isl 1 (D ++ [[.int .i64 v]])]] (.int .i64 v) [] := by
  have hw1 : IntKind.wrap .i64 (D.length : Int) = (D.length : Int) := wrap64 (by omega) (by omega)
  have hat : (D ++ [[AV.int .i64 v]])[D.length]? = some [AV.int .i64 v] := List.getElem?_concat_length
  refine DC.intro tiOk Try.func105 rfl rfl rfl rfl rfl rfl rfl rfl [] ?_
  refine AW.reg tiOk (fun _ => []) [0] ?_
  intro k hk; simp -dsimp [go_sem, -decide_eq_true_eq, -decide_eq_false_iff_not, hw1, hat]
  repeat' (first | refine And.intro ?_ ?_ | refine hk _ ?_ | intro hg | omega | exact True.intro)
  all_goals clear hk k
  refine AW.reg tiOk (fun _ => []) [2] ?_
  intro k hk; simp -dsimp (maxSteps := 2000000) [go_sem, -decide_eq_true_eq, -decide_eq_false_iff_not, hw1, hat]
  repeat' (first | refine And.intro ?_ ?_ | (refine Chk.keys ?_; simp only [go_sem, List.map_cons, List.map_nil, List.flatMap_cons, List.flatMap_nil, List.flatMap_append, List.append_nil, List.nil_append, List.cons_append]; decide +kernel) | refine hk _ ?_ | intro hg | omega | exact True.intro)
  all_goals clear hk k
  refine AW.retF (ow := []) (muts := []) ?_ (fun h => And.intro (.inr rfl) h)
  simp [go_sem, Try.results105]

end Go.AM

/-! ### G2 -/
set_option linter.unusedVariables false
set_option linter.unusedSimpArgs false
namespace Go.AM
open Go.Proofs

set_option maxHeartbeats 600000 in
set_option linter.unusedSimpArgs false in
set_option maxRecDepth 100000 in
/-- impl.kids -/
theorem dc_impl_kids (p : List TStep) (a : Int) (hp : p.length ≤ 24) : DC Try.prog 109 [.isl 6 (p.map TStep.ro), .int .i64 a] (.osl 1 ((kids p a).map I1)) [] := by
  refine DC.intro tiOk Try.func109 rfl rfl rfl rfl rfl rfl rfl rfl [1000] ?_
  refine AW.reg tiOk (fun _ => []) [0, 1] ?_
  intro k hk; simp -dsimp [go_sem, -decide_eq_true_eq, -decide_eq_false_iff_not]
  repeat' (first | refine And.intro ?_ ?_ | refine hk _ ?_ | intro hg | omega | exact True.intro)
  all_goals clear hk k
  refine AW.reg tiOk (fun _ => []) [0, 1, 5] ?_
  intro k hk; simp -dsimp [go_sem, -decide_eq_true_eq, -decide_eq_false_iff_not]
  repeat' (first | refine And.intro ?_ ?_ | refine hk _ ?_ | intro hg | omega | exact True.intro)
  all_goals clear hk k
  refine AW.seq ?_
  refine AW.reg tiOk (fun _ => []) [1, 5, 9, 10, 11] ?_
  intro k hk; simp -dsimp [go_sem, -decide_eq_true_eq, -decide_eq_false_iff_not]
  repeat' (first | refine And.intro ?_ ?_ | refine hk _ ?_ | intro hg | omega | exact True.intro)
  all_goals clear hk k
  refine AW.block ?_
  -- live at the loop's head: [1, 5, 9, 10, 11]
  refine AW.rename (nd := ?nd_1) 8 27 ?h1_1 ?h2_1 ?h4_1 ?kk_1
  (case h1_1 => exact rfl)
  (case h2_1 => simp [go_sem])
  (case h4_1 => simp [go_sem])
  refine AW.loopI (fun i : Nat => ⟨30, [(1, .int .i64 a), (5, .sl 27 1 0 (kidU p a i).length), (9, .isl 6 (p.map TStep.ro)), (10, .int .i64 p.length), (11, .int .i64 i)], [(27, some ⟨1, (kidU p a i).map I1⟩)]⟩) (fun i => i ≤ p.length) (fun i => p.length - i) (0) (by simp) (Less.of rfl (by simp [go_sem, kidU]) (by simp [go_sem, kidU])) ?_
  rintro i hi
  refine AW.rename (nd := ?nd_2) 27 8 ?h1_2 ?h2_2 ?h4_2 ?kk_2
  (case h1_2 => exact rfl)
  (case h2_2 => simp [go_sem])
  (case h4_2 => simp [go_sem])
  refine AW.reg tiOk (fun _ => []) [1, 5, 9, 10, 11, 12] ?_
  intro k hk; simp -dsimp [go_sem, -decide_eq_true_eq, -decide_eq_false_iff_not]
  repeat' (first | refine And.intro ?_ ?_ | refine hk _ ?_ | intro hg | omega | exact True.intro)
  all_goals clear hk k
  refine AW.seq ?_
  refine AW.cond rfl ?_ ?_
  · intro hc; try simp at hc
    all_goals (
      have hlt : i < p.length := by assumption
      obtain ⟨x, hx⟩ := at_some hlt
      have hkl := kidU_len p a i
      refine AW.skipN (fun _ h => h) ?_
      refine AW.seq ?_
      refine AW.block ?_
      refine AW.reg tiOk (fun _ => []) [1, 5, 6, 7, 9, 10, 11] ?_
      intro k hk; simp -dsimp [go_sem, -decide_eq_true_eq, -decide_eq_false_iff_not, hx]
      repeat' (first | refine And.intro ?_ ?_ | refine hk _ ?_ | intro hg | omega | exact True.intro)
      all_goals clear hk k
      refine AW.cut ⟨30, [(1, .int .i64 a), (5, .sl 8 1 0 (kidU p a i).length), (6, .int .i64 i), (9, .isl 6 (p.map TStep.ro)), (10, .int .i64 p.length), (11, .int .i64 i), (23, .bool (decide (0 < i ∧ x.par = a)))], [(8, some ⟨1, (kidU p a i).map I1⟩)]⟩ ?_ ?_
      · skip
        refine AW.regK tiOk (fun _ => []) ?_
        intro k hk; simp +contextual -dsimp (maxSteps := 2000000) [go_sem, -decide_eq_true_eq, -decide_eq_false_iff_not, hx]
        repeat' (first | refine And.intro ?_ ?_ | refine hk _ ?_ | (intro hg; try simp only [decide_eq_true_eq, decide_eq_false_iff_not] at hg) | omega | exact True.intro)
        all_goals clear hk k
        all_goals (show St.Less _ _; exact Less.of rfl (by simp [go_sem] <;> first | omega | grind) (by simp [go_sem]))
      · skip
        refine AW.cond rfl ?_ ?_
        · intro hc; try simp at hc
          all_goals (
            have hks := kidU_yes hx (by simpa using hc)
            refine AW.regN tiOk (fun _ => []) [1, 5, 9, 10, 11] (fun _ h => h) ?_
            intro k hk; simp -dsimp [go_sem, -decide_eq_true_eq, -decide_eq_false_iff_not, hx]
            repeat' (first | refine And.intro ?_ ?_ | refine hk _ ?_ | intro hg | omega | exact True.intro)
            all_goals clear hk k
            try (have hks := kidU_not hx (by simpa using hc))
            try (refine AW.rename (nd := ?nd_3) 8 27 ?h1_3 ?h2_3 ?h4_3 ?kk_3; (case h1_3 => exact rfl); (case h2_3 => simp [go_sem]); (case h4_3 => simp [go_sem]))
            refine AW.regK tiOk (fun _ => []) ?_
            intro k hk; simp -dsimp [go_sem, -decide_eq_true_eq, -decide_eq_false_iff_not, hx]
            repeat' (first | refine And.intro ?_ ?_ | refine hk _ ?_ | intro hg | omega | exact True.intro)
            all_goals clear hk k
            show ∃ _, _
            have hw := wrapi hlt (by omega)
            refine ⟨i + 1, by omega, by omega, Less.of rfl (by simp [go_sem, hw, hks] <;> omega) (by simp [go_sem, hks])⟩)
        · intro hc; try simp at hc
          all_goals (
            refine AW.skipN (fun _ h => h) ?_
            try (have hks := kidU_not hx (by simpa using hc))
            try (refine AW.rename (nd := ?nd_4) 8 27 ?h1_4 ?h2_4 ?h4_4 ?kk_4; (case h1_4 => exact rfl); (case h2_4 => simp [go_sem]); (case h4_4 => simp [go_sem]))
            refine AW.regK tiOk (fun _ => []) ?_
            intro k hk; simp -dsimp [go_sem, -decide_eq_true_eq, -decide_eq_false_iff_not, hx]
            repeat' (first | refine And.intro ?_ ?_ | refine hk _ ?_ | intro hg | omega | exact True.intro)
            all_goals clear hk k
            show ∃ _, _
            have hw := wrapi hlt (by omega)
            refine ⟨i + 1, by omega, by omega, Less.of rfl (by simp [go_sem, hw, hks] <;> omega) (by simp [go_sem, hks])⟩))
  · intro hc; try simp at hc
    all_goals (
      refine AW.exitN (fun _ h => h) ?_
      refine AW.reg tiOk (fun _ => []) [4] ?_
      intro k hk; simp -dsimp [go_sem, -decide_eq_true_eq, -decide_eq_false_iff_not]
      repeat' (first | refine And.intro ?_ ?_ | refine hk _ ?_ | intro hg | omega | exact True.intro)
      all_goals clear hk k
      refine AW.retF (ow := [1000]) (muts := []) ?_ (fun h => And.intro (.inr rfl) h)
      rw [kids_end (by omega)]; simp [go_sem, Try.results109])

set_option maxHeartbeats 600000 in
set_option linter.unusedSimpArgs false in
set_option maxRecDepth 100000 in
/-- spec.l4Kids -/
theorem dc_spec_l4Kids (p : List TStep) (a : Int) (hp : p.length ≤ 24) (h0 : (nS p 0).par ≠ a) : DC Try.prog 101 [.isl 6 (p.map TStep.ro), .int .i64 a] (.osl 1 ((kids p a).map I1)) [] := by
  refine DC.intro tiOk Try.func101 rfl rfl rfl rfl rfl rfl rfl rfl [1000] ?_
  refine AW.reg tiOk (fun _ => []) [0, 1] ?_
  intro k hk; simp -dsimp [go_sem, -decide_eq_true_eq, -decide_eq_false_iff_not]
  repeat' (first | refine And.intro ?_ ?_ | refine hk _ ?_ | intro hg | omega | exact True.intro)
  all_goals clear hk k
  refine AW.reg tiOk (fun _ => []) [0, 1, 5] ?_
  intro k hk; simp -dsimp [go_sem, -decide_eq_true_eq, -decide_eq_false_iff_not]
  repeat' (first | refine And.intro ?_ ?_ | refine hk _ ?_ | intro hg | omega | exact True.intro)
  all_goals clear hk k
  refine AW.seq ?_
  refine AW.reg tiOk (fun _ => []) [0, 1, 5, 6] ?_
  intro k hk; simp -dsimp [go_sem, -decide_eq_true_eq, -decide_eq_false_iff_not]
  repeat' (first | refine And.intro ?_ ?_ | refine hk _ ?_ | intro hg | omega | exact True.intro)
  all_goals clear hk k
  refine AW.block ?_
  -- live at the loop's head: [0, 1, 5, 6]
  refine AW.rename (nd := ?nd_1) 7 24 ?h1_1 ?h2_1 ?h4_1 ?kk_1
  (case h1_1 => exact rfl)
  (case h2_1 => simp [go_sem])
  (case h4_1 => simp [go_sem])
  refine AW.loopI (fun i : Nat => ⟨26, [(0, .isl 6 (p.map TStep.ro)), (1, .int .i64 a), (5, .sl 24 1 0 (kidU p a i).length), (6, .int .i64 i)], [(24, some ⟨1, (kidU p a i).map I1⟩)]⟩) (fun i => i ≤ p.length) (fun i => p.length - i) (0) (by simp) (Less.of rfl (by simp [go_sem, kidU]) (by simp [go_sem, kidU])) ?_
  rintro i hi
  refine AW.rename (nd := ?nd_2) 24 7 ?h1_2 ?h2_2 ?h4_2 ?kk_2
  (case h1_2 => exact rfl)
  (case h2_2 => simp [go_sem])
  (case h4_2 => simp [go_sem])
  refine AW.seq ?_
  refine AW.reg tiOk (fun _ => []) [0, 1, 5, 6, 11] ?_
  intro k hk; simp -dsimp [go_sem, -decide_eq_true_eq, -decide_eq_false_iff_not]
  repeat' (first | refine And.intro ?_ ?_ | refine hk _ ?_ | intro hg | omega | exact True.intro)
  all_goals clear hk k
  refine AW.cond rfl ?_ ?_
  · intro hc; try simp at hc
    all_goals (
      have hlt : i < p.length := by assumption
      obtain ⟨x, hx⟩ := at_some hlt
      have hi0 : x.par = a → 0 < i := fun h => by rcases Nat.eq_zero_or_pos i with h1 | h1; (exfalso; subst h1; rw [nS_at hx] at h0; exact h0 h); exact h1
      have hkl := kidU_len p a i
      refine AW.skipN (fun _ h => h) ?_
      refine AW.seq ?_
      refine AW.block ?_
      refine AW.reg tiOk (fun _ => []) [0, 1, 5, 6, 20] ?_
      intro k hk; simp -dsimp (maxSteps := 2000000) [go_sem, -decide_eq_true_eq, -decide_eq_false_iff_not, hx]
      repeat' (first | refine And.intro ?_ ?_ | refine hk _ ?_ | intro hg | omega | exact True.intro)
      all_goals clear hk k
      refine AW.cond rfl ?_ ?_
      · intro hc; try simp at hc
        all_goals (
          have hxa : x.par = a := by simpa using hc
          have hks := kidU_yes hx ⟨hi0 hxa, hxa⟩
          refine AW.regN tiOk (fun _ => []) [0, 1, 5, 6] (fun _ h => h) ?_
          intro k hk; simp -dsimp [go_sem, -decide_eq_true_eq, -decide_eq_false_iff_not, hx]
          repeat' (first | refine And.intro ?_ ?_ | refine hk _ ?_ | intro hg | omega | exact True.intro)
          all_goals clear hk k
          try (have hks := kidU_not hx (fun h => absurd h.2 (by simpa using hc)))
          try (refine AW.rename (nd := ?nd_3) 7 24 ?h1_3 ?h2_3 ?h4_3 ?kk_3; (case h1_3 => exact rfl); (case h2_3 => simp [go_sem]); (case h4_3 => simp [go_sem]))
          refine AW.regK tiOk (fun _ => []) ?_
          intro k hk; simp -dsimp [go_sem, -decide_eq_true_eq, -decide_eq_false_iff_not, hx]
          repeat' (first | refine And.intro ?_ ?_ | refine hk _ ?_ | intro hg | omega | exact True.intro)
          all_goals clear hk k
          show ∃ _, _
          have hw := wrapi hlt (by omega)
          refine ⟨i + 1, by omega, by omega, Less.of rfl (by simp [go_sem, hw, hks] <;> omega) (by simp [go_sem, hks])⟩)
      · intro hc; try simp at hc
        all_goals (
          refine AW.skipN (fun _ h => h) ?_
          try (have hks := kidU_not hx (fun h => absurd h.2 (by simpa using hc)))
          try (refine AW.rename (nd := ?nd_4) 7 24 ?h1_4 ?h2_4 ?h4_4 ?kk_4; (case h1_4 => exact rfl); (case h2_4 => simp [go_sem]); (case h4_4 => simp [go_sem]))
          refine AW.regK tiOk (fun _ => []) ?_
          intro k hk; simp -dsimp [go_sem, -decide_eq_true_eq, -decide_eq_false_iff_not, hx]
          repeat' (first | refine And.intro ?_ ?_ | refine hk _ ?_ | intro hg | omega | exact True.intro)
          all_goals clear hk k
          show ∃ _, _
          have hw := wrapi hlt (by omega)
          refine ⟨i + 1, by omega, by omega, Less.of rfl (by simp [go_sem, hw, hks] <;> omega) (by simp [go_sem, hks])⟩))
  · intro hc; try simp at hc
    all_goals (
      refine AW.exitN (fun _ h => h) ?_
      refine AW.reg tiOk (fun _ => []) [4] ?_
      intro k hk; simp -dsimp [go_sem, -decide_eq_true_eq, -decide_eq_false_iff_not]
      repeat' (first | refine And.intro ?_ ?_ | refine hk _ ?_ | intro hg | omega | exact True.intro)
      all_goals clear hk k
      refine AW.retF (ow := [1000]) (muts := []) ?_ (fun h => And.intro (.inr rfl) h)
      rw [kids_end (by omega)]; simp [go_sem, Try.results101])

end Go.AM

/-! ### G3 -/
set_option linter.unusedVariables false
set_option linter.unusedSimpArgs false
namespace Go.AM
open Go.Proofs

set_option maxHeartbeats 600000 in
set_option linter.unusedSimpArgs false in
set_option maxRecDepth 100000 in
/-- impl.wantsCond -/
theorem dc_impl_wantsCond_z (p : List TStep) (ho : StepsOk p) : DC Try.prog 110 [.isl 6 (p.map TStep.ro), .int .i64 0] (.bool (wants p 0)) [] := by
  have hi : 0 < p.length := by have := ho.len; omega
  have hlen := ho.len
  obtain ⟨x, hx⟩ := at_some hi
  have hxS := nS_at hx
  have hx0 := ho.par0
  rw [hxS] at hx0
  refine DC.intro tiOk Try.func110 rfl rfl rfl rfl rfl rfl rfl rfl [] ?_
  refine AW.reg tiOk (fun _ => []) [0, 1] ?_
  intro k hk; simp -dsimp [go_sem, -decide_eq_true_eq, -decide_eq_false_iff_not, hx, hx0]
  repeat' (first | refine And.intro ?_ ?_ | refine hk _ ?_ | intro hg | omega | exact True.intro)
  all_goals clear hk k
  refine AW.reg tiOk (fun _ => []) [0, 1, 5] ?_
  intro k hk; simp -dsimp [go_sem, -decide_eq_true_eq, -decide_eq_false_iff_not, hx, hx0]
  repeat' (first | refine And.intro ?_ ?_ | refine hk _ ?_ | intro hg | omega | exact True.intro)
  all_goals clear hk k
  refine AW.seq ?_
  refine AW.reg tiOk (fun _ => []) [0, 1, 5, 21] ?_
  intro k hk; simp +contextual -dsimp (maxSteps := 2000000) [go_sem, -decide_eq_true_eq, -decide_eq_false_iff_not, hx, hx0]
  repeat' (first | refine And.intro ?_ ?_ | refine hk _ ?_ | (intro hg; try simp only [decide_eq_true_eq, decide_eq_false_iff_not] at hg) | omega | exact True.intro)
  all_goals clear hk k
  all_goals (
    refine AW.cond rfl ?_ ?_
    · intro hc; try simp at hc
      all_goals try (exfalso; first | omega | (simp at hc; done); done)
      all_goals (
        refine AW.reg tiOk (fun _ => []) [4] ?_
        intro k hk; simp -dsimp [go_sem, -decide_eq_true_eq, -decide_eq_false_iff_not, hx, hx0]
        repeat' (first | refine And.intro ?_ ?_ | refine hk _ ?_ | intro hg | omega | exact True.intro)
        all_goals clear hk k
        refine AW.retF (ow := []) (muts := []) ?_ (fun h => And.intro (.inr rfl) h)
        simp [go_sem, Try.results110, wants])
    · intro hc; try simp at hc
      all_goals try (exfalso; first | omega | (simp at hc; done); done)
      all_goals (
        refine AW.skipN (fun _ h => h) ?_
        refine AW.reg tiOk (fun _ => []) [1, 6] ?_
        intro k hk; simp -dsimp (maxSteps := 2000000) [go_sem, -decide_eq_true_eq, -decide_eq_false_iff_not, hx, hx0]
        repeat' (first | refine And.intro ?_ ?_ | refine hk _ ?_ | intro hg | (refine CallK.intro (fail) ?_; simp -dsimp (maxSteps := 2000000) [go_sem, -decide_eq_true_eq, -decide_eq_false_iff_not, hx, hx0]) | omega | exact True.intro)
        all_goals clear hk k
        refine AW.reg tiOk (fun _ => []) [4] ?_
        intro k hk; simp -dsimp (maxSteps := 2000000) [go_sem, -decide_eq_true_eq, -decide_eq_false_iff_not, hx, hx0]
        repeat' (first | refine And.intro ?_ ?_ | refine hk _ ?_ | intro hg | omega | exact True.intro)
        all_goals clear hk k
        refine AW.retF (ow := []) (muts := []) ?_ (fun h => And.intro (.inr rfl) h)
        simp [go_sem, Try.results110, wants]))

set_option maxHeartbeats 600000 in
set_option linter.unusedSimpArgs false in
set_option maxRecDepth 100000 in
/-- impl.wantsCond -/
theorem dc_impl_wantsCond_s (p : List TStep) (ho : StepsOk p) (i : Nat) (hi : i < p.length) (hi0 : 0 < i) : DC Try.prog 110 [.isl 6 (p.map TStep.ro), .int .i64 (i : Nat)] (.bool (wants p i)) [] := by
  have hlen := ho.len
  obtain ⟨x, hx⟩ := at_some hi
  have hxS := nS_at hx
  have hpi := ho.parI hi0 hi
  rw [hxS] at hpi
  obtain ⟨a, ha⟩ : ∃ a : Nat, x.par = a := ⟨_, (Int.toNat_of_nonneg hpi.1).symm⟩
  obtain ⟨y, hy⟩ := at_some (l := p) (show a < p.length by omega)
  have hyS := nS_at hy
  have hdi : decide ((i : Int) = 0) = false := decide_eq_false (by omega)
  have hdi2 : ((i : Int) = 0) = False := eq_false (by omega)
  have hdj : (i = 0) = False := eq_false (by omega)
  have hkn := ho.kids_ne hi0 hi
  rw [hxS, ha] at hkn
  have hkl := last_at hkn
  have hkm := kids_len p (a : Int)
  have hkp := List.length_pos_iff.2 hkn
  have hwl : IntKind.wrap .i64 (((kids p a).length : Int) - 1) = ((kids p a).length : Int) - 1 := wrap64 (by omega) (by omega)
  have hwt : (((kids p a).length : Int) - 1).toNat = (kids p a).length - 1 := by omega
  refine DC.intro tiOk Try.func110 rfl rfl rfl rfl rfl rfl rfl rfl [] ?_
  refine AW.reg tiOk (fun _ => []) [0, 1] ?_
  intro k hk; simp -dsimp [go_sem, -decide_eq_true_eq, -decide_eq_false_iff_not, hx, hy, ha, hdi, hdi2]
  repeat' (first | refine And.intro ?_ ?_ | refine hk _ ?_ | intro hg | omega | exact True.intro)
  all_goals clear hk k
  refine AW.reg tiOk (fun _ => []) [0, 1, 5] ?_
  intro k hk; simp -dsimp [go_sem, -decide_eq_true_eq, -decide_eq_false_iff_not, hx, hy, ha, hdi, hdi2]
  repeat' (first | refine And.intro ?_ ?_ | refine hk _ ?_ | intro hg | omega | exact True.intro)
  all_goals clear hk k
  refine AW.seq ?_
  refine AW.reg tiOk (fun _ => []) [0, 1, 5, 21] ?_
  intro k hk; simp +contextual -dsimp (maxSteps := 2000000) [go_sem, -decide_eq_true_eq, -decide_eq_false_iff_not, hx, hy, ha, hdi, hdi2]
  repeat' (first | refine And.intro ?_ ?_ | refine hk _ ?_ | (intro hg; try simp only [decide_eq_true_eq, decide_eq_false_iff_not] at hg) | omega | exact True.intro)
  all_goals clear hk k
  all_goals (
    refine AW.cond rfl ?_ ?_
    · intro hc; try simp at hc
      all_goals try (exfalso; omega; done)
      all_goals (
        refine AW.reg tiOk (fun _ => []) [4] ?_
        intro k hk; simp -dsimp [go_sem, -decide_eq_true_eq, -decide_eq_false_iff_not, hx, hy, ha, hdi, hdi2]
        repeat' (first | refine And.intro ?_ ?_ | refine hk _ ?_ | intro hg | omega | exact True.intro)
        all_goals clear hk k
        refine AW.retF (ow := []) (muts := []) ?_ (fun h => And.intro (.inr rfl) h)
        simp [go_sem, Try.results110, wants, hxS, hyS, ha, hdj, hdi2] <;> grind)
    · intro hc; try simp at hc
      all_goals try (exfalso; omega; done)
      all_goals (
        refine AW.skipN (fun _ h => h) ?_
        refine AW.reg tiOk (fun _ => []) [1, 6] ?_
        intro k hk; simp -dsimp (maxSteps := 2000000) [go_sem, -decide_eq_true_eq, -decide_eq_false_iff_not, hx, hy, ha, hdi, hdi2]
        repeat' (first | refine And.intro ?_ ?_ | refine hk _ ?_ | intro hg | (refine CallK.intro (dc_impl_kids p (a : Int) (by omega)) ?_; simp -dsimp (maxSteps := 2000000) [go_sem, -decide_eq_true_eq, -decide_eq_false_iff_not, hx, hy, ha, hdi, hdi2]) | omega | exact True.intro)
        all_goals clear hk k
        refine AW.reg tiOk (fun _ => []) [4] ?_
        intro k hk; simp -dsimp (maxSteps := 2000000) [go_sem, -decide_eq_true_eq, -decide_eq_false_iff_not, hx, hy, ha, hdi, hdi2, hkl, hwl, hwt]
        repeat' (first | refine And.intro ?_ ?_ | refine hk _ ?_ | intro hg | omega | exact True.intro)
        all_goals clear hk k
        refine AW.retF (ow := []) (muts := []) ?_ (fun h => And.intro (.inr rfl) h)
        simp [go_sem, Try.results110, wants, hxS, hyS, ha, hdj, hdi2] <;> grind))
theorem dc_impl_wantsCond (p : List TStep) (ho : StepsOk p) (i : Nat) (hi : i < p.length) : DC Try.prog 110 [.isl 6 (p.map TStep.ro), .int .i64 (i : Nat)] (.bool (wants p i)) [] := by
  rcases Nat.eq_zero_or_pos i with h | h
  · subst h; exact dc_impl_wantsCond_z p ho
  · exact dc_impl_wantsCond_s p ho i hi h

set_option maxHeartbeats 600000 in
set_option linter.unusedSimpArgs false in
set_option maxRecDepth 100000 in
/-- spec.l4Needs -/
theorem dc_spec_l4Needs_z (p : List TStep) (ho : StepsOk p) : DC Try.prog 124 [.isl 6 (p.map TStep.ro), .int .i64 0] (.bool (wants p 0)) [] := by
  have hi : 0 < p.length := by have := ho.len; omega
  have hlen := ho.len
  obtain ⟨x, hx⟩ := at_some hi
  have hxS := nS_at hx
  have hx0 := ho.par0
  rw [hxS] at hx0
  refine DC.intro tiOk Try.func124 rfl rfl rfl rfl rfl rfl rfl rfl [] ?_
  refine AW.reg tiOk (fun _ => []) [0, 1] ?_
  intro k hk; simp -dsimp [go_sem, -decide_eq_true_eq, -decide_eq_false_iff_not, hx, hx0]
  repeat' (first | refine And.intro ?_ ?_ | refine hk _ ?_ | intro hg | omega | exact True.intro)
  all_goals clear hk k
  refine AW.reg tiOk (fun _ => []) [0, 1, 5] ?_
  intro k hk; simp -dsimp [go_sem, -decide_eq_true_eq, -decide_eq_false_iff_not, hx, hx0]
  repeat' (first | refine And.intro ?_ ?_ | refine hk _ ?_ | intro hg | omega | exact True.intro)
  all_goals clear hk k
  refine AW.seq ?_
  refine AW.reg tiOk (fun _ => []) [0, 1, 5, 21] ?_
  intro k hk; simp +contextual -dsimp (maxSteps := 2000000) [go_sem, -decide_eq_true_eq, -decide_eq_false_iff_not, hx, hx0]
  repeat' (first | refine And.intro ?_ ?_ | refine hk _ ?_ | (intro hg; try simp only [decide_eq_true_eq, decide_eq_false_iff_not] at hg) | omega | exact True.intro)
  all_goals clear hk k
  all_goals (
    refine AW.cond rfl ?_ ?_
    · intro hc; try simp at hc
      all_goals try (exfalso; first | omega | (simp at hc; done); done)
      all_goals (
        refine AW.reg tiOk (fun _ => []) [4] ?_
        intro k hk; simp -dsimp [go_sem, -decide_eq_true_eq, -decide_eq_false_iff_not, hx, hx0]
        repeat' (first | refine And.intro ?_ ?_ | refine hk _ ?_ | intro hg | omega | exact True.intro)
        all_goals clear hk k
        refine AW.retF (ow := []) (muts := []) ?_ (fun h => And.intro (.inr rfl) h)
        simp [go_sem, Try.results124, wants])
    · intro hc; try simp at hc
      all_goals try (exfalso; first | omega | (simp at hc; done); done)
      all_goals (
        refine AW.skipN (fun _ h => h) ?_
        refine AW.reg tiOk (fun _ => []) [1, 6] ?_
        intro k hk; simp -dsimp (maxSteps := 2000000) [go_sem, -decide_eq_true_eq, -decide_eq_false_iff_not, hx, hx0]
        repeat' (first | refine And.intro ?_ ?_ | refine hk _ ?_ | intro hg | (refine CallK.intro (fail) ?_; simp -dsimp (maxSteps := 2000000) [go_sem, -decide_eq_true_eq, -decide_eq_false_iff_not, hx, hx0]) | omega | exact True.intro)
        all_goals clear hk k
        refine AW.reg tiOk (fun _ => []) [4] ?_
        intro k hk; simp -dsimp (maxSteps := 2000000) [go_sem, -decide_eq_true_eq, -decide_eq_false_iff_not, hx, hx0]
        repeat' (first | refine And.intro ?_ ?_ | refine hk _ ?_ | intro hg | omega | exact True.intro)
        all_goals clear hk k
        refine AW.retF (ow := []) (muts := []) ?_ (fun h => And.intro (.inr rfl) h)
        simp [go_sem, Try.results124, wants]))

set_option maxHeartbeats 600000 in
set_option linter.unusedSimpArgs false in
set_option maxRecDepth 100000 in
/-- spec.l4Needs -/
theorem dc_spec_l4Needs_s (p : List TStep) (ho : StepsOk p) (i : Nat) (hi : i < p.length) (hi0 : 0 < i) : DC Try.prog 124 [.isl 6 (p.map TStep.ro), .int .i64 (i : Nat)] (.bool (wants p i)) [] := by
  have hlen := ho.len
  obtain ⟨x, hx⟩ := at_some hi
  have hxS := nS_at hx
  have hpi := ho.parI hi0 hi
  rw [hxS] at hpi
  obtain ⟨a, ha⟩ : ∃ a : Nat, x.par = a := ⟨_, (Int.toNat_of_nonneg hpi.1).symm⟩
  obtain ⟨y, hy⟩ := at_some (l := p) (show a < p.length by omega)
  have hyS := nS_at hy
  have hdi : decide ((i : Int) = 0) = false := decide_eq_false (by omega)
  have hdi2 : ((i : Int) = 0) = False := eq_false (by omega)
  have hdj : (i = 0) = False := eq_false (by omega)
  have hkn := ho.kids_ne hi0 hi
  rw [hxS, ha] at hkn
  have hkl := last_at hkn
  have hkm := kids_len p (a : Int)
  have hkp := List.length_pos_iff.2 hkn
  have hwl : IntKind.wrap .i64 (((kids p a).length : Int) - 1) = ((kids p a).length : Int) - 1 := wrap64 (by omega) (by omega)
  have hwt : (((kids p a).length : Int) - 1).toNat = (kids p a).length - 1 := by omega
  refine DC.intro tiOk Try.func124 rfl rfl rfl rfl rfl rfl rfl rfl [] ?_
  refine AW.reg tiOk (fun _ => []) [0, 1] ?_
  intro k hk; simp -dsimp [go_sem, -decide_eq_true_eq, -decide_eq_false_iff_not, hx, hy, ha, hdi, hdi2]
  repeat' (first | refine And.intro ?_ ?_ | refine hk _ ?_ | intro hg | omega | exact True.intro)
  all_goals clear hk k
  refine AW.reg tiOk (fun _ => []) [0, 1, 5] ?_
  intro k hk; simp -dsimp [go_sem, -decide_eq_true_eq, -decide_eq_false_iff_not, hx, hy, ha, hdi, hdi2]
  repeat' (first | refine And.intro ?_ ?_ | refine hk _ ?_ | intro hg | omega | exact True.intro)
  all_goals clear hk k
  refine AW.seq ?_
  refine AW.reg tiOk (fun _ => []) [0, 1, 5, 21] ?_
  intro k hk; simp +contextual -dsimp (maxSteps := 2000000) [go_sem, -decide_eq_true_eq, -decide_eq_false_iff_not, hx, hy, ha, hdi, hdi2]
  repeat' (first | refine And.intro ?_ ?_ | refine hk _ ?_ | (intro hg; try simp only [decide_eq_true_eq, decide_eq_false_iff_not] at hg) | omega | exact True.intro)
  all_goals clear hk k
  all_goals (
    refine AW.cond rfl ?_ ?_
    · intro hc; try simp at hc
      all_goals try (exfalso; omega; done)
      all_goals (
        refine AW.reg tiOk (fun _ => []) [4] ?_
        intro k hk; simp -dsimp [go_sem, -decide_eq_true_eq, -decide_eq_false_iff_not, hx, hy, ha, hdi, hdi2]
        repeat' (first | refine And.intro ?_ ?_ | refine hk _ ?_ | intro hg | omega | exact True.intro)
        all_goals clear hk k
        refine AW.retF (ow := []) (muts := []) ?_ (fun h => And.intro (.inr rfl) h)
        simp [go_sem, Try.results124, wants, hxS, hyS, ha, hdj, hdi2] <;> grind)
    · intro hc; try simp at hc
      all_goals try (exfalso; omega; done)
      all_goals (
        refine AW.skipN (fun _ h => h) ?_
        refine AW.reg tiOk (fun _ => []) [1, 6] ?_
        intro k hk; simp -dsimp (maxSteps := 2000000) [go_sem, -decide_eq_true_eq, -decide_eq_false_iff_not, hx, hy, ha, hdi, hdi2]
        repeat' (first | refine And.intro ?_ ?_ | refine hk _ ?_ | intro hg | (refine CallK.intro (dc_spec_l4Kids p (a : Int) (by omega) (by rw [ho.par0]; omega)) ?_; simp -dsimp (maxSteps := 2000000) [go_sem, -decide_eq_true_eq, -decide_eq_false_iff_not, hx, hy, ha, hdi, hdi2]) | omega | exact True.intro)
        all_goals clear hk k
        refine AW.reg tiOk (fun _ => []) [4] ?_
        intro k hk; simp -dsimp (maxSteps := 2000000) [go_sem, -decide_eq_true_eq, -decide_eq_false_iff_not, hx, hy, ha, hdi, hdi2, hkl, hwl, hwt]
        repeat' (first | refine And.intro ?_ ?_ | refine hk _ ?_ | intro hg | omega | exact True.intro)
        all_goals clear hk k
        refine AW.retF (ow := []) (muts := []) ?_ (fun h => And.intro (.inr rfl) h)
        simp [go_sem, Try.results124, wants, hxS, hyS, ha, hdj, hdi2] <;> grind))
theorem dc_spec_l4Needs (p : List TStep) (ho : StepsOk p) (i : Nat) (hi : i < p.length) : DC Try.prog 124 [.isl 6 (p.map TStep.ro), .int .i64 (i : Nat)] (.bool (wants p i)) [] := by
  rcases Nat.eq_zero_or_pos i with h | h
  · subst h; exact dc_spec_l4Needs_z p ho
  · exact dc_spec_l4Needs_s p ho i hi h

end Go.AM

/-! ### F1 -/
set_option linter.unusedVariables false
set_option linter.unusedSimpArgs false
namespace Go.AM
open Go.Proofs

set_option maxHeartbeats 600000 in
set_option linter.unusedSimpArgs false in
set_option maxRecDepth 100000 in
/-- impl.isTwo -/
theorem dc_impl_isTwo (k : Int) : DC Try.prog 129 [.int .i64 k] (.bool (isTwoB k)) [] := by
  refine DC.intro tiOk Try.func129 rfl rfl rfl rfl rfl rfl rfl rfl [] ?_
  refine AW.reg tiOk (fun _ => []) [0] ?_
  intro k hk; simp -dsimp [go_sem, -decide_eq_true_eq, -decide_eq_false_iff_not]
  repeat' (first | refine And.intro ?_ ?_ | refine hk _ ?_ | intro hg | omega | exact True.intro)
  all_goals clear hk k
  refine AW.reg tiOk (fun _ => []) [2] ?_
  intro k hk; simp -dsimp (maxSteps := 2000000) [go_sem, -decide_eq_true_eq, -decide_eq_false_iff_not]
  repeat' (first | refine And.intro ?_ ?_ | refine hk _ ?_ | intro hg | (refine CallK.intro (dc_impl_inRange _ _ _) ?_; simp -dsimp (maxSteps := 2000000) [go_sem, -decide_eq_true_eq, -decide_eq_false_iff_not]) | omega | exact True.intro)
  all_goals clear hk k
  refine AW.retF (ow := []) (muts := []) ?_ (fun h => And.intro (.inr rfl) h)
  simp [go_sem, Try.results129, isTwoB]

set_option maxHeartbeats 600000 in
set_option linter.unusedSimpArgs false in
set_option maxRecDepth 100000 in
/-- spec.l3Two -/
theorem dc_spec_l3Two (k : Int) : DC Try.prog 135 [.int .i64 k] (.bool (isTwoB k)) [] := by
  refine DC.intro tiOk Try.func135 rfl rfl rfl rfl rfl rfl rfl rfl [] ?_
  refine AW.reg tiOk (fun _ => []) [0] ?_
  intro k hk; simp -dsimp [go_sem, -decide_eq_true_eq, -decide_eq_false_iff_not]
  repeat' (first | refine And.intro ?_ ?_ | refine hk _ ?_ | intro hg | omega | exact True.intro)
  all_goals clear hk k
  refine AW.reg tiOk (fun _ => []) [2] ?_
  intro k hk; simp -dsimp (maxSteps := 2000000) [go_sem, -decide_eq_true_eq, -decide_eq_false_iff_not]
  repeat' (first | refine And.intro ?_ ?_ | refine hk _ ?_ | intro hg | (refine CallK.intro (dc_spec_l1In _ _ _) ?_; simp -dsimp (maxSteps := 2000000) [go_sem, -decide_eq_true_eq, -decide_eq_false_iff_not]) | omega | exact True.intro)
  all_goals clear hk k
  refine AW.retF (ow := []) (muts := []) ?_ (fun h => And.intro (.inr rfl) h)
  simp [go_sem, Try.results135, isTwoB]

set_option maxHeartbeats 600000 in
set_option linter.unusedSimpArgs false in
set_option maxRecDepth 100000 in
/-- impl.nodeFault -/
theorem dc_impl_nodeFault (n : TNode) (a : Int) (ha : 0 ≤ a ∧ a ≤ 1048576) : DC Try.prog 128 [.agg n.ro, .int .i64 a] (.int .i64 (nodeF n a)) [] := by
  have hw : IntKind.wrap .i64 (a - 1) = a - 1 := wrap64 (by omega) (by omega)
  refine DC.intro tiOk Try.func128 rfl rfl rfl rfl rfl rfl rfl rfl [] ?_
  refine AW.reg tiOk (fun _ => []) [1, 2] ?_
  intro k hk; simp -dsimp [go_sem, -decide_eq_true_eq, -decide_eq_false_iff_not, hw]
  repeat' (first | refine And.intro ?_ ?_ | refine hk _ ?_ | intro hg | omega | exact True.intro)
  all_goals clear hk k
  refine AW.seq ?_
  refine AW.block ?_
  refine AW.reg tiOk (fun _ => []) [1, 2, 6] ?_
  intro k hk; simp +contextual -dsimp (maxSteps := 2000000) [go_sem, -decide_eq_true_eq, -decide_eq_false_iff_not, hw]
  repeat' (first | refine And.intro ?_ ?_ | refine hk _ ?_ | (intro hg; try simp only [decide_eq_true_eq, decide_eq_false_iff_not] at hg) | omega | exact True.intro)
  all_goals clear hk k
  all_goals (
    refine AW.cond rfl ?_ ?_
    · intro hc; try simp at hc
      all_goals try (exfalso; omega; done)
      all_goals (
        refine AW.reg tiOk (fun _ => []) [2, 5] ?_
        intro k hk; simp -dsimp [go_sem, -decide_eq_true_eq, -decide_eq_false_iff_not, hw]
        repeat' (first | refine And.intro ?_ ?_ | refine hk _ ?_ | intro hg | omega | exact True.intro)
        all_goals clear hk k
        refine AW.seq ?_
        refine AW.reg tiOk (fun _ => []) [2, 5, 17] ?_
        intro k hk; simp -dsimp [go_sem, -decide_eq_true_eq, -decide_eq_false_iff_not, hw]
        repeat' (first | refine And.intro ?_ ?_ | refine hk _ ?_ | intro hg | omega | exact True.intro)
        all_goals clear hk k
        refine AW.cond rfl ?_ ?_
        · intro hc; try simp at hc
          all_goals try (exfalso; omega; done)
          all_goals (
            refine AW.regN tiOk (fun _ => []) [2, 5] (fun _ h => h) ?_
            intro k hk; simp -dsimp [go_sem, -decide_eq_true_eq, -decide_eq_false_iff_not, hw]
            repeat' (first | refine And.intro ?_ ?_ | refine hk _ ?_ | intro hg | omega | exact True.intro)
            all_goals clear hk k
            refine AW.reg tiOk (fun _ => []) [4] ?_
            intro k hk; simp +contextual -dsimp (maxSteps := 2000000) [go_sem, -decide_eq_true_eq, -decide_eq_false_iff_not, hw]
            repeat' (first | refine And.intro ?_ ?_ | (refine Chk.keys ?_; simp only [go_sem, List.map_cons, List.map_nil, List.flatMap_cons, List.flatMap_nil, List.flatMap_append, List.append_nil, List.nil_append, List.cons_append]; decide +kernel) | refine hk _ ?_ | (intro hg; try simp only [decide_eq_true_eq, decide_eq_false_iff_not] at hg) | (refine CallK.intro (dc_impl_codeIf _ _) ?_; simp +contextual -dsimp (maxSteps := 2000000) [go_sem, -decide_eq_true_eq, -decide_eq_false_iff_not, hw]) | (refine CallK.intro (dc_impl_inRange _ _ _) ?_; simp +contextual -dsimp (maxSteps := 2000000) [go_sem, -decide_eq_true_eq, -decide_eq_false_iff_not, hw]) | (refine CallK.intro (dc_impl_firstCode [_, _] (by simp)) ?_; simp +contextual -dsimp (maxSteps := 2000000) [go_sem, -decide_eq_true_eq, -decide_eq_false_iff_not, hw]) | (refine CallK.intro (dc_impl_firstCode [_, _, _] (by simp)) ?_; simp +contextual -dsimp (maxSteps := 2000000) [go_sem, -decide_eq_true_eq, -decide_eq_false_iff_not, hw]) | (refine CallK.intro (dc_impl_firstCode [_, _, _, _] (by simp)) ?_; simp +contextual -dsimp (maxSteps := 2000000) [go_sem, -decide_eq_true_eq, -decide_eq_false_iff_not, hw]) | omega | exact True.intro)
            all_goals clear hk k
            all_goals (
              refine AW.retF (ow := []) (muts := []) ?_ (fun h => And.intro (.inr rfl) h)
              simp [go_sem, Try.results128, nodeF, firstC_cons, firstC_nil, inR, isTwoB] at * <;> grind))
        · intro hc; try simp at hc
          all_goals try (exfalso; omega; done)
          all_goals (
            refine AW.skipN (fun _ h => h) ?_
            refine AW.reg tiOk (fun _ => []) [4] ?_
            intro k hk; simp +contextual -dsimp (maxSteps := 2000000) [go_sem, -decide_eq_true_eq, -decide_eq_false_iff_not, hw]
            repeat' (first | refine And.intro ?_ ?_ | (refine Chk.keys ?_; simp only [go_sem, List.map_cons, List.map_nil, List.flatMap_cons, List.flatMap_nil, List.flatMap_append, List.append_nil, List.nil_append, List.cons_append]; decide +kernel) | refine hk _ ?_ | (intro hg; try simp only [decide_eq_true_eq, decide_eq_false_iff_not] at hg) | (refine CallK.intro (dc_impl_codeIf _ _) ?_; simp +contextual -dsimp (maxSteps := 2000000) [go_sem, -decide_eq_true_eq, -decide_eq_false_iff_not, hw]) | (refine CallK.intro (dc_impl_inRange _ _ _) ?_; simp +contextual -dsimp (maxSteps := 2000000) [go_sem, -decide_eq_true_eq, -decide_eq_false_iff_not, hw]) | (refine CallK.intro (dc_impl_firstCode [_, _] (by simp)) ?_; simp +contextual -dsimp (maxSteps := 2000000) [go_sem, -decide_eq_true_eq, -decide_eq_false_iff_not, hw]) | (refine CallK.intro (dc_impl_firstCode [_, _, _] (by simp)) ?_; simp +contextual -dsimp (maxSteps := 2000000) [go_sem, -decide_eq_true_eq, -decide_eq_false_iff_not, hw]) | (refine CallK.intro (dc_impl_firstCode [_, _, _, _] (by simp)) ?_; simp +contextual -dsimp (maxSteps := 2000000) [go_sem, -decide_eq_true_eq, -decide_eq_false_iff_not, hw]) | omega | exact True.intro)
            all_goals clear hk k
            all_goals (
              refine AW.retF (ow := []) (muts := []) ?_ (fun h => And.intro (.inr rfl) h)
              simp [go_sem, Try.results128, nodeF, firstC_cons, firstC_nil, inR, isTwoB] at * <;> grind)))
    · intro hc; try simp at hc
      all_goals try (exfalso; omega; done)
      all_goals (
        refine AW.reg tiOk (fun _ => []) [1, 2, 35] ?_
        intro k hk; simp -dsimp [go_sem, -decide_eq_true_eq, -decide_eq_false_iff_not, hw]
        repeat' (first | refine And.intro ?_ ?_ | refine hk _ ?_ | intro hg | omega | exact True.intro)
        all_goals clear hk k
        refine AW.cond rfl ?_ ?_
        · intro hc; try simp at hc
          all_goals try (exfalso; omega; done)
          all_goals (
            refine AW.reg tiOk (fun _ => []) [4] ?_
            intro k hk; simp +contextual -dsimp (maxSteps := 2000000) [go_sem, -decide_eq_true_eq, -decide_eq_false_iff_not, hw]
            repeat' (first | refine And.intro ?_ ?_ | (refine Chk.keys ?_; simp only [go_sem, List.map_cons, List.map_nil, List.flatMap_cons, List.flatMap_nil, List.flatMap_append, List.append_nil, List.nil_append, List.cons_append]; decide +kernel) | refine hk _ ?_ | (intro hg; try simp only [decide_eq_true_eq, decide_eq_false_iff_not] at hg) | (refine CallK.intro (dc_impl_codeIf _ _) ?_; simp +contextual -dsimp (maxSteps := 2000000) [go_sem, -decide_eq_true_eq, -decide_eq_false_iff_not, hw]) | (refine CallK.intro (dc_impl_inRange _ _ _) ?_; simp +contextual -dsimp (maxSteps := 2000000) [go_sem, -decide_eq_true_eq, -decide_eq_false_iff_not, hw]) | (refine CallK.intro (dc_impl_firstCode [_, _] (by simp)) ?_; simp +contextual -dsimp (maxSteps := 2000000) [go_sem, -decide_eq_true_eq, -decide_eq_false_iff_not, hw]) | (refine CallK.intro (dc_impl_firstCode [_, _, _] (by simp)) ?_; simp +contextual -dsimp (maxSteps := 2000000) [go_sem, -decide_eq_true_eq, -decide_eq_false_iff_not, hw]) | (refine CallK.intro (dc_impl_firstCode [_, _, _, _] (by simp)) ?_; simp +contextual -dsimp (maxSteps := 2000000) [go_sem, -decide_eq_true_eq, -decide_eq_false_iff_not, hw]) | omega | exact True.intro)
            all_goals clear hk k
            all_goals (
              refine AW.retF (ow := []) (muts := []) ?_ (fun h => And.intro (.inr rfl) h)
              simp [go_sem, Try.results128, nodeF, firstC_cons, firstC_nil, inR, isTwoB] at * <;> grind))
        · intro hc; try simp at hc
          all_goals try (exfalso; omega; done)
          all_goals (
            refine AW.reg tiOk (fun _ => []) [1, 2, 57] ?_
            intro k hk; simp -dsimp (maxSteps := 2000000) [go_sem, -decide_eq_true_eq, -decide_eq_false_iff_not, hw]
            repeat' (first | refine And.intro ?_ ?_ | refine hk _ ?_ | intro hg | (refine CallK.intro (dc_impl_isTwo _) ?_; simp -dsimp (maxSteps := 2000000) [go_sem, -decide_eq_true_eq, -decide_eq_false_iff_not, hw]) | omega | exact True.intro)
            all_goals clear hk k
            refine AW.cond rfl ?_ ?_
            · intro hc; try simp at hc
              all_goals try (exfalso; omega; done)
              all_goals (
                refine AW.reg tiOk (fun _ => []) [4] ?_
                intro k hk; simp +contextual -dsimp (maxSteps := 2000000) [go_sem, -decide_eq_true_eq, -decide_eq_false_iff_not, hw]
                repeat' (first | refine And.intro ?_ ?_ | (refine Chk.keys ?_; simp only [go_sem, List.map_cons, List.map_nil, List.flatMap_cons, List.flatMap_nil, List.flatMap_append, List.append_nil, List.nil_append, List.cons_append]; decide +kernel) | refine hk _ ?_ | (intro hg; try simp only [decide_eq_true_eq, decide_eq_false_iff_not] at hg) | (refine CallK.intro (dc_impl_codeIf _ _) ?_; simp +contextual -dsimp (maxSteps := 2000000) [go_sem, -decide_eq_true_eq, -decide_eq_false_iff_not, hw]) | (refine CallK.intro (dc_impl_inRange _ _ _) ?_; simp +contextual -dsimp (maxSteps := 2000000) [go_sem, -decide_eq_true_eq, -decide_eq_false_iff_not, hw]) | (refine CallK.intro (dc_impl_firstCode [_, _] (by simp)) ?_; simp +contextual -dsimp (maxSteps := 2000000) [go_sem, -decide_eq_true_eq, -decide_eq_false_iff_not, hw]) | (refine CallK.intro (dc_impl_firstCode [_, _, _] (by simp)) ?_; simp +contextual -dsimp (maxSteps := 2000000) [go_sem, -decide_eq_true_eq, -decide_eq_false_iff_not, hw]) | (refine CallK.intro (dc_impl_firstCode [_, _, _, _] (by simp)) ?_; simp +contextual -dsimp (maxSteps := 2000000) [go_sem, -decide_eq_true_eq, -decide_eq_false_iff_not, hw]) | omega | exact True.intro)
                all_goals clear hk k
                all_goals (
                  refine AW.retF (ow := []) (muts := []) ?_ (fun h => And.intro (.inr rfl) h)
                  simp [go_sem, Try.results128, nodeF, firstC_cons, firstC_nil, inR, isTwoB] at * <;> grind))
            · intro hc; try simp at hc
              all_goals try (exfalso; omega; done)
              all_goals (
                refine AW.skipN (fun _ h => h) ?_
                refine AW.reg tiOk (fun _ => []) [4] ?_
                intro k hk; simp -dsimp [go_sem, -decide_eq_true_eq, -decide_eq_false_iff_not, hw]
                repeat' (first | refine And.intro ?_ ?_ | refine hk _ ?_ | intro hg | omega | exact True.intro)
                all_goals clear hk k
                refine AW.retF (ow := []) (muts := []) ?_ (fun h => And.intro (.inr rfl) h)
                simp [go_sem, Try.results128, nodeF, firstC_cons, firstC_nil, inR, isTwoB] at * <;> grind))))

set_option maxHeartbeats 2000000 in
set_option linter.unusedSimpArgs false in
set_option maxRecDepth 100000 in
/-- spec.l3Node -/
theorem dc_spec_l3Node (n : TNode) (a : Int) (ha : 0 ≤ a ∧ a ≤ 1048576) : DC Try.prog 132 [.ip n.ro, .int .i64 a] (.int .i64 (nodeF n a)) [] := by
  have hw : IntKind.wrap .i64 (a - 1) = a - 1 := wrap64 (by omega) (by omega)
  refine DC.intro tiOk Try.func132 rfl rfl rfl rfl rfl rfl rfl rfl [] ?_
  refine AW.reg tiOk (fun _ => []) [0, 1] ?_
  intro k hk; simp -dsimp [go_sem, -decide_eq_true_eq, -decide_eq_false_iff_not, hw]
  repeat' (first | refine And.intro ?_ ?_ | refine hk _ ?_ | intro hg | omega | exact True.intro)
  all_goals clear hk k
  refine AW.seq ?_
  refine AW.reg tiOk (fun _ => []) [0, 1, 11] ?_
  intro k hk; simp -dsimp (maxSteps := 2000000) [go_sem, -decide_eq_true_eq, -decide_eq_false_iff_not, hw]
  repeat' (first | refine And.intro ?_ ?_ | refine hk _ ?_ | intro hg | (refine CallK.intro (dc_spec_l1In _ _ _) ?_; simp -dsimp (maxSteps := 2000000) [go_sem, -decide_eq_true_eq, -decide_eq_false_iff_not, hw]) | omega | exact True.intro)
  all_goals clear hk k
  refine AW.cond rfl ?_ ?_
  · intro hc; try simp at hc
    all_goals try (exfalso; omega; done)
    all_goals (
      refine AW.reg tiOk (fun _ => []) [4] ?_
      intro k hk; simp -dsimp [go_sem, -decide_eq_true_eq, -decide_eq_false_iff_not, hw]
      repeat' (first | refine And.intro ?_ ?_ | refine hk _ ?_ | intro hg | omega | exact True.intro)
      all_goals clear hk k
      refine AW.retF (ow := []) (muts := []) ?_ (fun h => And.intro (.inr rfl) h)
      simp [go_sem, Try.results132, nodeF, firstC_cons, firstC_nil, inR, isTwoB] at * <;> grind)
  · intro hc; try simp at hc
    all_goals try (exfalso; omega; done)
    all_goals (
      refine AW.skipN (fun _ h => h) ?_
      refine AW.reg tiOk (fun _ => []) [0, 1, 5] ?_
      intro k hk; simp -dsimp [go_sem, -decide_eq_true_eq, -decide_eq_false_iff_not, hw]
      repeat' (first | refine And.intro ?_ ?_ | refine hk _ ?_ | intro hg | omega | exact True.intro)
      all_goals clear hk k
      refine AW.seq ?_
      refine AW.cut ⟨114, [(0, .ip n.ro), (1, .int .i64 a), (5, .bool (decide (n.kind ≤ 2))), (56, .bool (decide ((n.kind ≤ 2 ∧ (n.left ≠ 0 ∨ n.right ≠ 0)) ∨ (2 < n.kind ∧ n.val ≠ 0) ∨ (n.kind = 10 ∧ n.right ≠ 0))))], []⟩ ?_ ?_
      · skip
        refine AW.regK tiOk (fun _ => []) ?_
        intro k hk; simp +contextual -dsimp (maxSteps := 2000000) [go_sem, -decide_eq_true_eq, -decide_eq_false_iff_not, hw]
        repeat' (first | refine And.intro ?_ ?_ | refine hk _ ?_ | (intro hg; try simp only [decide_eq_true_eq, decide_eq_false_iff_not] at hg) | omega | exact True.intro)
        all_goals clear hk k
        all_goals (show St.Less _ _; exact Less.of rfl (by simp [go_sem] <;> first | omega | grind) (by simp [go_sem]))
      · skip
        refine AW.cond rfl ?_ ?_
        · intro hc; try simp at hc
          all_goals try (exfalso; omega; done)
          all_goals (
            refine AW.reg tiOk (fun _ => []) [4] ?_
            intro k hk; simp -dsimp [go_sem, -decide_eq_true_eq, -decide_eq_false_iff_not, hw]
            repeat' (first | refine And.intro ?_ ?_ | refine hk _ ?_ | intro hg | omega | exact True.intro)
            all_goals clear hk k
            refine AW.retF (ow := []) (muts := []) ?_ (fun h => And.intro (.inr rfl) h)
            simp [go_sem, Try.results132, nodeF, firstC_cons, firstC_nil, inR, isTwoB] at * <;> grind)
        · intro hc; try simp at hc
          all_goals try (exfalso; omega; done)
          all_goals (
            refine AW.skipN (fun _ h => h) ?_
            refine AW.seq ?_
            refine AW.cut ⟨114, [(0, .ip n.ro), (1, .int .i64 a), (5, .bool (decide (n.kind ≤ 2))), (84, .bool (decide ((n.kind = 1 ∧ (n.val < 0 ∨ 9999 < n.val)) ∨ (n.kind = 2 ∧ (n.val < 0 ∨ 3 < n.val)))))], []⟩ ?_ ?_
            · skip
              refine AW.regK tiOk (fun _ => []) ?_
              intro k hk; simp +contextual -dsimp (maxSteps := 2000000) [go_sem, -decide_eq_true_eq, -decide_eq_false_iff_not, hw]
              repeat' (first | refine And.intro ?_ ?_ | refine hk _ ?_ | (intro hg; try simp only [decide_eq_true_eq, decide_eq_false_iff_not] at hg) | (refine CallK.intro (dc_spec_l1In _ _ _) ?_; simp +contextual -dsimp (maxSteps := 2000000) [go_sem, -decide_eq_true_eq, -decide_eq_false_iff_not, hw]) | omega | exact True.intro)
              all_goals clear hk k
              all_goals (show St.Less _ _; exact Less.of rfl (by simp [go_sem, inR] <;> first | omega | grind [inR]) (by simp [go_sem]))
            · skip
              refine AW.cond rfl ?_ ?_
              · intro hc; try simp at hc
                all_goals try (exfalso; omega; done)
                all_goals (
                  refine AW.reg tiOk (fun _ => []) [4] ?_
                  intro k hk; simp -dsimp [go_sem, -decide_eq_true_eq, -decide_eq_false_iff_not, hw]
                  repeat' (first | refine And.intro ?_ ?_ | refine hk _ ?_ | intro hg | omega | exact True.intro)
                  all_goals clear hk k
                  refine AW.retF (ow := []) (muts := []) ?_ (fun h => And.intro (.inr rfl) h)
                  simp [go_sem, Try.results132, nodeF, firstC_cons, firstC_nil, inR, isTwoB] at * <;> grind)
              · intro hc; try simp at hc
                all_goals try (exfalso; omega; done)
                all_goals (
                  refine AW.skipN (fun _ h => h) ?_
                  refine AW.seq ?_
                  refine AW.reg tiOk (fun _ => []) [113] ?_
                  intro k hk; simp +contextual -dsimp (maxSteps := 2000000) [go_sem, -decide_eq_true_eq, -decide_eq_false_iff_not, hw]
                  repeat' (first | refine And.intro ?_ ?_ | refine hk _ ?_ | (intro hg; try simp only [decide_eq_true_eq, decide_eq_false_iff_not] at hg) | (refine CallK.intro (dc_spec_l1In _ _ _) ?_; simp +contextual -dsimp (maxSteps := 2000000) [go_sem, -decide_eq_true_eq, -decide_eq_false_iff_not, hw]) | (refine CallK.intro (dc_spec_l3Two _) ?_; simp +contextual -dsimp (maxSteps := 2000000) [go_sem, -decide_eq_true_eq, -decide_eq_false_iff_not, hw]) | omega | exact True.intro)
                  all_goals clear hk k
                  all_goals (
                    refine AW.cond rfl ?_ ?_
                    · intro hc; try simp at hc
                      all_goals try (exfalso; omega; done)
                      all_goals (
                        refine AW.reg tiOk (fun _ => []) [4] ?_
                        intro k hk; simp -dsimp [go_sem, -decide_eq_true_eq, -decide_eq_false_iff_not, hw]
                        repeat' (first | refine And.intro ?_ ?_ | refine hk _ ?_ | intro hg | omega | exact True.intro)
                        all_goals clear hk k
                        refine AW.retF (ow := []) (muts := []) ?_ (fun h => And.intro (.inr rfl) h)
                        simp [go_sem, Try.results132, nodeF, firstC_cons, firstC_nil, inR, isTwoB] at * <;> grind)
                    · intro hc; try simp at hc
                      all_goals try (exfalso; omega; done)
                      all_goals (
                        refine AW.skipN (fun _ h => h) ?_
                        refine AW.reg tiOk (fun _ => []) [4] ?_
                        intro k hk; simp -dsimp [go_sem, -decide_eq_true_eq, -decide_eq_false_iff_not, hw]
                        repeat' (first | refine And.intro ?_ ?_ | refine hk _ ?_ | intro hg | omega | exact True.intro)
                        all_goals clear hk k
                        refine AW.retF (ow := []) (muts := []) ?_ (fun h => And.intro (.inr rfl) h)
                        simp [go_sem, Try.results132, nodeF, firstC_cons, firstC_nil, inR, isTwoB] at * <;> grind)))))

end Go.AM

/-! ### F2 -/
set_option linter.unusedVariables false
set_option linter.unusedSimpArgs false
namespace Go.AM
open Go.Proofs

set_option maxHeartbeats 600000 in
set_option linter.unusedSimpArgs false in
set_option maxRecDepth 100000 in
/-- impl.ExprFault -/
theorem dc_impl_ExprFault (e : List TNode) (he : e.length ≤ 9223372036854775807) : DC Try.prog 107 [.isl 4 (e.map TNode.ro)] (.int .i64 (exprF e)) [] := by
  refine DC.intro tiOk Try.func107 rfl rfl rfl rfl rfl rfl rfl rfl [] ?_
  refine AW.reg tiOk (fun _ => []) [0] ?_
  intro k hk; simp -dsimp [go_sem, -decide_eq_true_eq, -decide_eq_false_iff_not]
  repeat' (first | refine And.intro ?_ ?_ | refine hk _ ?_ | intro hg | omega | exact True.intro)
  all_goals clear hk k
  refine AW.seq ?_
  refine AW.reg tiOk (fun _ => []) [0, 15] ?_
  intro k hk; simp -dsimp (maxSteps := 2000000) [go_sem, -decide_eq_true_eq, -decide_eq_false_iff_not]
  repeat' (first | refine And.intro ?_ ?_ | refine hk _ ?_ | intro hg | (refine CallK.intro (dc_impl_inRange _ _ _) ?_; simp -dsimp (maxSteps := 2000000) [go_sem, -decide_eq_true_eq, -decide_eq_false_iff_not]) | omega | exact True.intro)
  all_goals clear hk k
  refine AW.cond rfl ?_ ?_
  · intro hc; try simp at hc
    all_goals (
      refine AW.reg tiOk (fun _ => []) [2] ?_
      intro k hk; simp -dsimp [go_sem, -decide_eq_true_eq, -decide_eq_false_iff_not]
      repeat' (first | refine And.intro ?_ ?_ | refine hk _ ?_ | intro hg | omega | exact True.intro)
      all_goals clear hk k
      refine AW.retF (ow := []) (muts := []) ?_ (fun h => And.intro (.inr rfl) h)
      first | (rw [exprF_len (by simpa using hc)]; simp [go_sem, Try.results107]; done) | (rw [exprF_node hR hlt hall (by rw [hxn]; assumption), hxn]; simp [go_sem, Try.results107]; done) | (rw [exprF_end hR hN]; simp [go_sem, Try.results107] <;> grind))
  · intro hc; try simp at hc
    all_goals (
      refine AW.skipN (fun _ h => h) ?_
      refine AW.seq ?_
      have hR : inR e.length 1 16 = true := by simpa using hc
      have hlen := inR_iff.1 hR
      refine AW.reg tiOk (fun _ => []) [0, 16, 17, 18] ?_
      intro k hk; simp -dsimp [go_sem, -decide_eq_true_eq, -decide_eq_false_iff_not]
      repeat' (first | refine And.intro ?_ ?_ | refine hk _ ?_ | intro hg | omega | exact True.intro)
      all_goals clear hk k
      refine AW.block ?_
      -- live at the loop's head: [0, 16, 17, 18]
      refine AW.loopI (fun i : Nat => ⟨112, [(0, .isl 4 (e.map TNode.ro)), (16, .isl 4 (e.map TNode.ro)), (17, .int .i64 e.length), (18, .int .i64 i)], []⟩) (fun i => i ≤ e.length ∧ ∀ k, k < i → nodeAt e k = 0) (fun i => e.length - i) (0) (by simp) (Less.of rfl (by simp [go_sem]) (by simp [go_sem])) ?_
      rintro i ⟨hi, hall⟩
      refine AW.reg tiOk (fun _ => []) [0, 16, 17, 18, 19] ?_
      intro k hk; simp -dsimp [go_sem, -decide_eq_true_eq, -decide_eq_false_iff_not]
      repeat' (first | refine And.intro ?_ ?_ | refine hk _ ?_ | intro hg | omega | exact True.intro)
      all_goals clear hk k
      refine AW.seq ?_
      refine AW.cond rfl ?_ ?_
      · intro hc; try simp at hc
        all_goals (
          have hlt : i < e.length := by assumption
          obtain ⟨x, hx⟩ := at_some hlt
          have hxn := nodeAt_at hx
          refine AW.skipN (fun _ h => h) ?_
          refine AW.seq ?_
          refine AW.block ?_
          refine AW.reg tiOk (fun _ => []) [0, 3, 4, 16, 17, 18] ?_
          intro k hk; simp -dsimp [go_sem, -decide_eq_true_eq, -decide_eq_false_iff_not, hx]
          repeat' (first | refine And.intro ?_ ?_ | refine hk _ ?_ | intro hg | omega | exact True.intro)
          all_goals clear hk k
          refine AW.reg tiOk (fun _ => []) [0, 5, 16, 17, 18] ?_
          intro k hk; simp -dsimp (maxSteps := 2000000) [go_sem, -decide_eq_true_eq, -decide_eq_false_iff_not, hx]
          repeat' (first | refine And.intro ?_ ?_ | refine hk _ ?_ | intro hg | (refine CallK.intro (dc_impl_nodeFault x i (by omega)) ?_; simp -dsimp (maxSteps := 2000000) [go_sem, -decide_eq_true_eq, -decide_eq_false_iff_not, hx]) | omega | exact True.intro)
          all_goals clear hk k
          refine AW.reg tiOk (fun _ => []) [0, 5, 16, 17, 18, 27] ?_
          intro k hk; simp -dsimp [go_sem, -decide_eq_true_eq, -decide_eq_false_iff_not, hx]
          repeat' (first | refine And.intro ?_ ?_ | refine hk _ ?_ | intro hg | omega | exact True.intro)
          all_goals clear hk k
          refine AW.cond rfl ?_ ?_
          · intro hc; try simp at hc
            all_goals (
              refine AW.reg tiOk (fun _ => []) [2] ?_
              intro k hk; simp -dsimp [go_sem, -decide_eq_true_eq, -decide_eq_false_iff_not, hx]
              repeat' (first | refine And.intro ?_ ?_ | refine hk _ ?_ | intro hg | omega | exact True.intro)
              all_goals clear hk k
              refine AW.retF (ow := []) (muts := []) ?_ (fun h => And.intro (.inr rfl) h)
              first | (rw [exprF_len (by simpa using hc)]; simp [go_sem, Try.results107]; done) | (rw [exprF_node hR hlt hall (by rw [hxn]; assumption), hxn]; simp [go_sem, Try.results107]; done) | (rw [exprF_end hR hN]; simp [go_sem, Try.results107] <;> grind))
          · intro hc; try simp at hc
            all_goals (
              refine AW.skipN (fun _ h => h) ?_
              refine AW.regK tiOk (fun _ => []) ?_
              intro k hk; simp -dsimp [go_sem, -decide_eq_true_eq, -decide_eq_false_iff_not, hx]
              repeat' (first | refine And.intro ?_ ?_ | refine hk _ ?_ | intro hg | omega | exact True.intro)
              all_goals clear hk k
              show ∃ _, _
              have hw := wrapi hlt (by omega)
              refine ⟨i + 1, ⟨by omega, upto hall (by rw [hxn]; first | assumption | simpa using hc)⟩, by omega, Less.of rfl (by simp [go_sem, hw]) (by simp [go_sem])⟩))
      · intro hc; try simp at hc
        all_goals (
          refine AW.exitN (fun _ h => h) ?_
          have hN : ∀ k, k < e.length → nodeAt e k = 0 := fun k hk => hall k (by omega)
          have hP : PartsOk e e.length := hN
          refine AW.reg tiOk (fun _ => []) [0, 6, 7] ?_
          intro k hk; simp -dsimp [go_sem, -decide_eq_true_eq, -decide_eq_false_iff_not]
          repeat' (first | refine And.intro ?_ ?_ | refine hk _ ?_ | intro hg | omega | exact True.intro)
          all_goals clear hk k
          refine AW.seq ?_
          refine AW.reg tiOk (fun _ => []) [0, 6, 7, 31, 32, 33] ?_
          intro k hk; simp -dsimp [go_sem, -decide_eq_true_eq, -decide_eq_false_iff_not]
          repeat' (first | refine And.intro ?_ ?_ | refine hk _ ?_ | intro hg | omega | exact True.intro)
          all_goals clear hk k
          refine AW.block ?_
          -- live at the loop's head: [0, 6, 7, 31, 32, 33]
          refine AW.rename (nd := ?nd_1) 30 97 ?h1_1 ?h2_1 ?h4_1 ?kk_1
          (case h1_1 => exact rfl)
          (case h2_1 => simp [go_sem])
          (case h4_1 => simp [go_sem])
          refine AW.loopI (fun i : Nat => ⟨112, [(0, .isl 4 (e.map TNode.ro)), (6, .sl 97 1 0 i), (7, .bool (wrongU e i)), (31, .isl 4 (e.map TNode.ro)), (32, .int .i64 e.length), (33, .int .i64 i)], [(97, some ⟨1, (sizesL e i).map I1⟩)]⟩) (fun i => i ≤ e.length) (fun i => e.length - i) (0) (by simp) (Less.of rfl (by simp [go_sem, wrongU]) (by simp [go_sem, sizesL])) ?_
          rintro i hi
          refine AW.rename (nd := ?nd_2) 97 30 ?h1_2 ?h2_2 ?h4_2 ?kk_2
          (case h1_2 => exact rfl)
          (case h2_2 => simp [go_sem])
          (case h4_2 => simp [go_sem])
          refine AW.reg tiOk (fun _ => []) [0, 6, 7, 31, 32, 33, 34] ?_
          intro k hk; simp -dsimp [go_sem, -decide_eq_true_eq, -decide_eq_false_iff_not]
          repeat' (first | refine And.intro ?_ ?_ | refine hk _ ?_ | intro hg | omega | exact True.intro)
          all_goals clear hk k
          refine AW.seq ?_
          refine AW.cond rfl ?_ ?_
          · intro hc; try simp at hc
            all_goals (
              have hlt : i < e.length := by assumption
              obtain ⟨x, hx⟩ := at_some hlt
              have hxn := nodeAt_at hx
              have hpx := hN i hlt
              rw [hxn] at hpx
              have hq := nodeF_parts hpx
              have hsl := sizesL_len e i
              have htk : List.take i ((sizesL e i).map I1) = (sizesL e i).map I1 := List.take_of_length_le (by simp [hsl])
              have hszA := szA_at hx hpx
              have hwrA := wrongU_at hx
              have hsbi := sz_bd hP hlt (by omega)
              have hwi : IntKind.wrap .i64 ((i : Int) - 1) = (i : Int) - 1 := wrap64 (by omega) (by omega)
              refine AW.skipN (fun _ h => h) ?_
              refine AW.seq ?_
              refine AW.block ?_
              refine AW.reg tiOk (fun _ => []) [0, 6, 7, 8, 9, 31, 32, 33] ?_
              intro k hk; simp -dsimp [go_sem, -decide_eq_true_eq, -decide_eq_false_iff_not, hx, hwi, hsl]
              repeat' (first | refine And.intro ?_ ?_ | refine hk _ ?_ | intro hg | omega | exact True.intro)
              all_goals clear hk k
              refine AW.reg tiOk (fun _ => []) [0, 6, 7, 9, 10, 11, 31, 32, 33] ?_
              intro k hk; simp -dsimp [go_sem, -decide_eq_true_eq, -decide_eq_false_iff_not, hx, hwi, hsl]
              repeat' (first | refine And.intro ?_ ?_ | refine hk _ ?_ | intro hg | omega | exact True.intro)
              all_goals clear hk k
              refine AW.seq ?_
              refine AW.block ?_
              refine AW.reg tiOk (fun _ => []) [0, 6, 7, 9, 10, 11, 31, 32, 33, 40] ?_
              intro k hk; simp -dsimp [go_sem, -decide_eq_true_eq, -decide_eq_false_iff_not, hx, hwi, hsl]
              repeat' (first | refine And.intro ?_ ?_ | refine hk _ ?_ | intro hg | omega | exact True.intro)
              all_goals clear hk k
              refine AW.cond rfl ?_ ?_
              · intro hc; try simp at hc
                all_goals (
                  have hk : x.kind = 10 := by simpa using hc
                  have hl := hq.1 hk
                  have hsA := sizesL_at (e := e) hl.2
                  have hsb := sz_bd hP (i := x.left.toNat) (by omega) (by omega)
                  have hw1 : IntKind.wrap .i64 (1 + szA e x.left.toNat) = 1 + szA e x.left.toNat := wrap64 (by omega) (by omega)
                  refine AW.reg tiOk (fun _ => []) [0, 6, 7, 9, 11, 31, 32, 33] ?_
                  intro k hk; simp +contextual -dsimp (maxSteps := 2000000) [go_sem, -decide_eq_true_eq, -decide_eq_false_iff_not, hx, hwi, hsl, hsA]
                  repeat' (first | refine And.intro ?_ ?_ | refine hk _ ?_ | (intro hg; try simp only [decide_eq_true_eq, decide_eq_false_iff_not] at hg) | omega | exact True.intro)
                  all_goals clear hk k
                  all_goals (
                    refine AW.regN tiOk (fun _ => []) [0, 6, 7, 11, 31, 32, 33] (fun _ h => h) ?_
                    intro k hk; simp -dsimp (maxSteps := 2000000) [go_sem, -decide_eq_true_eq, -decide_eq_false_iff_not, hx, hwi, hsl, hsA, hw1]
                    repeat' (first | refine And.intro ?_ ?_ | refine hk _ ?_ | intro hg | omega | exact True.intro)
                    all_goals clear hk k
                    refine AW.regN tiOk (fun _ => []) [0, 6, 7, 31, 32, 33] (fun _ h => h) ?_
                    intro k hk; simp -dsimp [go_sem, -decide_eq_true_eq, -decide_eq_false_iff_not, hx, hwi, hsl]
                    repeat' (first | refine And.intro ?_ ?_ | refine hk _ ?_ | intro hg | omega | exact True.intro)
                    all_goals clear hk k
                    refine AW.regK tiOk (fun _ => []) ?_
                    intro k hk; simp -dsimp [go_sem, -decide_eq_true_eq, -decide_eq_false_iff_not, hx, hwi, hsl]
                    repeat' (first | refine And.intro ?_ ?_ | refine hk _ ?_ | intro hg | omega | exact True.intro)
                    all_goals clear hk k
                    show ∃ _, _
                    have hw := wrapi hlt (by omega)
                    refine ⟨i + 1, by omega, by omega, Less.of rfl (by simp [go_sem, hw, hwrA, *]) (by simp [go_sem, sizesL_succ, hszA, *])⟩))
              · intro hc; try simp at hc
                all_goals (
                  refine AW.reg tiOk (fun _ => []) [0, 6, 7, 9, 10, 11, 31, 32, 33, 58] ?_
                  intro k hk; simp -dsimp (maxSteps := 2000000) [go_sem, -decide_eq_true_eq, -decide_eq_false_iff_not, hx, hwi, hsl]
                  repeat' (first | refine And.intro ?_ ?_ | refine hk _ ?_ | intro hg | (refine CallK.intro (dc_impl_isTwo _) ?_; simp -dsimp (maxSteps := 2000000) [go_sem, -decide_eq_true_eq, -decide_eq_false_iff_not, hx, hwi, hsl]) | omega | exact True.intro)
                  all_goals clear hk k
                  refine AW.cond rfl ?_ ?_
                  · intro hc; try simp at hc
                    all_goals (
                      have hk : isTwoB x.kind = true := by simpa using hc
                      have hl := hq.2.1 hk
                      have hsA := sizesL_at (e := e) hl.2.1
                      have hsB := sizesL_at (e := e) hl.2.2.2
                      have hsb := sz_bd hP (i := x.left.toNat) (by omega) (by omega)
                      have hsb2 := sz_bd hP (i := x.right.toNat) (by omega) (by omega)
                      have hw1 : IntKind.wrap .i64 (szA e x.left.toNat + szA e x.right.toNat) = szA e x.left.toNat + szA e x.right.toNat := wrap64 (by omega) (by omega)
                      have hw2 : IntKind.wrap .i64 (1 + (szA e x.left.toNat + szA e x.right.toNat)) = 1 + (szA e x.left.toNat + szA e x.right.toNat) := wrap64 (by omega) (by omega)
                      have hw3 : IntKind.wrap .i64 ((i : Int) - 1 - szA e x.right.toNat) = (i : Int) - 1 - szA e x.right.toNat := wrap64 (by omega) (by omega)
                      refine AW.reg tiOk (fun _ => []) [0, 6, 7, 9, 11, 31, 32, 33] ?_
                      intro k hk; simp +contextual -dsimp (maxSteps := 2000000) [go_sem, -decide_eq_true_eq, -decide_eq_false_iff_not, hx, hwi, hsl, hsA, hsB, hw3]
                      repeat' (first | refine And.intro ?_ ?_ | (refine Chk.keys ?_; simp only [go_sem, List.map_cons, List.map_nil, List.flatMap_cons, List.flatMap_nil, List.flatMap_append, List.append_nil, List.nil_append, List.cons_append]; decide +kernel) | refine hk _ ?_ | (intro hg; try simp only [decide_eq_true_eq, decide_eq_false_iff_not] at hg) | omega | exact True.intro)
                      all_goals clear hk k
                      all_goals (
                        refine AW.regN tiOk (fun _ => []) [0, 6, 7, 11, 31, 32, 33] (fun _ h => h) ?_
                        intro k hk; simp -dsimp (maxSteps := 2000000) [go_sem, -decide_eq_true_eq, -decide_eq_false_iff_not, hx, hwi, hsl, hsA, hsB, hw1, hw2]
                        repeat' (first | refine And.intro ?_ ?_ | (refine Chk.keys ?_; simp only [go_sem, List.map_cons, List.map_nil, List.flatMap_cons, List.flatMap_nil, List.flatMap_append, List.append_nil, List.nil_append, List.cons_append]; decide +kernel) | refine hk _ ?_ | intro hg | omega | exact True.intro)
                        all_goals clear hk k
                        refine AW.regN tiOk (fun _ => []) [0, 6, 7, 31, 32, 33] (fun _ h => h) ?_
                        intro k hk; simp -dsimp [go_sem, -decide_eq_true_eq, -decide_eq_false_iff_not, hx, hwi, hsl]
                        repeat' (first | refine And.intro ?_ ?_ | refine hk _ ?_ | intro hg | omega | exact True.intro)
                        all_goals clear hk k
                        refine AW.regK tiOk (fun _ => []) ?_
                        intro k hk; simp -dsimp [go_sem, -decide_eq_true_eq, -decide_eq_false_iff_not, hx, hwi, hsl]
                        repeat' (first | refine And.intro ?_ ?_ | refine hk _ ?_ | intro hg | omega | exact True.intro)
                        all_goals clear hk k
                        show ∃ _, _
                        have hw := wrapi hlt (by omega)
                        refine ⟨i + 1, by omega, by omega, Less.of rfl (by simp [go_sem, hw, hwrA, *]) (by simp [go_sem, sizesL_succ, hszA, *])⟩))
                  · intro hc; try simp at hc
                    all_goals (
                      refine AW.skipN (fun _ h => h) ?_
                      refine AW.regN tiOk (fun _ => []) [0, 6, 7, 31, 32, 33] (fun _ h => h) ?_
                      intro k hk; simp -dsimp [go_sem, -decide_eq_true_eq, -decide_eq_false_iff_not, hx, hwi, hsl]
                      repeat' (first | refine And.intro ?_ ?_ | refine hk _ ?_ | intro hg | omega | exact True.intro)
                      all_goals clear hk k
                      refine AW.regK tiOk (fun _ => []) ?_
                      intro k hk; simp -dsimp [go_sem, -decide_eq_true_eq, -decide_eq_false_iff_not, hx, hwi, hsl]
                      repeat' (first | refine And.intro ?_ ?_ | refine hk _ ?_ | intro hg | omega | exact True.intro)
                      all_goals clear hk k
                      show ∃ _, _
                      have hw := wrapi hlt (by omega)
                      refine ⟨i + 1, by omega, by omega, Less.of rfl (by simp [go_sem, hw, hwrA, *]) (by simp [go_sem, sizesL_succ, hszA, *])⟩)))
          · intro hc; try simp at hc
            all_goals (
              refine AW.exitN (fun _ h => h) ?_
              have hie : i = e.length := by omega
              subst hie
              have hsl := sizesL_len e e.length
              have hlast := sizesL_at (e := e) (show e.length - 1 < e.length by omega)
              have hwl : IntKind.wrap .i64 ((e.length : Int) - 1) = (e.length : Int) - 1 := wrap64 (by omega) (by omega)
              have hwt : ((e.length : Int) - 1).toNat = e.length - 1 := by omega
              refine AW.reg tiOk (fun _ => []) [2] ?_
              intro k hk; simp +contextual -dsimp (maxSteps := 2000000) [go_sem, -decide_eq_true_eq, -decide_eq_false_iff_not, hwl, hwt, hlast, hsl]
              repeat' (first | refine And.intro ?_ ?_ | refine hk _ ?_ | (intro hg; try simp only [decide_eq_true_eq, decide_eq_false_iff_not] at hg) | (refine CallK.intro (dc_impl_codeIf _ _) ?_; simp +contextual -dsimp (maxSteps := 2000000) [go_sem, -decide_eq_true_eq, -decide_eq_false_iff_not, hwl, hwt, hlast, hsl]) | omega | exact True.intro)
              all_goals clear hk k
              all_goals (
                refine AW.retF (ow := []) (muts := []) ?_ (fun h => And.intro (.inr rfl) h)
                first | (rw [exprF_len (by simpa using hc)]; simp [go_sem, Try.results107]; done) | (rw [exprF_node hR hlt hall (by rw [hxn]; assumption), hxn]; simp [go_sem, Try.results107]; done) | (rw [exprF_end hR hN]; simp [go_sem, Try.results107] <;> grind)))))

end Go.AM

/-! ### F5 -/
set_option linter.unusedVariables false
set_option linter.unusedSimpArgs false
namespace Go.AM
open Go.Proofs

set_option maxHeartbeats 600000 in
set_option linter.unusedSimpArgs false in
set_option maxRecDepth 100000 in
/-- impl.partType -/
theorem dc_impl_partType (k : Int) : DC Try.prog 130 [.int .i64 k] (.tup [.int .i64 (partT k), .int .i64 (ownT k)]) [] := by
  refine DC.intro tiOk Try.func130 rfl rfl rfl rfl rfl rfl rfl rfl [] ?_
  refine AW.reg tiOk (fun _ => []) [0] ?_
  intro k hk; simp -dsimp [go_sem, -decide_eq_true_eq, -decide_eq_false_iff_not]
  repeat' (first | refine And.intro ?_ ?_ | refine hk _ ?_ | intro hg | omega | exact True.intro)
  all_goals clear hk k
  refine AW.seq ?_
  refine AW.block ?_
  refine AW.reg tiOk (fun _ => []) [0, 4] ?_
  intro k hk; simp -dsimp [go_sem, -decide_eq_true_eq, -decide_eq_false_iff_not]
  repeat' (first | refine And.intro ?_ ?_ | refine hk _ ?_ | intro hg | omega | exact True.intro)
  all_goals clear hk k
  refine AW.cond rfl ?_ ?_
  · intro hc; try simp at hc
    all_goals (
      refine AW.reg tiOk (fun _ => []) [2, 3] ?_
      intro k hk; simp -dsimp [go_sem, -decide_eq_true_eq, -decide_eq_false_iff_not]
      repeat' (first | refine And.intro ?_ ?_ | refine hk _ ?_ | intro hg | omega | exact True.intro)
      all_goals clear hk k
      refine AW.retF (ow := []) (muts := []) ?_ (fun h => And.intro (.inr rfl) h)
      simp [go_sem, Try.results130, partT, ownT] <;> grind)
  · intro hc; try simp at hc
    all_goals (
      refine AW.reg tiOk (fun _ => []) [7] ?_
      intro k hk; simp -dsimp [go_sem, -decide_eq_true_eq, -decide_eq_false_iff_not]
      repeat' (first | refine And.intro ?_ ?_ | refine hk _ ?_ | intro hg | omega | exact True.intro)
      all_goals clear hk k
      refine AW.cond rfl ?_ ?_
      · intro hc; try simp at hc
        all_goals (
          refine AW.reg tiOk (fun _ => []) [2, 3] ?_
          intro k hk; simp -dsimp [go_sem, -decide_eq_true_eq, -decide_eq_false_iff_not]
          repeat' (first | refine And.intro ?_ ?_ | refine hk _ ?_ | intro hg | omega | exact True.intro)
          all_goals clear hk k
          refine AW.retF (ow := []) (muts := []) ?_ (fun h => And.intro (.inr rfl) h)
          simp [go_sem, Try.results130, partT, ownT] <;> grind)
      · intro hc; try simp at hc
        all_goals (
          refine AW.skipN (fun _ h => h) ?_
          refine AW.reg tiOk (fun _ => []) [2, 3] ?_
          intro k hk; simp -dsimp [go_sem, -decide_eq_true_eq, -decide_eq_false_iff_not]
          repeat' (first | refine And.intro ?_ ?_ | refine hk _ ?_ | intro hg | omega | exact True.intro)
          all_goals clear hk k
          refine AW.retF (ow := []) (muts := []) ?_ (fun h => And.intro (.inr rfl) h)
          simp [go_sem, Try.results130, partT, ownT] <;> grind))

set_option maxHeartbeats 600000 in
set_option linter.unusedSimpArgs false in
set_option maxRecDepth 100000 in
/-- impl.TypeOf -/
theorem dc_impl_TypeOf (e : List TNode) (he : e.length ≤ 9223372036854775807) : DC Try.prog 111 [.isl 4 (e.map TNode.ro)] (.agg [.int .i64 (typC e), .int .i64 (typV e)]) [] := by
  refine DC.intro tiOk Try.func111 rfl rfl rfl rfl rfl rfl rfl rfl [] ?_
  refine AW.reg tiOk (fun _ => []) [0, 2] ?_
  intro k hk; simp -dsimp [go_sem, -decide_eq_true_eq, -decide_eq_false_iff_not]
  repeat' (first | refine And.intro ?_ ?_ | refine hk _ ?_ | intro hg | omega | exact True.intro | (have h9 := hr (by assumption); omega) | fail)
  all_goals clear hk k
  refine AW.seq ?_
  refine AW.reg tiOk (fun _ => []) [0, 2, 3] ?_
  intro k hk; simp -dsimp (maxSteps := 2000000) [go_sem, -decide_eq_true_eq, -decide_eq_false_iff_not]
  repeat' (first | refine And.intro ?_ ?_ | refine hk _ ?_ | intro hg | (refine CallK.intro (dc_impl_ExprFault e he) ?_; simp -dsimp (maxSteps := 2000000) [go_sem, -decide_eq_true_eq, -decide_eq_false_iff_not]) | omega | exact True.intro | (have h9 := hr (by assumption); omega) | fail)
  all_goals clear hk k
  refine AW.reg tiOk (fun _ => []) [0, 2, 3, 12] ?_
  intro k hk; simp -dsimp [go_sem, -decide_eq_true_eq, -decide_eq_false_iff_not]
  repeat' (first | refine And.intro ?_ ?_ | refine hk _ ?_ | intro hg | omega | exact True.intro | (have h9 := hr (by assumption); omega) | fail)
  all_goals clear hk k
  refine AW.cond rfl ?_ ?_
  · intro hc; try simp at hc
    all_goals (
      refine AW.reg tiOk (fun _ => []) [2] ?_
      intro k hk; simp -dsimp [go_sem, -decide_eq_true_eq, -decide_eq_false_iff_not]
      repeat' (first | refine And.intro ?_ ?_ | refine hk _ ?_ | intro hg | omega | exact True.intro | (have h9 := hr (by assumption); omega) | fail)
      all_goals clear hk k
      refine AW.retF (ow := []) (muts := []) ?_ (fun h => And.intro (.inr rfl) h)
      first | (obtain ⟨h8, h9⟩ := typC_f (show exprF e ≠ 0 by first | assumption | simpa using hc); simp [go_sem, Try.results111, h8, h9]; done) | (obtain ⟨h8, h9⟩ := typC_b h0 (typU_hit hlt (by first | assumption | simpa using hc)); simp [go_sem, Try.results111, h8, h9]; done) | (obtain ⟨h8, h9⟩ := typC_k h0 hu; simp [go_sem, Try.results111, h8, h9]))
  · intro hc; try simp at hc
    all_goals (
      refine AW.skipN (fun _ h => h) ?_
      have h0 : exprF e = 0 := by simpa using hc
      obtain ⟨hR, hP⟩ := exprF_zero h0
      have hlen := inR_iff.1 hR
      refine AW.reg tiOk (fun _ => []) [0, 2, 4] ?_
      intro k hk; simp -dsimp [go_sem, -decide_eq_true_eq, -decide_eq_false_iff_not]
      repeat' (first | refine And.intro ?_ ?_ | refine hk _ ?_ | intro hg | omega | exact True.intro | (have h9 := hr (by assumption); omega) | fail)
      all_goals clear hk k
      refine AW.seq ?_
      refine AW.reg tiOk (fun _ => []) [2, 4, 16, 17, 18] ?_
      intro k hk; simp -dsimp [go_sem, -decide_eq_true_eq, -decide_eq_false_iff_not]
      repeat' (first | refine And.intro ?_ ?_ | refine hk _ ?_ | intro hg | omega | exact True.intro | (have h9 := hr (by assumption); omega) | fail)
      all_goals clear hk k
      refine AW.block ?_
      -- live at the loop's head: [2, 4, 16, 17, 18]
      refine AW.rename (nd := ?nd_1) 15 58 ?h1_1 ?h2_1 ?h4_1 ?kk_1
      (case h1_1 => exact rfl)
      (case h2_1 => simp [go_sem])
      (case h4_1 => simp [go_sem])
      refine AW.loopI (fun i : Nat => ⟨67, [(2, .ptr 2 2 0 0), (4, .sl 58 1 0 i), (16, .isl 4 (e.map TNode.ro)), (17, .int .i64 e.length), (18, .int .i64 i)], [(2, some ⟨2, [[.int .i64 0, .int .i64 0]]⟩), (58, some ⟨1, (typesL e i).map I1⟩)]⟩) (fun i => i ≤ e.length ∧ typU e i = false) (fun i => e.length - i) (0) (by simp [typU]) (Less.of rfl (by simp [go_sem]) (by simp [go_sem, typesL])) ?_
      rintro i ⟨hi, hu⟩
      refine AW.rename (nd := ?nd_2) 58 15 ?h1_2 ?h2_2 ?h4_2 ?kk_2
      (case h1_2 => exact rfl)
      (case h2_2 => simp [go_sem])
      (case h4_2 => simp [go_sem])
      refine AW.reg tiOk (fun _ => []) [2, 4, 16, 17, 18, 19] ?_
      intro k hk; simp -dsimp [go_sem, -decide_eq_true_eq, -decide_eq_false_iff_not]
      repeat' (first | refine And.intro ?_ ?_ | refine hk _ ?_ | intro hg | omega | exact True.intro | (have h9 := hr (by assumption); omega) | fail)
      all_goals clear hk k
      refine AW.seq ?_
      refine AW.cond rfl ?_ ?_
      · intro hc; try simp at hc
        all_goals (
          have hlt : i < e.length := by assumption
          obtain ⟨x, hx⟩ := at_some hlt
          have hxA := nA_at hx
          have hpx := hP i hlt
          rw [nodeAt_at hx] at hpx
          have hq := nodeF_parts hpx
          have hl : 2 < x.kind → 0 ≤ x.left ∧ x.left.toNat < i := left_of hpx
          have hr := hq.2.1
          have htl := typesL_len e i
          have htk : List.take i ((typesL e i).map I1) = (typesL e i).map I1 := List.take_of_length_le (by simp [htl])
          have hsA : decide (2 < x.kind) = true → (typesL e i)[x.left.toNat]? = some (ownT (nA e x.left.toNat).kind) := fun h => typesL_at (hl (by simpa using h)).2
          have hsB : isTwoB x.kind = true → (typesL e i)[x.right.toNat]? = some (ownT (nA e x.right.toNat).kind) := fun h => typesL_at (hr h).2.2.2
          refine AW.skipN (fun _ h => h) ?_
          refine AW.seq ?_
          refine AW.block ?_
          refine AW.reg tiOk (fun _ => []) [2, 4, 6, 16, 17, 18] ?_
          intro k hk; simp -dsimp [go_sem, -decide_eq_true_eq, -decide_eq_false_iff_not, hx, htl, hsA, hsB]
          repeat' (first | refine And.intro ?_ ?_ | refine hk _ ?_ | intro hg | omega | exact True.intro | (have h9 := hr (by assumption); omega) | fail)
          all_goals clear hk k
          refine AW.reg tiOk (fun _ => []) [2, 4, 6, 7, 8, 16, 17, 18] ?_
          intro k hk; simp -dsimp (maxSteps := 2000000) [go_sem, -decide_eq_true_eq, -decide_eq_false_iff_not, hx, htl, hsA, hsB]
          repeat' (first | refine And.intro ?_ ?_ | refine hk _ ?_ | intro hg | (refine CallK.intro (dc_impl_partType _) ?_; simp -dsimp (maxSteps := 2000000) [go_sem, -decide_eq_true_eq, -decide_eq_false_iff_not, hx, htl, hsA, hsB]) | omega | exact True.intro | (have h9 := hr (by assumption); omega) | fail)
          all_goals clear hk k
          refine AW.seq ?_
          refine AW.cut ⟨67, [(2, .ptr 2 2 0 0), (4, .sl 15 1 0 i), (8, .int .i64 (ownT x.kind)), (16, .isl 4 (e.map TNode.ro)), (17, .int .i64 e.length), (18, .int .i64 i), (53, .bool (typBad e i))], [(2, some ⟨2, [[.int .i64 0, .int .i64 0]]⟩), (15, some ⟨1, (typesL e i).map I1⟩)]⟩ ?_ ?_
          · skip
            refine AW.regK tiOk (fun _ => []) ?_
            intro k hk; simp +contextual -dsimp (maxSteps := 2000000) [go_sem, -decide_eq_true_eq, -decide_eq_false_iff_not, hx, htl, hsA, hsB]
            repeat' (first | refine And.intro ?_ ?_ | refine hk _ ?_ | (intro hg; try simp only [decide_eq_true_eq, decide_eq_false_iff_not] at hg) | (refine CallK.intro (dc_impl_isTwo _) ?_; simp +contextual -dsimp (maxSteps := 2000000) [go_sem, -decide_eq_true_eq, -decide_eq_false_iff_not, hx, htl, hsA, hsB]) | omega | exact True.intro | (have h9 := hr (by assumption); omega) | fail)
            all_goals clear hk k
            all_goals (show St.Less _ _; exact Less.of rfl (by simp [go_sem, typBad, hxA] <;> grind) (by simp [go_sem]))
          · skip
            refine AW.cond rfl ?_ ?_
            · intro hc; try simp at hc
              all_goals (
                refine AW.reg tiOk (fun _ => []) [2] ?_
                intro k hk; simp -dsimp [go_sem, -decide_eq_true_eq, -decide_eq_false_iff_not, hx, htl, hsA, hsB]
                repeat' (first | refine And.intro ?_ ?_ | refine hk _ ?_ | intro hg | omega | exact True.intro | (have h9 := hr (by assumption); omega) | fail)
                all_goals clear hk k
                refine AW.retF (ow := []) (muts := []) ?_ (fun h => And.intro (.inr rfl) h)
                first | (obtain ⟨h8, h9⟩ := typC_f (show exprF e ≠ 0 by first | assumption | simpa using hc); simp [go_sem, Try.results111, h8, h9]; done) | (obtain ⟨h8, h9⟩ := typC_b h0 (typU_hit hlt (by first | assumption | simpa using hc)); simp [go_sem, Try.results111, h8, h9]; done) | (obtain ⟨h8, h9⟩ := typC_k h0 hu; simp [go_sem, Try.results111, h8, h9]))
            · intro hc; try simp at hc
              all_goals (
                refine AW.skipN (fun _ h => h) ?_
                refine AW.regN tiOk (fun _ => []) [2, 4, 16, 17, 18] (fun _ h => h) ?_
                intro k hk; simp -dsimp [go_sem, -decide_eq_true_eq, -decide_eq_false_iff_not, hx, htl, hsA, hsB]
                repeat' (first | refine And.intro ?_ ?_ | refine hk _ ?_ | intro hg | omega | exact True.intro | (have h9 := hr (by assumption); omega) | fail)
                all_goals clear hk k
                refine AW.regK tiOk (fun _ => []) ?_
                intro k hk; simp -dsimp [go_sem, -decide_eq_true_eq, -decide_eq_false_iff_not, hx, htl, hsA, hsB]
                repeat' (first | refine And.intro ?_ ?_ | refine hk _ ?_ | intro hg | omega | exact True.intro | (have h9 := hr (by assumption); omega) | fail)
                all_goals clear hk k
                show ∃ _, _
                have hw := wrapi hlt (by omega)
                have hub : typBad e i = false := by simpa using hc
                refine ⟨i + 1, ⟨by omega, typU_go hu hub⟩, by omega, Less.of rfl (by simp [go_sem, hw]) (by simp [go_sem, typesL_succ, hxA, htk])⟩))
      · intro hc; try simp at hc
        all_goals (
          refine AW.exitN (fun _ h => h) ?_
          obtain rfl : i = e.length := by omega
          have htl := typesL_len e e.length
          have hlast := typesL_at (e := e) (show e.length - 1 < e.length by omega)
          have hwl : IntKind.wrap .i64 ((e.length : Int) - 1) = (e.length : Int) - 1 := wrap64 (by omega) (by omega)
          have hwt : ((e.length : Int) - 1).toNat = e.length - 1 := by omega
          refine AW.reg tiOk (fun _ => []) [2] ?_
          intro k hk; simp -dsimp (maxSteps := 2000000) [go_sem, -decide_eq_true_eq, -decide_eq_false_iff_not, htl, hlast, hwl, hwt]
          repeat' (first | refine And.intro ?_ ?_ | refine hk _ ?_ | intro hg | omega | exact True.intro | (have h9 := hr (by assumption); omega) | fail)
          all_goals clear hk k
          refine AW.retF (ow := []) (muts := []) ?_ (fun h => And.intro (.inr rfl) h)
          first | (obtain ⟨h8, h9⟩ := typC_f (show exprF e ≠ 0 by first | assumption | simpa using hc); simp [go_sem, Try.results111, h8, h9]; done) | (obtain ⟨h8, h9⟩ := typC_b h0 (typU_hit hlt (by first | assumption | simpa using hc)); simp [go_sem, Try.results111, h8, h9]; done) | (obtain ⟨h8, h9⟩ := typC_k h0 hu; simp [go_sem, Try.results111, h8, h9])))

end Go.AM

/-! ### F7 -/
set_option linter.unusedVariables false
set_option linter.unusedSimpArgs false
namespace Go.AM
open Go.Proofs

set_option maxHeartbeats 600000 in
set_option linter.unusedSimpArgs false in
set_option maxRecDepth 100000 in
/-- impl.typeFault -/
theorem dc_impl_typeFault (e : List TNode) (w : Int) (he : e.length ≤ 9223372036854775807) : DC Try.prog 82 [.isl 4 (e.map TNode.ro), .int .i64 w] (.int .i64 (typF e w)) [] := by
  refine DC.intro tiOk Try.func82 rfl rfl rfl rfl rfl rfl rfl rfl [] ?_
  refine AW.reg tiOk (fun _ => []) [0, 1] ?_
  intro k hk; simp -dsimp [go_sem, -decide_eq_true_eq, -decide_eq_false_iff_not]
  repeat' (first | refine And.intro ?_ ?_ | refine hk _ ?_ | intro hg | omega | exact True.intro)
  all_goals clear hk k
  refine AW.seq ?_
  refine AW.reg tiOk (fun _ => []) [0, 1, 8] ?_
  intro k hk; simp -dsimp [go_sem, -decide_eq_true_eq, -decide_eq_false_iff_not]
  repeat' (first | refine And.intro ?_ ?_ | refine hk _ ?_ | intro hg | omega | exact True.intro)
  all_goals clear hk k
  refine AW.cond rfl ?_ ?_
  · intro hc; try simp at hc
    all_goals (
      refine AW.reg tiOk (fun _ => []) [4] ?_
      intro k hk; simp -dsimp [go_sem, -decide_eq_true_eq, -decide_eq_false_iff_not]
      repeat' (first | refine And.intro ?_ ?_ | refine hk _ ?_ | intro hg | omega | exact True.intro)
      all_goals clear hk k
      refine AW.retF (ow := []) (muts := []) ?_ (fun h => And.intro (.inr rfl) h)
      simp [go_sem, Try.results82, typF, firstC_cons, firstC_nil] <;> grind)
  · intro hc; try simp at hc
    all_goals (
      refine AW.skipN (fun _ h => h) ?_
      refine AW.reg tiOk (fun _ => []) [1, 5] ?_
      intro k hk; simp -dsimp (maxSteps := 2000000) [go_sem, -decide_eq_true_eq, -decide_eq_false_iff_not]
      repeat' (first | refine And.intro ?_ ?_ | refine hk _ ?_ | intro hg | (refine CallK.intro (dc_impl_TypeOf e he) ?_; simp -dsimp (maxSteps := 2000000) [go_sem, -decide_eq_true_eq, -decide_eq_false_iff_not]) | omega | exact True.intro)
      all_goals clear hk k
      refine AW.reg tiOk (fun _ => []) [4] ?_
      intro k hk; simp -dsimp (maxSteps := 2000000) [go_sem, -decide_eq_true_eq, -decide_eq_false_iff_not]
      repeat' (first | refine And.intro ?_ ?_ | (refine Chk.keys ?_; simp only [go_sem, List.map_cons, List.map_nil, List.flatMap_cons, List.flatMap_nil, List.flatMap_append, List.append_nil, List.nil_append, List.cons_append]; decide +kernel) | refine hk _ ?_ | intro hg | (refine CallK.intro (dc_impl_codeIf _ _) ?_; simp -dsimp (maxSteps := 2000000) [go_sem, -decide_eq_true_eq, -decide_eq_false_iff_not]) | (refine CallK.intro (dc_impl_firstCode [_, _] (by simp)) ?_; simp -dsimp (maxSteps := 2000000) [go_sem, -decide_eq_true_eq, -decide_eq_false_iff_not]) | (refine CallK.intro (dc_impl_firstCode [_, _, _] (by simp)) ?_; simp -dsimp (maxSteps := 2000000) [go_sem, -decide_eq_true_eq, -decide_eq_false_iff_not]) | (refine CallK.intro (dc_impl_firstCode [_, _, _, _] (by simp)) ?_; simp -dsimp (maxSteps := 2000000) [go_sem, -decide_eq_true_eq, -decide_eq_false_iff_not]) | omega | exact True.intro)
      all_goals clear hk k
      refine AW.retF (ow := []) (muts := []) ?_ (fun h => And.intro (.inr rfl) h)
      simp [go_sem, Try.results82, typF, firstC_cons, firstC_nil] <;> grind)

set_option maxHeartbeats 600000 in
set_option linter.unusedSimpArgs false in
set_option maxRecDepth 100000 in
/-- impl.isSmall -/
theorem dc_impl_isSmall (c : UInt8) : DC Try.prog 127 [.int .u8 c.toNat] (.bool (isLow c)) [] := by
  refine DC.intro tiOk Try.func127 rfl rfl rfl rfl rfl rfl rfl rfl [] ?_
  refine AW.reg tiOk (fun _ => []) [0] ?_
  intro k hk; simp -dsimp [go_sem, -decide_eq_true_eq, -decide_eq_false_iff_not]
  repeat' (first | refine And.intro ?_ ?_ | refine hk _ ?_ | intro hg | omega | exact True.intro)
  all_goals clear hk k
  refine AW.reg tiOk (fun _ => []) [2] ?_
  intro k hk; simp +contextual -dsimp (maxSteps := 2000000) [go_sem, -decide_eq_true_eq, -decide_eq_false_iff_not]
  repeat' (first | refine And.intro ?_ ?_ | refine hk _ ?_ | (intro hg; try simp only [decide_eq_true_eq, decide_eq_false_iff_not] at hg) | omega | exact True.intro)
  all_goals clear hk k
  all_goals (
    refine AW.retF (ow := []) (muts := []) ?_ (fun h => And.intro (.inr rfl) h)
    simp [go_sem, *, Try.results127, isLow, -decide_eq_true_eq, -decide_eq_false_iff_not])

set_option maxHeartbeats 600000 in
set_option linter.unusedSimpArgs false in
set_option maxRecDepth 100000 in
/-- impl.NameFault -/
theorem dc_impl_NameFault (s : List UInt8) (hs : s.length ≤ 9223372036854775807) : DC Try.prog 106 [.str s] (.int .i64 (nameF s)) [] := by
  refine DC.intro tiOk Try.func106 rfl rfl rfl rfl rfl rfl rfl rfl [] ?_
  refine AW.reg tiOk (fun _ => []) [0] ?_
  intro k hk; simp -dsimp [go_sem, -decide_eq_true_eq, -decide_eq_false_iff_not]
  repeat' (first | refine And.intro ?_ ?_ | refine hk _ ?_ | intro hg | omega | exact True.intro)
  all_goals clear hk k
  refine AW.reg tiOk (fun _ => []) [2] ?_
  intro k hk; simp +contextual -dsimp (maxSteps := 2000000) [go_sem, -decide_eq_true_eq, -decide_eq_false_iff_not]
  repeat' (first | refine And.intro ?_ ?_ | refine hk _ ?_ | (intro hg; try simp only [decide_eq_true_eq, decide_eq_false_iff_not] at hg) | (refine CallK.intro (dc_impl_areAll 127 isLow dc_impl_isSmall s hs) ?_; simp +contextual -dsimp (maxSteps := 2000000) [go_sem, -decide_eq_true_eq, -decide_eq_false_iff_not]) | (refine CallK.intro (dc_impl_codeIf _ _) ?_; simp +contextual -dsimp (maxSteps := 2000000) [go_sem, -decide_eq_true_eq, -decide_eq_false_iff_not]) | (refine CallK.intro (dc_impl_firstCode [_, _] (by simp)) ?_; simp +contextual -dsimp (maxSteps := 2000000) [go_sem, -decide_eq_true_eq, -decide_eq_false_iff_not]) | (refine CallK.intro (dc_impl_firstCode [_, _, _] (by simp)) ?_; simp +contextual -dsimp (maxSteps := 2000000) [go_sem, -decide_eq_true_eq, -decide_eq_false_iff_not]) | (refine CallK.intro (dc_impl_firstCode [_, _, _, _] (by simp)) ?_; simp +contextual -dsimp (maxSteps := 2000000) [go_sem, -decide_eq_true_eq, -decide_eq_false_iff_not]) | omega | exact True.intro)
  all_goals clear hk k
  all_goals (
    refine AW.retF (ow := []) (muts := []) ?_ (fun h => And.intro (.inr rfl) h)
    simp [go_sem, Try.results106, nameF, firstC_cons, firstC_nil] at * <;> grind)

end Go.AM

/-! ### G4 -/
set_option linter.unusedVariables false
set_option linter.unusedSimpArgs false
namespace Go.AM
open Go.Proofs

set_option maxHeartbeats 600000 in
set_option linter.unusedSimpArgs false in
set_option maxRecDepth 100000 in
/-- impl.condFault -/
theorem dc_impl_condFault (p : List TStep) (ho : StepsOk p) (i : Nat) (hi : i < p.length) (hg : ∀ e ∈ p, e.gok) : DC Try.prog 81 [.isl 6 (p.map TStep.ro), .int .i64 (i : Nat)] (.int .i64 (shapeF p i)) [] := by
  have hlen := ho.len
  obtain ⟨x, hx⟩ := at_some hi
  have hxS := nS_at hx
  obtain ⟨g0, g1, g2⟩ := hg x (List.mem_of_getElem? hx)
  have hkm := kids_len p (i : Int)
  refine DC.intro tiOk Try.func81 rfl rfl rfl rfl rfl rfl rfl rfl [] ?_
  refine AW.reg tiOk (fun _ => []) [0, 1] ?_
  intro k hk; simp -dsimp [go_sem, -decide_eq_true_eq, -decide_eq_false_iff_not, hx]
  repeat' (first | refine And.intro ?_ ?_ | refine hk _ ?_ | intro hg | omega | exact True.intro)
  all_goals clear hk k
  refine AW.reg tiOk (fun _ => []) [0, 1, 5, 6] ?_
  intro k hk; simp -dsimp (maxSteps := 2000000) [go_sem, -decide_eq_true_eq, -decide_eq_false_iff_not, hx]
  repeat' (first | refine And.intro ?_ ?_ | refine hk _ ?_ | intro hg | (refine CallK.intro (dc_impl_kidBounds _) ?_; simp -dsimp (maxSteps := 2000000) [go_sem, -decide_eq_true_eq, -decide_eq_false_iff_not, hx]) | omega | exact True.intro)
  all_goals clear hk k
  refine AW.reg tiOk (fun _ => []) [0, 1, 5, 6, 7] ?_
  intro k hk; simp -dsimp (maxSteps := 2000000) [go_sem, -decide_eq_true_eq, -decide_eq_false_iff_not, hx]
  repeat' (first | refine And.intro ?_ ?_ | refine hk _ ?_ | intro hg | omega | exact True.intro)
  all_goals clear hk k
  refine AW.reg tiOk (fun _ => []) [0, 1, 7, 8] ?_
  intro k hk; simp -dsimp (maxSteps := 2000000) [go_sem, -decide_eq_true_eq, -decide_eq_false_iff_not, hx]
  repeat' (first | refine And.intro ?_ ?_ | refine hk _ ?_ | intro hg | (refine CallK.intro (dc_impl_kids p (i : Int) (by omega)) ?_; simp -dsimp (maxSteps := 2000000) [go_sem, -decide_eq_true_eq, -decide_eq_false_iff_not, hx]) | (refine CallK.intro (dc_impl_inRange _ _ _) ?_; simp -dsimp (maxSteps := 2000000) [go_sem, -decide_eq_true_eq, -decide_eq_false_iff_not, hx]) | (refine CallK.intro (dc_impl_codeIf _ _) ?_; simp -dsimp (maxSteps := 2000000) [go_sem, -decide_eq_true_eq, -decide_eq_false_iff_not, hx]) | (refine CallK.intro (dc_impl_wantsCond p ho i hi) ?_; simp -dsimp (maxSteps := 2000000) [go_sem, -decide_eq_true_eq, -decide_eq_false_iff_not, hx]) | (refine CallK.intro (dc_impl_firstCode [_, _] (by simp)) ?_; simp -dsimp (maxSteps := 2000000) [go_sem, -decide_eq_true_eq, -decide_eq_false_iff_not, hx]) | (refine CallK.intro (dc_impl_firstCode [_, _, _] (by simp)) ?_; simp -dsimp (maxSteps := 2000000) [go_sem, -decide_eq_true_eq, -decide_eq_false_iff_not, hx]) | (refine CallK.intro (dc_impl_firstCode [_, _, _, _] (by simp)) ?_; simp -dsimp (maxSteps := 2000000) [go_sem, -decide_eq_true_eq, -decide_eq_false_iff_not, hx]) | omega | exact True.intro)
  all_goals clear hk k
  refine AW.seq ?_
  refine AW.reg tiOk (fun _ => []) [0, 1, 8, 47] ?_
  intro k hk; simp +contextual -dsimp [go_sem, -decide_eq_true_eq, -decide_eq_false_iff_not, hx]
  repeat' (first | refine And.intro ?_ ?_ | refine hk _ ?_ | (intro hg; try simp only [decide_eq_true_eq, decide_eq_false_iff_not] at hg) | omega | exact True.intro)
  all_goals clear hk k
  all_goals (
    refine AW.cond rfl ?_ ?_
    · intro hc; try simp at hc
      all_goals (
        refine AW.reg tiOk (fun _ => []) [4] ?_
        intro k hk; simp -dsimp [go_sem, -decide_eq_true_eq, -decide_eq_false_iff_not, hx]
        repeat' (first | refine And.intro ?_ ?_ | refine hk _ ?_ | intro hg | omega | exact True.intro)
        all_goals clear hk k
        refine AW.retF (ow := []) (muts := []) ?_ (fun h => And.intro (.inr rfl) h)
        simp [go_sem, Try.results81, shapeF, hxS, firstC_cons, firstC_nil] at * <;> grind)
    · intro hc; try simp at hc
      all_goals (
        refine AW.skipN (fun _ h => h) ?_
        refine AW.reg tiOk (fun _ => []) [4] ?_
        intro k hk; simp -dsimp (maxSteps := 2000000) [go_sem, -decide_eq_true_eq, -decide_eq_false_iff_not, hx]
        repeat' (first | refine And.intro ?_ ?_ | refine hk _ ?_ | intro hg | (refine CallK.intro (dc_impl_ExprFault x.cond g1) ?_; simp -dsimp (maxSteps := 2000000) [go_sem, -decide_eq_true_eq, -decide_eq_false_iff_not, hx]) | omega | exact True.intro)
        all_goals clear hk k
        refine AW.retF (ow := []) (muts := []) ?_ (fun h => And.intro (.inr rfl) h)
        simp [go_sem, Try.results81, shapeF, hxS, firstC_cons, firstC_nil] at * <;> grind))

end Go.AM

/-! ### G5 -/
set_option linter.unusedVariables false
set_option linter.unusedSimpArgs false
namespace Go.AM
open Go.Proofs

set_option maxHeartbeats 600000 in
set_option linter.unusedSimpArgs false in
set_option maxRecDepth 100000 in
/-- impl.stepFault -/
theorem dc_impl_stepFault (s : TStep) (hg : s.gok) (l : List Int) (hl : ParOk l) (h24 : l.length ≤ 23) : DC Try.prog 80 [.agg s.ro, .op [nlc 1 (l.map I1), nlc 1 ((depsOf l).map I1)]] (.int .i64 (stepF l s)) [(1, .op [nlc 1 ((nxtL l s.par).map I1), nlc 1 ((nxtD l (depsOf l) s.par).map I1)])] := by
  obtain ⟨g0, g1, g2⟩ := hg
  have hdl := depsOf_len l
  refine DC.intro tiOk Try.func80 rfl rfl rfl rfl rfl rfl rfl (by simp [noW, noWo]) [] ?_
  refine AW.reg tiOk (fun _ => []) [1, 2] ?_
  intro k hk; simp -dsimp [go_sem, -decide_eq_true_eq, -decide_eq_false_iff_not]
  repeat' (first | refine And.intro ?_ ?_ | refine hk _ ?_ | intro hg | omega | exact True.intro)
  all_goals clear hk k
  refine AW.reg tiOk (fun _ => []) [1, 2, 5, 6] ?_
  intro k hk; simp -dsimp (maxSteps := 2000000) [go_sem, -decide_eq_true_eq, -decide_eq_false_iff_not]
  repeat' (first | refine And.intro ?_ ?_ | refine hk _ ?_ | intro hg | (refine CallK.intro (dc_impl_argBounds _) ?_; simp -dsimp (maxSteps := 2000000) [go_sem, -decide_eq_true_eq, -decide_eq_false_iff_not]) | omega | exact True.intro)
  all_goals clear hk k
  refine AW.cut ⟨96, [(1, .ptr 1901 2 0 0), (2, .ptr 2 6 0 0), (5, .int .i64 (lowA s.kind)), (6, .int .i64 (highA s.kind)), (7, .bool (alien s))], [(2, some ⟨6, [s.ro]⟩), (1901, some ⟨2, [[nlc 1 (l.map I1), nlc 1 ((depsOf l).map I1)]]⟩)]⟩ ?_ ?_
  · skip
    refine AW.regK tiOk (fun _ => []) ?_
    intro k hk; simp +contextual -dsimp (maxSteps := 2000000) [go_sem, -decide_eq_true_eq, -decide_eq_false_iff_not]
    repeat' (first | refine And.intro ?_ ?_ | refine hk _ ?_ | (intro hg; try simp only [decide_eq_true_eq, decide_eq_false_iff_not] at hg) | omega | exact True.intro)
    all_goals clear hk k
    all_goals (show St.Less _ _; exact Less.of rfl (by simp [go_sem, alien] at * <;> grind) (by simp [go_sem]))
  · skip
    refine AW.seq ?_
    refine AW.cut ⟨96, [(1, .ptr 1901 2 0 0), (2, .ptr 2 6 0 0), (5, .int .i64 (lowA s.kind)), (6, .int .i64 (highA s.kind)), (8, .int .i64 (if inR s.kind 1 8 = false ∨ alien s = true then 1 else parF l s.par))], [(2, some ⟨6, [s.ro]⟩), (1901, some ⟨2, [[nlc 1 ((nxtL l s.par).map I1), nlc 1 ((nxtD l (depsOf l) s.par).map I1)]]⟩)]⟩ ?_ ?_
    · skip
      refine AW.regK tiOk (fun i => if i = 11 then [0] else []) ?_
      intro k hk; simp +contextual -dsimp (maxSteps := 2000000) [go_sem, -decide_eq_true_eq, -decide_eq_false_iff_not]
      repeat' (first | refine And.intro ?_ ?_ | (refine Chk.keys ?_; simp only [go_sem, List.map_cons, List.map_nil, List.flatMap_cons, List.flatMap_nil, List.flatMap_append, List.append_nil, List.nil_append, List.cons_append]; decide +kernel) | refine hk _ ?_ | (intro hg; try simp only [decide_eq_true_eq, decide_eq_false_iff_not] at hg) | (refine CallK.intro (dc_impl_inRange _ _ _) ?_; simp +contextual -dsimp (maxSteps := 2000000) [go_sem, -decide_eq_true_eq, -decide_eq_false_iff_not]) | (refine CallK.intro (dc_impl_codeIf _ _) ?_; simp +contextual -dsimp (maxSteps := 2000000) [go_sem, -decide_eq_true_eq, -decide_eq_false_iff_not]) | (refine CallK.intro (dc_parents_next l (depsOf l) s.par hl rfl (by omega)) ?_; simp +contextual -dsimp (maxSteps := 2000000) [go_sem, -decide_eq_true_eq, -decide_eq_false_iff_not]) | (refine CallK.intro (dc_impl_firstCode [_, _] (by simp)) ?_; simp +contextual -dsimp (maxSteps := 2000000) [go_sem, -decide_eq_true_eq, -decide_eq_false_iff_not]) | (refine CallK.intro (dc_impl_firstCode [_, _, _] (by simp)) ?_; simp +contextual -dsimp (maxSteps := 2000000) [go_sem, -decide_eq_true_eq, -decide_eq_false_iff_not]) | (refine CallK.intro (dc_impl_firstCode [_, _, _, _] (by simp)) ?_; simp +contextual -dsimp (maxSteps := 2000000) [go_sem, -decide_eq_true_eq, -decide_eq_false_iff_not]) | omega | exact True.intro)
      all_goals clear hk k
      all_goals (show St.Less _ _; exact Less.of rfl (by simp [go_sem, firstC_cons, firstC_nil] at * <;> grind) (by simp [go_sem]))
    · skip
      refine AW.reg tiOk (fun _ => []) [1, 2, 5, 6, 8, 59] ?_
      intro k hk; simp -dsimp [go_sem, -decide_eq_true_eq, -decide_eq_false_iff_not]
      repeat' (first | refine And.intro ?_ ?_ | refine hk _ ?_ | intro hg | omega | exact True.intro)
      all_goals clear hk k
      refine AW.cond rfl ?_ ?_
      · intro hc; try simp at hc
        all_goals try (exfalso; omega; done)
        all_goals (
          refine AW.reg tiOk (fun _ => []) [1, 4] ?_
          intro k hk; simp -dsimp [go_sem, -decide_eq_true_eq, -decide_eq_false_iff_not]
          repeat' (first | refine And.intro ?_ ?_ | refine hk _ ?_ | intro hg | omega | exact True.intro)
          all_goals clear hk k
          refine AW.retF (ow := []) (muts := [(1, .op [nlc 1 ((nxtL l s.par).map I1), nlc 1 ((nxtD l (depsOf l) s.par).map I1)])]) ?_ (fun h => And.intro (.inr rfl) h)
          first | (rw [stepF_good hz1 hz2 hz3]; simp [go_sem, Try.results80, hnL, hnD, firstC_cons, firstC_nil]; (try grind [inR]); done) | (simp [go_sem, Try.results80]; have := @inR_iff s.kind 1 8; unfold stepF; grind))
      · intro hc; try simp at hc
        all_goals try (exfalso; omega; done)
        all_goals (
          refine AW.skipN (fun _ h => h) ?_
          refine AW.seq ?_
          have hz : inR s.kind 1 8 = true ∧ alien s = false ∧ parF l s.par = 0 := by grind
          obtain ⟨hz1, hz2, hz3⟩ := hz
          have hnL := nxtL_app hz3
          have hnD := nxtD_app hl hz3
          refine AW.reg tiOk (fun _ => []) [1, 2, 5, 6, 9] ?_
          intro k hk; simp -dsimp (maxSteps := 2000000) [go_sem, -decide_eq_true_eq, -decide_eq_false_iff_not, hnL, hnD]
          repeat' (first | refine And.intro ?_ ?_ | refine hk _ ?_ | intro hg | (refine CallK.intro (dc_impl_parents_last _ _ _ (by simp [hdl]; omega)) ?_; simp -dsimp (maxSteps := 2000000) [go_sem, -decide_eq_true_eq, -decide_eq_false_iff_not, hnL, hnD]) | (refine CallK.intro (dc_impl_codeIf _ _) ?_; simp -dsimp (maxSteps := 2000000) [go_sem, -decide_eq_true_eq, -decide_eq_false_iff_not, hnL, hnD]) | omega | exact True.intro)
          all_goals clear hk k
          refine AW.reg tiOk (fun _ => []) [1, 2, 5, 6, 9, 66] ?_
          intro k hk; simp -dsimp [go_sem, -decide_eq_true_eq, -decide_eq_false_iff_not]
          repeat' (first | refine And.intro ?_ ?_ | refine hk _ ?_ | intro hg | omega | exact True.intro)
          all_goals clear hk k
          refine AW.cond rfl ?_ ?_
          · intro hc; try simp at hc
            all_goals try (exfalso; omega; done)
            all_goals (
              refine AW.reg tiOk (fun _ => []) [1, 4] ?_
              intro k hk; simp -dsimp [go_sem, -decide_eq_true_eq, -decide_eq_false_iff_not]
              repeat' (first | refine And.intro ?_ ?_ | refine hk _ ?_ | intro hg | omega | exact True.intro)
              all_goals clear hk k
              refine AW.retF (ow := []) (muts := [(1, .op [nlc 1 ((nxtL l s.par).map I1), nlc 1 ((nxtD l (depsOf l) s.par).map I1)])]) ?_ (fun h => And.intro (.inr rfl) h)
              first | (rw [stepF_good hz1 hz2 hz3]; simp [go_sem, Try.results80, hnL, hnD, firstC_cons, firstC_nil]; (try grind [inR]); done) | (simp [go_sem, Try.results80]; have := @inR_iff s.kind 1 8; unfold stepF; grind))
          · intro hc; try simp at hc
            all_goals try (exfalso; omega; done)
            all_goals (
              refine AW.skipN (fun _ h => h) ?_
              refine AW.seq ?_
              refine AW.reg tiOk (fun _ => []) [1, 2, 5, 6, 69] ?_
              intro k hk; simp -dsimp [go_sem, -decide_eq_true_eq, -decide_eq_false_iff_not]
              repeat' (first | refine And.intro ?_ ?_ | refine hk _ ?_ | intro hg | omega | exact True.intro)
              all_goals clear hk k
              refine AW.block ?_
              refine AW.reg tiOk (fun _ => []) [1, 2, 5, 6, 69, 70] ?_
              intro k hk; simp -dsimp [go_sem, -decide_eq_true_eq, -decide_eq_false_iff_not]
              repeat' (first | refine And.intro ?_ ?_ | refine hk _ ?_ | intro hg | omega | exact True.intro)
              all_goals clear hk k
              refine AW.cond rfl ?_ ?_
              · intro hc; try simp at hc
                all_goals try (exfalso; omega; done)
                all_goals (
                  refine AW.reg tiOk (fun _ => []) [1, 4] ?_
                  intro k hk; simp -dsimp (maxSteps := 2000000) [go_sem, -decide_eq_true_eq, -decide_eq_false_iff_not]
                  repeat' (first | refine And.intro ?_ ?_ | refine hk _ ?_ | intro hg | (refine CallK.intro (dc_impl_NameFault s.name g0) ?_; simp -dsimp (maxSteps := 2000000) [go_sem, -decide_eq_true_eq, -decide_eq_false_iff_not]) | omega | exact True.intro)
                  all_goals clear hk k
                  refine AW.retF (ow := []) (muts := [(1, .op [nlc 1 ((nxtL l s.par).map I1), nlc 1 ((nxtD l (depsOf l) s.par).map I1)])]) ?_ (fun h => And.intro (.inr rfl) h)
                  first | (rw [stepF_good hz1 hz2 hz3]; simp [go_sem, Try.results80, hnL, hnD, firstC_cons, firstC_nil]; (try grind [inR]); done) | (simp [go_sem, Try.results80]; have := @inR_iff s.kind 1 8; unfold stepF; grind))
              · intro hc; try simp at hc
                all_goals try (exfalso; omega; done)
                all_goals (
                  refine AW.reg tiOk (fun _ => []) [1, 2, 5, 6, 75] ?_
                  intro k hk; simp -dsimp [go_sem, -decide_eq_true_eq, -decide_eq_false_iff_not]
                  repeat' (first | refine And.intro ?_ ?_ | refine hk _ ?_ | intro hg | omega | exact True.intro)
                  all_goals clear hk k
                  refine AW.cond rfl ?_ ?_
                  · intro hc; try simp at hc
                    all_goals try (exfalso; omega; done)
                    all_goals (
                      refine AW.reg tiOk (fun _ => []) [1, 4] ?_
                      intro k hk; simp -dsimp (maxSteps := 2000000) [go_sem, -decide_eq_true_eq, -decide_eq_false_iff_not]
                      repeat' (first | refine And.intro ?_ ?_ | (refine Chk.keys ?_; simp only [go_sem, List.map_cons, List.map_nil, List.flatMap_cons, List.flatMap_nil, List.flatMap_append, List.append_nil, List.nil_append, List.cons_append]; decide +kernel) | refine hk _ ?_ | intro hg | (refine CallK.intro (dc_impl_inRange _ _ _) ?_; simp -dsimp (maxSteps := 2000000) [go_sem, -decide_eq_true_eq, -decide_eq_false_iff_not]) | (refine CallK.intro (dc_impl_codeIf _ _) ?_; simp -dsimp (maxSteps := 2000000) [go_sem, -decide_eq_true_eq, -decide_eq_false_iff_not]) | (refine CallK.intro (dc_impl_ExprFault s.expr g2) ?_; simp -dsimp (maxSteps := 2000000) [go_sem, -decide_eq_true_eq, -decide_eq_false_iff_not]) | (refine CallK.intro (dc_impl_firstCode [_, _] (by simp)) ?_; simp -dsimp (maxSteps := 2000000) [go_sem, -decide_eq_true_eq, -decide_eq_false_iff_not]) | (refine CallK.intro (dc_impl_firstCode [_, _, _] (by simp)) ?_; simp -dsimp (maxSteps := 2000000) [go_sem, -decide_eq_true_eq, -decide_eq_false_iff_not]) | (refine CallK.intro (dc_impl_firstCode [_, _, _, _] (by simp)) ?_; simp -dsimp (maxSteps := 2000000) [go_sem, -decide_eq_true_eq, -decide_eq_false_iff_not]) | omega | exact True.intro)
                      all_goals clear hk k
                      refine AW.retF (ow := []) (muts := [(1, .op [nlc 1 ((nxtL l s.par).map I1), nlc 1 ((nxtD l (depsOf l) s.par).map I1)])]) ?_ (fun h => And.intro (.inr rfl) h)
                      first | (rw [stepF_good hz1 hz2 hz3]; simp [go_sem, Try.results80, hnL, hnD, firstC_cons, firstC_nil]; (try grind [inR]); done) | (simp [go_sem, Try.results80]; have := @inR_iff s.kind 1 8; unfold stepF; grind))
                  · intro hc; try simp at hc
                    all_goals try (exfalso; omega; done)
                    all_goals (
                      refine AW.skipN (fun _ h => h) ?_
                      refine AW.reg tiOk (fun _ => []) [1, 4] ?_
                      intro k hk; simp -dsimp (maxSteps := 2000000) [go_sem, -decide_eq_true_eq, -decide_eq_false_iff_not]
                      repeat' (first | refine And.intro ?_ ?_ | refine hk _ ?_ | intro hg | (refine CallK.intro (dc_impl_inRange _ _ _) ?_; simp -dsimp (maxSteps := 2000000) [go_sem, -decide_eq_true_eq, -decide_eq_false_iff_not]) | (refine CallK.intro (dc_impl_codeIf _ _) ?_; simp -dsimp (maxSteps := 2000000) [go_sem, -decide_eq_true_eq, -decide_eq_false_iff_not]) | omega | exact True.intro)
                      all_goals clear hk k
                      refine AW.retF (ow := []) (muts := [(1, .op [nlc 1 ((nxtL l s.par).map I1), nlc 1 ((nxtD l (depsOf l) s.par).map I1)])]) ?_ (fun h => And.intro (.inr rfl) h)
                      first | (rw [stepF_good hz1 hz2 hz3]; simp [go_sem, Try.results80, hnL, hnD, firstC_cons, firstC_nil]; (try grind [inR]); done) | (simp [go_sem, Try.results80]; have := @inR_iff s.kind 1 8; unfold stepF; grind)))))

end Go.AM

/-! ### G6 -/
set_option linter.unusedVariables false
set_option linter.unusedSimpArgs false
namespace Go.AM
open Go.Proofs

set_option maxHeartbeats 600000 in
set_option linter.unusedSimpArgs false in
set_option maxRecDepth 100000 in
/-- impl.ProcFault -/
theorem dc_impl_ProcFault (p : List TStep) (hp : p.length ≤ 9223372036854775807) (hg : ∀ e ∈ p, e.gok) : DC Try.prog 42 [.isl 6 (p.map TStep.ro)] (.int .i64 (procF p)) [] := by
  refine DC.intro tiOk Try.func42 rfl rfl rfl rfl rfl rfl rfl rfl [] ?_
  refine AW.reg tiOk (fun _ => []) [0] ?_
  intro k hk; simp -dsimp [go_sem, -decide_eq_true_eq, -decide_eq_false_iff_not]
  repeat' (first | refine And.intro ?_ ?_ | refine hk _ ?_ | intro hg | omega | exact True.intro)
  all_goals clear hk k
  refine AW.seq ?_
  refine AW.reg tiOk (fun _ => []) [0, 15] ?_
  intro k hk; simp -dsimp (maxSteps := 2000000) [go_sem, -decide_eq_true_eq, -decide_eq_false_iff_not]
  repeat' (first | refine And.intro ?_ ?_ | refine hk _ ?_ | intro hg | (refine CallK.intro (dc_impl_inRange _ _ _) ?_; simp -dsimp (maxSteps := 2000000) [go_sem, -decide_eq_true_eq, -decide_eq_false_iff_not]) | omega | exact True.intro)
  all_goals clear hk k
  refine AW.cond rfl ?_ ?_
  · intro hc; try simp at hc
    all_goals (
      refine AW.reg tiOk (fun _ => []) [2] ?_
      intro k hk; simp -dsimp [go_sem, -decide_eq_true_eq, -decide_eq_false_iff_not]
      repeat' (first | refine And.intro ?_ ?_ | refine hk _ ?_ | intro hg | omega | exact True.intro)
      all_goals clear hk k
      refine AW.retF (ow := []) (muts := []) ?_ (fun h => And.intro (.inr rfl) h)
      first | (rw [procF_len (by simpa using hc)]; simp [go_sem, Try.results42]; done) | (rw [procF_ok hR h1 h2 h3]; simp [go_sem, Try.results42]; done) | (rw [procF_ty hR h1 h2 hlt hal3 (by first | assumption | simpa using hc)]; simp [go_sem, Try.results42]; done) | (rw [procF_shape hR h1 hlt hal2 (by first | assumption | simpa using hc)]; simp [go_sem, Try.results42]; done) | (rw [procF_one hR hlt hall (by rw [hxo]; first | assumption | simpa using hc), hxo]; simp [go_sem, Try.results42]))
  · intro hc; try simp at hc
    all_goals (
      refine AW.skipN (fun _ h => h) ?_
      have hR : inR p.length 1 24 = true := by simpa using hc
      have hlen := inR_iff.1 hR
      have hts : depsOf [] = [] := rfl
      refine AW.reg tiOk (fun _ => []) [0, 3] ?_
      intro k hk; simp -dsimp [go_sem, -decide_eq_true_eq, -decide_eq_false_iff_not]
      repeat' (first | refine And.intro ?_ ?_ | refine hk _ ?_ | intro hg | omega | exact True.intro)
      all_goals clear hk k
      refine AW.seq ?_
      refine AW.reg tiOk (fun _ => []) [0, 3, 18, 19, 20] ?_
      intro k hk; simp -dsimp [go_sem, -decide_eq_true_eq, -decide_eq_false_iff_not]
      repeat' (first | refine And.intro ?_ ?_ | refine hk _ ?_ | intro hg | omega | exact True.intro)
      all_goals clear hk k
      refine AW.block ?_
      -- live at the loop's head: [0, 3, 18, 19, 20]
      refine AW.loopI (fun i : Nat => ⟨61, [(0, .isl 6 (p.map TStep.ro)), (3, .ptr 17 2 0 0), (18, .isl 6 (p.map TStep.ro)), (19, .int .i64 p.length), (20, .int .i64 i)], [(17, some ⟨2, [[nlc 1 ((parsT p i).map I1), nlc 1 ((depsOf (parsT p i)).map I1)]]⟩)]⟩) (fun i => i ≤ p.length ∧ ∀ k, k < i → oneF p k = 0) (fun i => p.length - i) (0) (by simp) (Less.of rfl (by simp [go_sem]) (by simp [go_sem, hts, parsT_zero])) ?_
      rintro i ⟨hi, hall⟩
      refine AW.reg tiOk (fun _ => []) [0, 3, 18, 19, 20, 21] ?_
      intro k hk; simp -dsimp [go_sem, -decide_eq_true_eq, -decide_eq_false_iff_not]
      repeat' (first | refine And.intro ?_ ?_ | refine hk _ ?_ | intro hg | omega | exact True.intro)
      all_goals clear hk k
      refine AW.seq ?_
      refine AW.cond rfl ?_ ?_
      · intro hc; try simp at hc
        all_goals (
          have hlt : i < p.length := by assumption
          obtain ⟨x, hx⟩ := at_some hlt
          have hxo := oneF_T hx
          refine AW.skipN (fun _ h => h) ?_
          refine AW.seq ?_
          refine AW.block ?_
          have hlo := ones_T (by omega) hall
          refine AW.reg tiOk (fun _ => []) [0, 3, 5, 18, 19, 20] ?_
          intro k hk; simp -dsimp [go_sem, -decide_eq_true_eq, -decide_eq_false_iff_not, hx]
          repeat' (first | refine And.intro ?_ ?_ | refine hk _ ?_ | intro hg | omega | exact True.intro)
          all_goals clear hk k
          refine AW.reg tiOk (fun _ => [1]) [0, 3, 6, 18, 19, 20] ?_
          intro k hk; simp -dsimp (maxSteps := 2000000) [go_sem, -decide_eq_true_eq, -decide_eq_false_iff_not, hx]
          repeat' (first | refine And.intro ?_ ?_ | refine hk _ ?_ | intro hg | (refine CallK.intro (dc_impl_stepFault x (hg x (List.mem_of_getElem? hx)) (parsT p i) hlo (by rw [parsT_len (by omega)]; omega)) ?_; simp -dsimp (maxSteps := 2000000) [go_sem, -decide_eq_true_eq, -decide_eq_false_iff_not, hx]) | omega | exact True.intro)
          all_goals clear hk k
          refine AW.reg tiOk (fun _ => []) [0, 3, 6, 18, 19, 20, 28] ?_
          intro k hk; simp -dsimp [go_sem, -decide_eq_true_eq, -decide_eq_false_iff_not, hx]
          repeat' (first | refine And.intro ?_ ?_ | refine hk _ ?_ | intro hg | omega | exact True.intro)
          all_goals clear hk k
          refine AW.cond rfl ?_ ?_
          · intro hc; try simp at hc
            all_goals (
              refine AW.reg tiOk (fun _ => []) [2] ?_
              intro k hk; simp -dsimp [go_sem, -decide_eq_true_eq, -decide_eq_false_iff_not, hx]
              repeat' (first | refine And.intro ?_ ?_ | refine hk _ ?_ | intro hg | omega | exact True.intro)
              all_goals clear hk k
              refine AW.retF (ow := []) (muts := []) ?_ (fun h => And.intro (.inr rfl) h)
              first | (rw [procF_len (by simpa using hc)]; simp [go_sem, Try.results42]; done) | (rw [procF_ok hR h1 h2 h3]; simp [go_sem, Try.results42]; done) | (rw [procF_ty hR h1 h2 hlt hal3 (by first | assumption | simpa using hc)]; simp [go_sem, Try.results42]; done) | (rw [procF_shape hR h1 hlt hal2 (by first | assumption | simpa using hc)]; simp [go_sem, Try.results42]; done) | (rw [procF_one hR hlt hall (by rw [hxo]; first | assumption | simpa using hc), hxo]; simp [go_sem, Try.results42]))
          · intro hc; try simp at hc
            all_goals (
              refine AW.skipN (fun _ h => h) ?_
              refine AW.regK tiOk (fun _ => []) ?_
              intro k hk; simp -dsimp [go_sem, -decide_eq_true_eq, -decide_eq_false_iff_not, hx]
              repeat' (first | refine And.intro ?_ ?_ | refine hk _ ?_ | intro hg | omega | exact True.intro)
              all_goals clear hk k
              show ∃ _, _
              have hw := wrapi hlt (by omega)
              have hz : stepF (parsT p i) x = 0 := by simpa using hc
              have hpz := stepF_par hz
              have htn := parsT_next hx
              refine ⟨i + 1, ⟨by omega, upto hall (by rw [hxo]; exact hz)⟩, by omega, Less.of rfl (by simp [go_sem, hw]) (by simp [go_sem, htn, nxtL_app hpz, nxtD_deps (ones_T (by omega) hall) hpz])⟩))
      · intro hc; try simp at hc
        all_goals (
          refine AW.exitN (fun _ h => h) ?_
          refine AW.seq ?_
          have h1 : ∀ k, k < p.length → oneF p k = 0 := fun k hk => hall k (by omega)
          have ho : StepsOk p := ⟨by omega, h1⟩
          refine AW.reg tiOk (fun _ => []) [0, 32, 33] ?_
          intro k hk; simp -dsimp [go_sem, -decide_eq_true_eq, -decide_eq_false_iff_not]
          repeat' (first | refine And.intro ?_ ?_ | refine hk _ ?_ | intro hg | omega | exact True.intro)
          all_goals clear hk k
          refine AW.block ?_
          -- live at the loop's head: [0, 32, 33]
          refine AW.loopI (fun i : Nat => ⟨61, [(0, .isl 6 (p.map TStep.ro)), (32, .int .i64 p.length), (33, .int .i64 i)], []⟩) (fun i => i ≤ p.length ∧ ∀ k, k < i → shapeF p k = 0) (fun i => p.length - i) (0) (by simp) (Less.of rfl (by simp [go_sem]) (by simp [go_sem])) ?_
          rintro i ⟨hi, hal2⟩
          refine AW.reg tiOk (fun _ => []) [0, 32, 33, 34] ?_
          intro k hk; simp -dsimp [go_sem, -decide_eq_true_eq, -decide_eq_false_iff_not]
          repeat' (first | refine And.intro ?_ ?_ | refine hk _ ?_ | intro hg | omega | exact True.intro)
          all_goals clear hk k
          refine AW.seq ?_
          refine AW.cond rfl ?_ ?_
          · intro hc; try simp at hc
            all_goals (
              have hlt : i < p.length := by assumption
              refine AW.skipN (fun _ h => h) ?_
              refine AW.seq ?_
              refine AW.block ?_
              refine AW.reg tiOk (fun _ => []) [0, 7, 32, 33] ?_
              intro k hk; simp -dsimp [go_sem, -decide_eq_true_eq, -decide_eq_false_iff_not]
              repeat' (first | refine And.intro ?_ ?_ | refine hk _ ?_ | intro hg | omega | exact True.intro)
              all_goals clear hk k
              refine AW.reg tiOk (fun _ => []) [0, 8, 32, 33] ?_
              intro k hk; simp -dsimp (maxSteps := 2000000) [go_sem, -decide_eq_true_eq, -decide_eq_false_iff_not]
              repeat' (first | refine And.intro ?_ ?_ | refine hk _ ?_ | intro hg | (refine CallK.intro (dc_impl_condFault p ho i hlt hg) ?_; simp -dsimp (maxSteps := 2000000) [go_sem, -decide_eq_true_eq, -decide_eq_false_iff_not]) | omega | exact True.intro)
              all_goals clear hk k
              refine AW.reg tiOk (fun _ => []) [0, 8, 32, 33, 40] ?_
              intro k hk; simp -dsimp [go_sem, -decide_eq_true_eq, -decide_eq_false_iff_not]
              repeat' (first | refine And.intro ?_ ?_ | refine hk _ ?_ | intro hg | omega | exact True.intro)
              all_goals clear hk k
              refine AW.cond rfl ?_ ?_
              · intro hc; try simp at hc
                all_goals (
                  refine AW.reg tiOk (fun _ => []) [2] ?_
                  intro k hk; simp -dsimp [go_sem, -decide_eq_true_eq, -decide_eq_false_iff_not]
                  repeat' (first | refine And.intro ?_ ?_ | refine hk _ ?_ | intro hg | omega | exact True.intro)
                  all_goals clear hk k
                  refine AW.retF (ow := []) (muts := []) ?_ (fun h => And.intro (.inr rfl) h)
                  first | (rw [procF_len (by simpa using hc)]; simp [go_sem, Try.results42]; done) | (rw [procF_ok hR h1 h2 h3]; simp [go_sem, Try.results42]; done) | (rw [procF_ty hR h1 h2 hlt hal3 (by first | assumption | simpa using hc)]; simp [go_sem, Try.results42]; done) | (rw [procF_shape hR h1 hlt hal2 (by first | assumption | simpa using hc)]; simp [go_sem, Try.results42]; done) | (rw [procF_one hR hlt hall (by rw [hxo]; first | assumption | simpa using hc), hxo]; simp [go_sem, Try.results42]))
              · intro hc; try simp at hc
                all_goals (
                  refine AW.skipN (fun _ h => h) ?_
                  refine AW.regK tiOk (fun _ => []) ?_
                  intro k hk; simp -dsimp [go_sem, -decide_eq_true_eq, -decide_eq_false_iff_not]
                  repeat' (first | refine And.intro ?_ ?_ | refine hk _ ?_ | intro hg | omega | exact True.intro)
                  all_goals clear hk k
                  show ∃ _, _
                  have hw := wrapi hlt (by omega)
                  refine ⟨i + 1, ⟨by omega, upto hal2 (by first | assumption | simpa using hc)⟩, by omega, Less.of rfl (by simp [go_sem, hw]) (by simp [go_sem])⟩))
          · intro hc; try simp at hc
            all_goals (
              refine AW.exitN (fun _ h => h) ?_
              refine AW.seq ?_
              have h2 : ∀ k, k < p.length → shapeF p k = 0 := fun k hk => hal2 k (by omega)
              refine AW.reg tiOk (fun _ => []) [43, 44, 45] ?_
              intro k hk; simp -dsimp [go_sem, -decide_eq_true_eq, -decide_eq_false_iff_not]
              repeat' (first | refine And.intro ?_ ?_ | refine hk _ ?_ | intro hg | omega | exact True.intro)
              all_goals clear hk k
              refine AW.block ?_
              -- live at the loop's head: [43, 44, 45]
              refine AW.loopI (fun i : Nat => ⟨61, [(43, .isl 6 (p.map TStep.ro)), (44, .int .i64 p.length), (45, .int .i64 i)], []⟩) (fun i => i ≤ p.length ∧ ∀ k, k < i → tyF p k = 0) (fun i => p.length - i) (0) (by simp) (Less.of rfl (by simp [go_sem]) (by simp [go_sem])) ?_
              rintro i ⟨hi, hal3⟩
              refine AW.reg tiOk (fun _ => []) [43, 44, 45, 46] ?_
              intro k hk; simp -dsimp [go_sem, -decide_eq_true_eq, -decide_eq_false_iff_not]
              repeat' (first | refine And.intro ?_ ?_ | refine hk _ ?_ | intro hg | omega | exact True.intro)
              all_goals clear hk k
              refine AW.seq ?_
              refine AW.cond rfl ?_ ?_
              · intro hc; try simp at hc
                all_goals (
                  have hlt : i < p.length := by assumption
                  obtain ⟨x, hx⟩ := at_some hlt
                  have hxt := tyF_at hx
                  obtain ⟨g0, g1, g2⟩ := hg x (List.mem_of_getElem? hx)
                  have hfc : firstC [typF x.cond 2, typF x.expr 1] = tyF p i := by rw [hxt]; simp [firstC_cons, firstC_nil] <;> grind
                  refine AW.skipN (fun _ h => h) ?_
                  refine AW.seq ?_
                  refine AW.block ?_
                  refine AW.reg tiOk (fun _ => []) [10, 43, 44, 45] ?_
                  intro k hk; simp -dsimp [go_sem, -decide_eq_true_eq, -decide_eq_false_iff_not, hx, hfc]
                  repeat' (first | refine And.intro ?_ ?_ | refine hk _ ?_ | intro hg | omega | exact True.intro)
                  all_goals clear hk k
                  refine AW.reg tiOk (fun _ => []) [11, 43, 44, 45] ?_
                  intro k hk; simp -dsimp (maxSteps := 2000000) [go_sem, -decide_eq_true_eq, -decide_eq_false_iff_not, hx, hfc]
                  repeat' (first | refine And.intro ?_ ?_ | (refine Chk.keys ?_; simp only [go_sem, List.map_cons, List.map_nil, List.flatMap_cons, List.flatMap_nil, List.flatMap_append, List.append_nil, List.nil_append, List.cons_append]; decide +kernel) | refine hk _ ?_ | intro hg | (refine CallK.intro (dc_impl_typeFault x.cond 2 g1) ?_; simp -dsimp (maxSteps := 2000000) [go_sem, -decide_eq_true_eq, -decide_eq_false_iff_not, hx, hfc]) | (refine CallK.intro (dc_impl_typeFault x.expr 1 g2) ?_; simp -dsimp (maxSteps := 2000000) [go_sem, -decide_eq_true_eq, -decide_eq_false_iff_not, hx, hfc]) | (refine CallK.intro (dc_impl_firstCode [_, _] (by simp)) ?_; simp -dsimp (maxSteps := 2000000) [go_sem, -decide_eq_true_eq, -decide_eq_false_iff_not, hx, hfc]) | (refine CallK.intro (dc_impl_firstCode [_, _, _] (by simp)) ?_; simp -dsimp (maxSteps := 2000000) [go_sem, -decide_eq_true_eq, -decide_eq_false_iff_not, hx, hfc]) | (refine CallK.intro (dc_impl_firstCode [_, _, _, _] (by simp)) ?_; simp -dsimp (maxSteps := 2000000) [go_sem, -decide_eq_true_eq, -decide_eq_false_iff_not, hx, hfc]) | omega | exact True.intro)
                  all_goals clear hk k
                  refine AW.reg tiOk (fun _ => []) [11, 43, 44, 45, 58] ?_
                  intro k hk; simp -dsimp [go_sem, -decide_eq_true_eq, -decide_eq_false_iff_not, hx, hfc]
                  repeat' (first | refine And.intro ?_ ?_ | refine hk _ ?_ | intro hg | omega | exact True.intro)
                  all_goals clear hk k
                  refine AW.cond rfl ?_ ?_
                  · intro hc; try simp at hc
                    all_goals (
                      refine AW.reg tiOk (fun _ => []) [2] ?_
                      intro k hk; simp -dsimp [go_sem, -decide_eq_true_eq, -decide_eq_false_iff_not, hx, hfc]
                      repeat' (first | refine And.intro ?_ ?_ | refine hk _ ?_ | intro hg | omega | exact True.intro)
                      all_goals clear hk k
                      refine AW.retF (ow := []) (muts := []) ?_ (fun h => And.intro (.inr rfl) h)
                      first | (rw [procF_len (by simpa using hc)]; simp [go_sem, Try.results42]; done) | (rw [procF_ok hR h1 h2 h3]; simp [go_sem, Try.results42]; done) | (rw [procF_ty hR h1 h2 hlt hal3 (by first | assumption | simpa using hc)]; simp [go_sem, Try.results42]; done) | (rw [procF_shape hR h1 hlt hal2 (by first | assumption | simpa using hc)]; simp [go_sem, Try.results42]; done) | (rw [procF_one hR hlt hall (by rw [hxo]; first | assumption | simpa using hc), hxo]; simp [go_sem, Try.results42]))
                  · intro hc; try simp at hc
                    all_goals (
                      refine AW.skipN (fun _ h => h) ?_
                      refine AW.regK tiOk (fun _ => []) ?_
                      intro k hk; simp -dsimp [go_sem, -decide_eq_true_eq, -decide_eq_false_iff_not, hx, hfc]
                      repeat' (first | refine And.intro ?_ ?_ | refine hk _ ?_ | intro hg | omega | exact True.intro)
                      all_goals clear hk k
                      show ∃ _, _
                      have hw := wrapi hlt (by omega)
                      refine ⟨i + 1, ⟨by omega, upto hal3 (by first | assumption | simpa using hc)⟩, by omega, Less.of rfl (by simp [go_sem, hw]) (by simp [go_sem])⟩))
              · intro hc; try simp at hc
                all_goals (
                  refine AW.exitN (fun _ h => h) ?_
                  have h3 : ∀ k, k < p.length → tyF p k = 0 := fun k hk => hal3 k (by omega)
                  refine AW.reg tiOk (fun _ => []) [2] ?_
                  intro k hk; simp -dsimp [go_sem, -decide_eq_true_eq, -decide_eq_false_iff_not]
                  repeat' (first | refine And.intro ?_ ?_ | refine hk _ ?_ | intro hg | omega | exact True.intro)
                  all_goals clear hk k
                  refine AW.retF (ow := []) (muts := []) ?_ (fun h => And.intro (.inr rfl) h)
                  first | (rw [procF_len (by simpa using hc)]; simp [go_sem, Try.results42]; done) | (rw [procF_ok hR h1 h2 h3]; simp [go_sem, Try.results42]; done) | (rw [procF_ty hR h1 h2 hlt hal3 (by first | assumption | simpa using hc)]; simp [go_sem, Try.results42]; done) | (rw [procF_shape hR h1 hlt hal2 (by first | assumption | simpa using hc)]; simp [go_sem, Try.results42]; done) | (rw [procF_one hR hlt hall (by rw [hxo]; first | assumption | simpa using hc), hxo]; simp [go_sem, Try.results42])))))

end Go.AM

/-! ### H1 -/
set_option linter.unusedVariables false
set_option linter.unusedSimpArgs false
namespace Go.AM
open Go.Proofs

end Go.AM

/-! ### H2 -/
set_option linter.unusedVariables false
set_option linter.unusedSimpArgs false
namespace Go.AM
open Go.Proofs

end Go.AM

/-! ### H3 -/
set_option linter.unusedVariables false
set_option linter.unusedSimpArgs false
namespace Go.AM
open Go.Proofs

end Go.AM

/-! ### K1 -/
set_option linter.unusedVariables false
set_option linter.unusedSimpArgs false
namespace Go.AM
open Go.Proofs

set_option maxHeartbeats 600000 in
set_option linter.unusedSimpArgs false in
set_option maxRecDepth 100000 in
/-- impl.procsFault -/
theorem dc_impl_procsFault (l : List TProc) (hl : l.length ≤ 9223372036854775807 ∧ ∀ e ∈ l, e.gok) : DC Try.prog 62 [.isl 1 (l.map TProc.ro)] (.int .i64 (procsF l)) [] := by
  obtain ⟨hl, hg⟩ := hl
  refine DC.intro tiOk Try.func62 rfl rfl rfl rfl rfl rfl rfl rfl [] ?_
  refine AW.reg tiOk (fun _ => []) [0] ?_
  intro k hk; simp -dsimp [go_sem, -decide_eq_true_eq, -decide_eq_false_iff_not]
  repeat' (first | refine And.intro ?_ ?_ | refine hk _ ?_ | intro hg | omega | exact True.intro)
  all_goals clear hk k
  refine AW.seq ?_
  refine AW.reg tiOk (fun _ => []) [0, 9] ?_
  intro k hk; simp -dsimp (maxSteps := 2000000) [go_sem, -decide_eq_true_eq, -decide_eq_false_iff_not]
  repeat' (first | refine And.intro ?_ ?_ | refine hk _ ?_ | intro hg | (refine CallK.intro (dc_impl_inRange _ _ _) ?_; simp -dsimp (maxSteps := 2000000) [go_sem, -decide_eq_true_eq, -decide_eq_false_iff_not]) | omega | exact True.intro)
  all_goals clear hk k
  refine AW.cond rfl ?_ ?_
  · intro hc; try simp at hc
    all_goals (
      refine AW.reg tiOk (fun _ => []) [2] ?_
      intro k hk; simp -dsimp [go_sem, -decide_eq_true_eq, -decide_eq_false_iff_not]
      repeat' (first | refine And.intro ?_ ?_ | refine hk _ ?_ | intro hg | omega | exact True.intro)
      all_goals clear hk k
      refine AW.retF (ow := []) (muts := []) ?_ (fun h => And.intro (.inr rfl) h)
      first | (rw [procsF_ok hR (fun k hk => hall k (by omega))]; simp [go_sem, Try.results62]; done) | (rw [procsF_hit hR hlt hall (by rw [hxp]; first | assumption | simpa using hc), hxp]; simp [go_sem, Try.results62]; done) | (rw [procsF_len (by simpa using hc)]; simp [go_sem, Try.results62]))
  · intro hc; try simp at hc
    all_goals (
      refine AW.skipN (fun _ h => h) ?_
      refine AW.seq ?_
      have hR : inR l.length 1 3 = true := by simpa using hc
      refine AW.reg tiOk (fun _ => []) [10, 11, 12] ?_
      intro k hk; simp -dsimp [go_sem, -decide_eq_true_eq, -decide_eq_false_iff_not]
      repeat' (first | refine And.intro ?_ ?_ | refine hk _ ?_ | intro hg | omega | exact True.intro)
      all_goals clear hk k
      refine AW.block ?_
      -- live at the loop's head: [10, 11, 12]
      refine AW.loopI (fun i : Nat => ⟨23, [(10, .isl 1 (l.map TProc.ro)), (11, .int .i64 l.length), (12, .int .i64 i)], []⟩) (fun i => i ≤ l.length ∧ ∀ k, k < i → procAt l k = 0) (fun i => l.length - i) (0) (by simp) (Less.of rfl (by simp [go_sem]) (by simp [go_sem])) ?_
      rintro i ⟨hi, hall⟩
      refine AW.reg tiOk (fun _ => []) [10, 11, 12, 13] ?_
      intro k hk; simp -dsimp [go_sem, -decide_eq_true_eq, -decide_eq_false_iff_not]
      repeat' (first | refine And.intro ?_ ?_ | refine hk _ ?_ | intro hg | omega | exact True.intro)
      all_goals clear hk k
      refine AW.seq ?_
      refine AW.cond rfl ?_ ?_
      · intro hc; try simp at hc
        all_goals (
          have hlt : i < l.length := by assumption
          obtain ⟨x, hx⟩ := at_some hlt
          have hxp := procAt_at hx
          have gx : x.steps.length ≤ 9223372036854775807 ∧ ∀ e ∈ x.steps, e.gok := hg x (List.mem_of_getElem? hx)
          refine AW.skipN (fun _ h => h) ?_
          refine AW.seq ?_
          refine AW.block ?_
          refine AW.reg tiOk (fun _ => []) [4, 10, 11, 12] ?_
          intro k hk; simp -dsimp [go_sem, -decide_eq_true_eq, -decide_eq_false_iff_not, hx]
          repeat' (first | refine And.intro ?_ ?_ | refine hk _ ?_ | intro hg | omega | exact True.intro)
          all_goals clear hk k
          refine AW.reg tiOk (fun _ => []) [5, 10, 11, 12] ?_
          intro k hk; simp -dsimp (maxSteps := 2000000) [go_sem, -decide_eq_true_eq, -decide_eq_false_iff_not, hx]
          repeat' (first | refine And.intro ?_ ?_ | refine hk _ ?_ | intro hg | (refine CallK.intro (dc_impl_ProcFault x.steps gx.1 gx.2) ?_; simp -dsimp (maxSteps := 2000000) [go_sem, -decide_eq_true_eq, -decide_eq_false_iff_not, hx]) | omega | exact True.intro)
          all_goals clear hk k
          refine AW.reg tiOk (fun _ => []) [5, 10, 11, 12, 20] ?_
          intro k hk; simp -dsimp [go_sem, -decide_eq_true_eq, -decide_eq_false_iff_not, hx]
          repeat' (first | refine And.intro ?_ ?_ | refine hk _ ?_ | intro hg | omega | exact True.intro)
          all_goals clear hk k
          refine AW.cond rfl ?_ ?_
          · intro hc; try simp at hc
            all_goals (
              refine AW.reg tiOk (fun _ => []) [2] ?_
              intro k hk; simp -dsimp [go_sem, -decide_eq_true_eq, -decide_eq_false_iff_not, hx]
              repeat' (first | refine And.intro ?_ ?_ | refine hk _ ?_ | intro hg | omega | exact True.intro)
              all_goals clear hk k
              refine AW.retF (ow := []) (muts := []) ?_ (fun h => And.intro (.inr rfl) h)
              first | (rw [procsF_ok hR (fun k hk => hall k (by omega))]; simp [go_sem, Try.results62]; done) | (rw [procsF_hit hR hlt hall (by rw [hxp]; first | assumption | simpa using hc), hxp]; simp [go_sem, Try.results62]; done) | (rw [procsF_len (by simpa using hc)]; simp [go_sem, Try.results62]))
          · intro hc; try simp at hc
            all_goals (
              refine AW.skipN (fun _ h => h) ?_
              refine AW.regK tiOk (fun _ => []) ?_
              intro k hk; simp -dsimp [go_sem, -decide_eq_true_eq, -decide_eq_false_iff_not, hx]
              repeat' (first | refine And.intro ?_ ?_ | refine hk _ ?_ | intro hg | omega | exact True.intro)
              all_goals clear hk k
              show ∃ _, _
              have hw := wrapi hlt (by omega)
              refine ⟨i + 1, ⟨by omega, upto hall (by rw [hxp]; first | assumption | simpa using hc)⟩, by omega, Less.of rfl (by simp [go_sem, hw]) (by simp [go_sem])⟩))
      · intro hc; try simp at hc
        all_goals (
          refine AW.exitN (fun _ h => h) ?_
          refine AW.reg tiOk (fun _ => []) [2] ?_
          intro k hk; simp -dsimp [go_sem, -decide_eq_true_eq, -decide_eq_false_iff_not]
          repeat' (first | refine And.intro ?_ ?_ | refine hk _ ?_ | intro hg | omega | exact True.intro)
          all_goals clear hk k
          refine AW.retF (ow := []) (muts := []) ?_ (fun h => And.intro (.inr rfl) h)
          first | (rw [procsF_ok hR (fun k hk => hall k (by omega))]; simp [go_sem, Try.results62]; done) | (rw [procsF_hit hR hlt hall (by rw [hxp]; first | assumption | simpa using hc), hxp]; simp [go_sem, Try.results62]; done) | (rw [procsF_len (by simpa using hc)]; simp [go_sem, Try.results62])))

end Go.AM

/-! ### G7 -/
set_option linter.unusedVariables false
set_option linter.unusedSimpArgs false
namespace Go.AM
open Go.Proofs

set_option maxHeartbeats 600000 in
set_option linter.unusedSimpArgs false in
set_option maxRecDepth 100000 in
/-- spec.l4Deep -/
theorem dc_spec_l4Deep (p : List TStep) (hp : p.length ≤ 24) (m : Nat) (hm : m ≤ p.length) (hl : ParOk ((pars p).take m)) (a : Int) (ha : -1 ≤ a ∧ a < m) : DC Try.prog 119 [.isl 6 (p.map TStep.ro), .int .i64 a] (.int .i64 (dep ((pars p).take m) a)) [] := by
  have hL : ((pars p).take m).length = m := take_len hm
  have hd1 := dep_small hl (a := a) (by omega)
  refine DC.intro tiOk Try.func119 rfl rfl rfl rfl rfl rfl rfl rfl [] ?_
  refine AW.reg tiOk (fun _ => []) [0, 1] ?_
  intro k hk; simp -dsimp [go_sem, -decide_eq_true_eq, -decide_eq_false_iff_not]
  repeat' (first | refine And.intro ?_ ?_ | refine hk _ ?_ | intro hg | omega | exact True.intro)
  all_goals clear hk k
  refine AW.reg tiOk (fun _ => []) [0, 1, 5] ?_
  intro k hk; simp -dsimp [go_sem, -decide_eq_true_eq, -decide_eq_false_iff_not]
  repeat' (first | refine And.intro ?_ ?_ | refine hk _ ?_ | intro hg | omega | exact True.intro)
  all_goals clear hk k
  refine AW.seq ?_
  refine AW.block ?_
  -- live at the loop's head: [0, 1, 5]
  refine AW.loopI (fun j : Int × Int => ⟨20, [(0, .isl 6 (p.map TStep.ro)), (1, .int .i64 j.1), (5, .int .i64 j.2)], []⟩) (fun j => -1 ≤ j.1 ∧ j.1 < m ∧ j.2 + dep ((pars p).take m) j.1 = dep ((pars p).take m) a ∧ 0 ≤ j.2) (fun j => (j.1 + 1).toNat) ((a, 0)) (by refine ⟨by simp only; omega, by simp only; omega, by simp only; omega, by simp only; omega⟩) (Less.of rfl (by simp [go_sem]) (by simp [go_sem])) ?_
  rintro ⟨b, n⟩ ⟨hb1, hb2, hinv, hn0⟩
  simp only at hb1 hb2 hinv hn0
  have hd2 := dep_small hl (a := b) (by omega)
  have hn50 : n < 50 := by omega
  refine AW.seq ?_
  refine AW.cut ⟨20, [(0, .isl 6 (p.map TStep.ro)), (1, .int .i64 b), (5, .int .i64 n), (11, .bool (decide (0 ≤ b)))], []⟩ ?_ ?_
  · skip
    refine AW.regK tiOk (fun _ => []) ?_
    intro k hk; simp +contextual -dsimp [go_sem, -decide_eq_true_eq, -decide_eq_false_iff_not]
    repeat' (first | refine And.intro ?_ ?_ | refine hk _ ?_ | (intro hg; try simp only [decide_eq_true_eq, decide_eq_false_iff_not] at hg) | omega | exact True.intro)
    all_goals clear hk k
    all_goals (show St.Less _ _; exact Less.of rfl (by simp [go_sem] <;> first | omega | grind) (by simp [go_sem]))
  · skip
    refine AW.cond rfl ?_ ?_
    · intro hc; try simp at hc
      all_goals try (exfalso; omega; done)
      all_goals (
        have h0 : 0 ≤ b := by simpa using hc
        obtain ⟨k, hk⟩ : ∃ k : Nat, b = k := ⟨_, (Int.toNat_of_nonneg h0).symm⟩
        subst hk
        obtain ⟨x, hx⟩ := at_some (l := p) (show k < p.length by omega)
        have hpk := hl k (by omega)
        have hpa := pars_at hx (m := m) (by omega)
        rw [hpa] at hpk
        have hde := dep_eq hl h0 (by omega)
        rw [Int.toNat_natCast, hpa] at hde
        have hwn : IntKind.wrap .i64 (n + 1) = n + 1 := wrap64 (by omega) (by omega)
        refine AW.skipN (fun _ h => h) ?_
        refine AW.block ?_
        refine AW.reg tiOk (fun _ => []) [0, 1, 5] ?_
        intro k hk; simp -dsimp [go_sem, -decide_eq_true_eq, -decide_eq_false_iff_not, hx, hwn]
        repeat' (first | refine And.intro ?_ ?_ | refine hk _ ?_ | intro hg | omega | exact True.intro)
        all_goals clear hk k
        refine AW.regK tiOk (fun _ => []) ?_
        intro k hk; simp -dsimp [go_sem, -decide_eq_true_eq, -decide_eq_false_iff_not, hx, hwn]
        repeat' (first | refine And.intro ?_ ?_ | refine hk _ ?_ | intro hg | omega | exact True.intro)
        all_goals clear hk k
        show ∃ _, _
        refine ⟨(x.par, n + 1), ⟨by simp only; omega, by simp only; omega, by simp only; omega, by simp only; omega⟩, by simp only; omega, Less.of rfl (by simp [go_sem]) (by simp [go_sem])⟩)
    · intro hc; try simp at hc
      all_goals try (exfalso; omega; done)
      all_goals (
        refine AW.exitN (fun _ h => h) ?_
        refine AW.reg tiOk (fun _ => []) [4] ?_
        intro k hk; simp -dsimp [go_sem, -decide_eq_true_eq, -decide_eq_false_iff_not]
        repeat' (first | refine And.intro ?_ ?_ | refine hk _ ?_ | intro hg | omega | exact True.intro)
        all_goals clear hk k
        refine AW.retF (ow := []) (muts := []) ?_ (fun h => And.intro (.inr rfl) h)
        have hbn : b < 0 := (by simpa using hc)
        rw [dep_neg hbn] at hinv
        rw [← hinv]
        simp [go_sem, Try.results119])

set_option maxHeartbeats 600000 in
set_option linter.unusedSimpArgs false in
set_option maxRecDepth 100000 in
/-- spec.l4Line -/
theorem dc_spec_l4Line (p : List TStep) (hp : p.length ≤ 24) (i : Nat) (x : TStep) (hx : p[i]? = some x) (h0 : 0 < i) (hl : ParOk ((pars p).take i)) : DC Try.prog 118 [.isl 6 (p.map TStep.ro), .int .i64 (i : Nat)] (.bool (upB ((pars p).take i) ((i : Int) - 1) x.par)) [] := by
  have hi := at_lt hx
  have hL : ((pars p).take i).length = i := take_len (by omega)
  have hwi : IntKind.wrap .i64 ((i : Int) - 1) = (i : Int) - 1 := wrap64 (by omega) (by omega)
  refine DC.intro tiOk Try.func118 rfl rfl rfl rfl rfl rfl rfl rfl [] ?_
  refine AW.reg tiOk (fun _ => []) [0, 1] ?_
  intro k hk; simp -dsimp [go_sem, -decide_eq_true_eq, -decide_eq_false_iff_not, hx, hwi]
  repeat' (first | refine And.intro ?_ ?_ | refine hk _ ?_ | intro hg | omega | exact True.intro)
  all_goals clear hk k
  refine AW.seq ?_
  refine AW.reg tiOk (fun _ => []) [0, 1, 5] ?_
  intro k hk; simp -dsimp [go_sem, -decide_eq_true_eq, -decide_eq_false_iff_not, hx, hwi]
  repeat' (first | refine And.intro ?_ ?_ | refine hk _ ?_ | intro hg | omega | exact True.intro)
  all_goals clear hk k
  refine AW.block ?_
  -- live at the loop's head: [0, 1, 5]
  refine AW.loopI (fun a : Int => ⟨22, [(0, .isl 6 (p.map TStep.ro)), (1, .int .i64 (i : Nat)), (5, .int .i64 a)], []⟩) (fun a => -1 ≤ a ∧ a < i ∧ upB ((pars p).take i) a x.par = upB ((pars p).take i) ((i : Int) - 1) x.par) (fun a => (a + 1).toNat) ((i : Int) - 1) (by refine ⟨by omega, by omega, rfl⟩) (Less.of rfl (by simp [go_sem]) (by simp [go_sem])) ?_
  rintro a ⟨ha0, ha1, hinv⟩
  refine AW.seq ?_
  refine AW.reg tiOk (fun _ => []) [0, 1, 5, 9] ?_
  intro k hk; simp -dsimp [go_sem, -decide_eq_true_eq, -decide_eq_false_iff_not, hx, hwi]
  repeat' (first | refine And.intro ?_ ?_ | refine hk _ ?_ | intro hg | omega | exact True.intro)
  all_goals clear hk k
  refine AW.cond rfl ?_ ?_
  · intro hc; try simp at hc
    all_goals (
      have h0a : 0 ≤ a := by simpa using hc
      obtain ⟨k, hk⟩ : ∃ k : Nat, a = k := ⟨_, (Int.toNat_of_nonneg h0a).symm⟩
      subst hk
      obtain ⟨y, hy⟩ := at_some (l := p) (show k < p.length by omega)
      have hpk := hl k (by omega)
      have hpa := pars_at hy (m := i) (by omega)
      rw [hpa] at hpk
      refine AW.skipN (fun _ h => h) ?_
      refine AW.seq ?_
      refine AW.block ?_
      refine AW.reg tiOk (fun _ => []) [0, 1, 5, 21] ?_
      intro k hk; simp -dsimp (maxSteps := 2000000) [go_sem, -decide_eq_true_eq, -decide_eq_false_iff_not, hx, hwi, hy]
      repeat' (first | refine And.intro ?_ ?_ | refine hk _ ?_ | intro hg | omega | exact True.intro)
      all_goals clear hk k
      refine AW.cond rfl ?_ ?_
      · intro hc; try simp at hc
        all_goals (
          refine AW.reg tiOk (fun _ => []) [4] ?_
          intro k hk; simp -dsimp [go_sem, -decide_eq_true_eq, -decide_eq_false_iff_not, hx, hwi, hy]
          repeat' (first | refine And.intro ?_ ?_ | refine hk _ ?_ | intro hg | omega | exact True.intro)
          all_goals clear hk k
          refine AW.retF (ow := []) (muts := []) ?_ (fun h => And.intro (.inr rfl) h)
          first | (have hu : upB ((pars p).take i) ((i : Int) - 1) x.par = true := (by rw [← hinv, upB_eq hl h0a (by omega), if_pos (by first | assumption | simpa using hc)]); simp [go_sem, Try.results118, hu]; done) | (have hu : upB ((pars p).take i) ((i : Int) - 1) x.par = false := (by rw [← hinv]; exact upB_neg (by omega)); simp [go_sem, Try.results118, hu]))
      · intro hc; try simp at hc
        all_goals (
          refine AW.skipN (fun _ h => h) ?_
          refine AW.regK tiOk (fun _ => []) ?_
          intro k hk; simp -dsimp [go_sem, -decide_eq_true_eq, -decide_eq_false_iff_not, hx, hwi, hy]
          repeat' (first | refine And.intro ?_ ?_ | refine hk _ ?_ | intro hg | omega | exact True.intro)
          all_goals clear hk k
          show ∃ _, _
          refine ⟨y.par, ⟨by omega, by omega, ?_⟩, by omega, Less.of rfl (by simp [go_sem]) (by simp [go_sem])⟩
          rw [← hinv, upB_eq hl h0a (by omega), if_neg (by first | assumption | simpa using hc), Int.toNat_natCast, hpa]))
  · intro hc; try simp at hc
    all_goals (
      refine AW.exitN (fun _ h => h) ?_
      refine AW.reg tiOk (fun _ => []) [4] ?_
      intro k hk; simp -dsimp [go_sem, -decide_eq_true_eq, -decide_eq_false_iff_not, hx, hwi]
      repeat' (first | refine And.intro ?_ ?_ | refine hk _ ?_ | intro hg | omega | exact True.intro)
      all_goals clear hk k
      refine AW.retF (ow := []) (muts := []) ?_ (fun h => And.intro (.inr rfl) h)
      first | (have hu : upB ((pars p).take i) ((i : Int) - 1) x.par = true := (by rw [← hinv, upB_eq hl h0a (by omega), if_pos (by first | assumption | simpa using hc)]); simp [go_sem, Try.results118, hu]; done) | (have hu : upB ((pars p).take i) ((i : Int) - 1) x.par = false := (by rw [← hinv]; exact upB_neg (by omega)); simp [go_sem, Try.results118, hu]))

end Go.AM

/-! ### F3 -/
set_option linter.unusedVariables false
set_option linter.unusedSimpArgs false
namespace Go.AM
open Go.Proofs

set_option maxHeartbeats 600000 in
set_option linter.unusedSimpArgs false in
set_option maxRecDepth 100000 in
/-- spec.l3Walk -/
theorem dc_spec_l3Walk_n (e : List TNode) (hP : PartsOk e e.length) (h16 : e.length ≤ 16) (i : Nat) (hi : i < e.length) (ihn : ∀ j : Nat, j < i → DC Try.prog 133 [.isl 4 (e.map TNode.ro), .int .i64 ((j : Nat) : Int), .nils] (.osl 1 ((wkF e j []).map N1)) []) (iho : ∀ j : Nat, j < i → ∀ out : List Nat, out.length ≤ 40 → DC Try.prog 133 [.isl 4 (e.map TNode.ro), .int .i64 ((j : Nat) : Int), .osl 1 (out.map N1)] (.osl 1 ((wkF e j out).map N1)) []) : DC Try.prog 133 [.isl 4 (e.map TNode.ro), .int .i64 ((i : Nat) : Int), .nils] (.osl 1 ((wkF e i []).map N1)) [] := by
  obtain ⟨x, hx⟩ := at_some hi
  have hxA := nA_at hx
  have hpx := hP i hi
  rw [nodeAt_at hx] at hpx
  have hq := nodeF_parts hpx
  refine DC.intro tiOk Try.func133 rfl rfl rfl rfl rfl rfl rfl rfl [1000] ?_
  refine AW.reg tiOk (fun _ => []) [0, 1, 2] ?_
  intro k hk; simp -dsimp [go_sem, -decide_eq_true_eq, -decide_eq_false_iff_not, hx, hxA]
  repeat' (first | refine And.intro ?_ ?_ | refine hk _ ?_ | intro hg | omega | exact True.intro)
  all_goals clear hk k
  refine AW.seq ?_
  refine AW.reg tiOk (fun _ => []) [0, 1, 2, 9] ?_
  intro k hk; simp -dsimp [go_sem, -decide_eq_true_eq, -decide_eq_false_iff_not, hx, hxA]
  repeat' (first | refine And.intro ?_ ?_ | refine hk _ ?_ | intro hg | omega | exact True.intro)
  all_goals clear hk k
  refine AW.cond rfl ?_ ?_
  · intro hc; try simp at hc
    all_goals try (exfalso; first | omega | (have hk9 := inR_iff.1 hc; omega); done)
    all_goals (
      refine AW.reg tiOk (fun _ => []) [6] ?_
      intro k hk; simp -dsimp [go_sem, -decide_eq_true_eq, -decide_eq_false_iff_not, hx, hxA]
      repeat' (first | refine And.intro ?_ ?_ | refine hk _ ?_ | intro hg | omega | exact True.intro)
      all_goals clear hk k
      refine AW.retF (ow := [1000]) (muts := []) ?_ (fun h => And.intro (.inr rfl) h)
      rw [wkF_eq hP hi]; (try (first | rw [if_neg (show ¬ 16 < out.length by omega)] | rw [if_pos (show 16 < out.length by omega)])); simp [go_sem, Try.results133, *] <;> first | (intro h9; omega) | (simp_all; done) | omega | grind)
  · intro hc; try simp at hc
    all_goals try (exfalso; first | omega | (have hk9 := inR_iff.1 hc; omega); done)
    all_goals (
      refine AW.skipN (fun _ h => h) ?_
      refine AW.seq ?_
      refine AW.reg tiOk (fun _ => []) [0, 1, 2, 16] ?_
      intro k hk; simp -dsimp [go_sem, -decide_eq_true_eq, -decide_eq_false_iff_not, hx, hxA]
      repeat' (first | refine And.intro ?_ ?_ | refine hk _ ?_ | intro hg | omega | exact True.intro)
      all_goals clear hk k
      refine AW.cond rfl ?_ ?_
      · intro hc; try simp at hc
        all_goals try (exfalso; first | omega | (have hk9 := inR_iff.1 hc; omega); done)
        all_goals (
          have hk0 : 2 < x.kind := by simpa using hc
          have hl := left_of hpx hk0
          obtain ⟨a, ha⟩ : ∃ a : Nat, x.left = a := ⟨_, (Int.toNat_of_nonneg hl.1).symm⟩
          have hla : x.left.toNat = a := by omega
          have hwa := wkF_len (e := e) (i := a) (out := []) (by first | assumption | simp) (by omega)
          refine AW.regN tiOk (fun i => if i = 7 then [2] else []) [0, 1, 2] (fun _ h => h) ?_
          intro k hk; simp -dsimp (maxSteps := 2000000) [go_sem, -decide_eq_true_eq, -decide_eq_false_iff_not, hx, hxA, ha]
          repeat' (first | refine And.intro ?_ ?_ | refine hk _ ?_ | intro hg | (refine CallK.intro (ihn a (by omega)) ?_; simp -dsimp (maxSteps := 2000000) [go_sem, -decide_eq_true_eq, -decide_eq_false_iff_not, hx, hxA, ha]) | (refine CallK.intro (iho b (by omega) _ hwa) ?_; simp -dsimp (maxSteps := 2000000) [go_sem, -decide_eq_true_eq, -decide_eq_false_iff_not, hx, hxA, ha]) | omega | exact True.intro)
          all_goals clear hk k
          refine AW.seq ?_
          refine AW.reg tiOk (fun _ => []) [0, 1, 2, 30] ?_
          intro k hk; simp -dsimp (maxSteps := 2000000) [go_sem, -decide_eq_true_eq, -decide_eq_false_iff_not, hx, hxA]
          repeat' (first | refine And.intro ?_ ?_ | refine hk _ ?_ | intro hg | (refine CallK.intro (dc_spec_l3Two _) ?_; simp -dsimp (maxSteps := 2000000) [go_sem, -decide_eq_true_eq, -decide_eq_false_iff_not, hx, hxA]) | omega | exact True.intro)
          all_goals clear hk k
          refine AW.cond rfl ?_ ?_
          · intro hc; try simp at hc
            all_goals try (exfalso; first | omega | (have hk9 := inR_iff.1 hc; omega); done)
            all_goals (
              have hk2 : isTwoB x.kind = true := by simpa using hc
              have hr := hq.2.1 hk2
              have hk3 := inR_iff.1 hk2
              obtain ⟨b, hb⟩ : ∃ b : Nat, x.right = b := ⟨_, (Int.toNat_of_nonneg hr.2.2.1).symm⟩
              have hrb : x.right.toNat = b := by omega
              refine AW.regN tiOk (fun i => if i = 7 then [2] else []) [1, 2] (fun _ h => h) ?_
              intro k hk; simp -dsimp (maxSteps := 2000000) [go_sem, -decide_eq_true_eq, -decide_eq_false_iff_not, hx, hxA, hb]
              repeat' (first | refine And.intro ?_ ?_ | refine hk _ ?_ | intro hg | (refine CallK.intro (ihn a (by omega)) ?_; simp -dsimp (maxSteps := 2000000) [go_sem, -decide_eq_true_eq, -decide_eq_false_iff_not, hx, hxA, hb]) | (refine CallK.intro (iho b (by omega) _ hwa) ?_; simp -dsimp (maxSteps := 2000000) [go_sem, -decide_eq_true_eq, -decide_eq_false_iff_not, hx, hxA, hb]) | omega | exact True.intro)
              all_goals clear hk k
              try (have hwb := wkF_len (e := e) (i := b) hwa (by omega))
              refine AW.reg tiOk (fun _ => []) [6] ?_
              intro k hk; simp -dsimp [go_sem, -decide_eq_true_eq, -decide_eq_false_iff_not, hx, hxA]
              repeat' (first | refine And.intro ?_ ?_ | refine hk _ ?_ | intro hg | omega | exact True.intro)
              all_goals clear hk k
              refine AW.retF (ow := [1000]) (muts := []) ?_ (fun h => And.intro (.inr rfl) h)
              rw [wkF_eq hP hi]; (try (first | rw [if_neg (show ¬ 16 < out.length by omega)] | rw [if_pos (show 16 < out.length by omega)])); simp [go_sem, Try.results133, *] <;> first | (intro h9; omega) | (simp_all; done) | omega | grind)
          · intro hc; try simp at hc
            all_goals try (exfalso; first | omega | (have hk9 := inR_iff.1 hc; omega); done)
            all_goals (
              refine AW.skipN (fun _ h => h) ?_
              try (have hwb := wkF_len (e := e) (i := b) hwa (by omega))
              refine AW.reg tiOk (fun _ => []) [6] ?_
              intro k hk; simp -dsimp [go_sem, -decide_eq_true_eq, -decide_eq_false_iff_not, hx, hxA]
              repeat' (first | refine And.intro ?_ ?_ | refine hk _ ?_ | intro hg | omega | exact True.intro)
              all_goals clear hk k
              refine AW.retF (ow := [1000]) (muts := []) ?_ (fun h => And.intro (.inr rfl) h)
              rw [wkF_eq hP hi]; (try (first | rw [if_neg (show ¬ 16 < out.length by omega)] | rw [if_pos (show 16 < out.length by omega)])); simp [go_sem, Try.results133, *] <;> first | (intro h9; omega) | (simp_all; done) | omega | grind))
      · intro hc; try simp at hc
        all_goals try (exfalso; first | omega | (have hk9 := inR_iff.1 hc; omega); done)
        all_goals (
          refine AW.skipN (fun _ h => h) ?_
          refine AW.seq ?_
          refine AW.reg tiOk (fun _ => []) [0, 1, 2, 30] ?_
          intro k hk; simp -dsimp (maxSteps := 2000000) [go_sem, -decide_eq_true_eq, -decide_eq_false_iff_not, hx, hxA]
          repeat' (first | refine And.intro ?_ ?_ | refine hk _ ?_ | intro hg | (refine CallK.intro (dc_spec_l3Two _) ?_; simp -dsimp (maxSteps := 2000000) [go_sem, -decide_eq_true_eq, -decide_eq_false_iff_not, hx, hxA]) | omega | exact True.intro)
          all_goals clear hk k
          refine AW.cond rfl ?_ ?_
          · intro hc; try simp at hc
            all_goals try (exfalso; first | omega | (have hk9 := inR_iff.1 hc; omega); done)
            all_goals (
              have hk2 : isTwoB x.kind = true := by simpa using hc
              have hr := hq.2.1 hk2
              have hk3 := inR_iff.1 hk2
              obtain ⟨b, hb⟩ : ∃ b : Nat, x.right = b := ⟨_, (Int.toNat_of_nonneg hr.2.2.1).symm⟩
              have hrb : x.right.toNat = b := by omega
              refine AW.regN tiOk (fun i => if i = 7 then [2] else []) [1, 2] (fun _ h => h) ?_
              intro k hk; simp -dsimp (maxSteps := 2000000) [go_sem, -decide_eq_true_eq, -decide_eq_false_iff_not, hx, hxA, hb]
              repeat' (first | refine And.intro ?_ ?_ | refine hk _ ?_ | intro hg | (refine CallK.intro (ihn a (by omega)) ?_; simp -dsimp (maxSteps := 2000000) [go_sem, -decide_eq_true_eq, -decide_eq_false_iff_not, hx, hxA, hb]) | (refine CallK.intro (iho b (by omega) _ hwa) ?_; simp -dsimp (maxSteps := 2000000) [go_sem, -decide_eq_true_eq, -decide_eq_false_iff_not, hx, hxA, hb]) | omega | exact True.intro)
              all_goals clear hk k
              try (have hwb := wkF_len (e := e) (i := b) hwa (by omega))
              refine AW.reg tiOk (fun _ => []) [6] ?_
              intro k hk; simp -dsimp [go_sem, -decide_eq_true_eq, -decide_eq_false_iff_not, hx, hxA]
              repeat' (first | refine And.intro ?_ ?_ | refine hk _ ?_ | intro hg | omega | exact True.intro)
              all_goals clear hk k
              refine AW.retF (ow := [1000]) (muts := []) ?_ (fun h => And.intro (.inr rfl) h)
              rw [wkF_eq hP hi]; (try (first | rw [if_neg (show ¬ 16 < out.length by omega)] | rw [if_pos (show 16 < out.length by omega)])); simp [go_sem, Try.results133, *] <;> first | (intro h9; omega) | (simp_all; done) | omega | grind)
          · intro hc; try simp at hc
            all_goals try (exfalso; first | omega | (have hk9 := inR_iff.1 hc; omega); done)
            all_goals (
              refine AW.skipN (fun _ h => h) ?_
              try (have hwb := wkF_len (e := e) (i := b) hwa (by omega))
              refine AW.reg tiOk (fun _ => []) [6] ?_
              intro k hk; simp -dsimp [go_sem, -decide_eq_true_eq, -decide_eq_false_iff_not, hx, hxA]
              repeat' (first | refine And.intro ?_ ?_ | refine hk _ ?_ | intro hg | omega | exact True.intro)
              all_goals clear hk k
              refine AW.retF (ow := [1000]) (muts := []) ?_ (fun h => And.intro (.inr rfl) h)
              rw [wkF_eq hP hi]; (try (first | rw [if_neg (show ¬ 16 < out.length by omega)] | rw [if_pos (show 16 < out.length by omega)])); simp [go_sem, Try.results133, *] <;> first | (intro h9; omega) | (simp_all; done) | omega | grind)))

set_option maxHeartbeats 600000 in
set_option linter.unusedSimpArgs false in
set_option maxRecDepth 100000 in
/-- spec.l3Walk -/
theorem dc_spec_l3Walk_o (e : List TNode) (hP : PartsOk e e.length) (h16 : e.length ≤ 16) (i : Nat) (hi : i < e.length) (out : List Nat) (ho : out.length ≤ 40) (ihn : ∀ j : Nat, j < i → DC Try.prog 133 [.isl 4 (e.map TNode.ro), .int .i64 ((j : Nat) : Int), .nils] (.osl 1 ((wkF e j []).map N1)) []) (iho : ∀ j : Nat, j < i → ∀ out : List Nat, out.length ≤ 40 → DC Try.prog 133 [.isl 4 (e.map TNode.ro), .int .i64 ((j : Nat) : Int), .osl 1 (out.map N1)] (.osl 1 ((wkF e j out).map N1)) []) : DC Try.prog 133 [.isl 4 (e.map TNode.ro), .int .i64 ((i : Nat) : Int), .osl 1 (out.map N1)] (.osl 1 ((wkF e i out).map N1)) [] := by
  obtain ⟨x, hx⟩ := at_some hi
  have hxA := nA_at hx
  have hpx := hP i hi
  rw [nodeAt_at hx] at hpx
  have hq := nodeF_parts hpx
  refine DC.intro tiOk Try.func133 rfl rfl rfl rfl rfl rfl rfl rfl [1000] ?_
  refine AW.reg tiOk (fun _ => []) [0, 1, 2] ?_
  intro k hk; simp -dsimp [go_sem, -decide_eq_true_eq, -decide_eq_false_iff_not, hx, hxA]
  repeat' (first | refine And.intro ?_ ?_ | refine hk _ ?_ | intro hg | omega | exact True.intro)
  all_goals clear hk k
  refine AW.seq ?_
  refine AW.reg tiOk (fun _ => []) [0, 1, 2, 9] ?_
  intro k hk; simp -dsimp [go_sem, -decide_eq_true_eq, -decide_eq_false_iff_not, hx, hxA]
  repeat' (first | refine And.intro ?_ ?_ | refine hk _ ?_ | intro hg | omega | exact True.intro)
  all_goals clear hk k
  refine AW.cond rfl ?_ ?_
  · intro hc; try simp at hc
    all_goals try (exfalso; first | omega | (have hk9 := inR_iff.1 hc; omega); done)
    all_goals (
      refine AW.reg tiOk (fun _ => []) [6] ?_
      intro k hk; simp -dsimp [go_sem, -decide_eq_true_eq, -decide_eq_false_iff_not, hx, hxA]
      repeat' (first | refine And.intro ?_ ?_ | refine hk _ ?_ | intro hg | omega | exact True.intro)
      all_goals clear hk k
      refine AW.retF (ow := [1000]) (muts := []) ?_ (fun h => And.intro (.inr rfl) h)
      rw [wkF_eq hP hi]; (try (first | rw [if_neg (show ¬ 16 < out.length by omega)] | rw [if_pos (show 16 < out.length by omega)])); simp [go_sem, Try.results133, *] <;> first | (intro h9; omega) | (simp_all; done) | omega | grind)
  · intro hc; try simp at hc
    all_goals try (exfalso; first | omega | (have hk9 := inR_iff.1 hc; omega); done)
    all_goals (
      refine AW.skipN (fun _ h => h) ?_
      refine AW.seq ?_
      refine AW.reg tiOk (fun _ => []) [0, 1, 2, 16] ?_
      intro k hk; simp -dsimp [go_sem, -decide_eq_true_eq, -decide_eq_false_iff_not, hx, hxA]
      repeat' (first | refine And.intro ?_ ?_ | refine hk _ ?_ | intro hg | omega | exact True.intro)
      all_goals clear hk k
      refine AW.cond rfl ?_ ?_
      · intro hc; try simp at hc
        all_goals try (exfalso; first | omega | (have hk9 := inR_iff.1 hc; omega); done)
        all_goals (
          have hk0 : 2 < x.kind := by simpa using hc
          have hl := left_of hpx hk0
          obtain ⟨a, ha⟩ : ∃ a : Nat, x.left = a := ⟨_, (Int.toNat_of_nonneg hl.1).symm⟩
          have hla : x.left.toNat = a := by omega
          have hwa := wkF_len (e := e) (i := a) (out := out) (by first | assumption | simp) (by omega)
          refine AW.regN tiOk (fun i => if i = 7 then [2] else []) [0, 1, 2] (fun _ h => h) ?_
          intro k hk; simp -dsimp (maxSteps := 2000000) [go_sem, -decide_eq_true_eq, -decide_eq_false_iff_not, hx, hxA, ha]
          repeat' (first | refine And.intro ?_ ?_ | refine hk _ ?_ | intro hg | (refine CallK.intro (iho a (by omega) _ ho) ?_; simp -dsimp (maxSteps := 2000000) [go_sem, -decide_eq_true_eq, -decide_eq_false_iff_not, hx, hxA, ha]) | (refine CallK.intro (iho b (by omega) _ hwa) ?_; simp -dsimp (maxSteps := 2000000) [go_sem, -decide_eq_true_eq, -decide_eq_false_iff_not, hx, hxA, ha]) | omega | exact True.intro)
          all_goals clear hk k
          refine AW.seq ?_
          refine AW.reg tiOk (fun _ => []) [0, 1, 2, 30] ?_
          intro k hk; simp -dsimp (maxSteps := 2000000) [go_sem, -decide_eq_true_eq, -decide_eq_false_iff_not, hx, hxA]
          repeat' (first | refine And.intro ?_ ?_ | refine hk _ ?_ | intro hg | (refine CallK.intro (dc_spec_l3Two _) ?_; simp -dsimp (maxSteps := 2000000) [go_sem, -decide_eq_true_eq, -decide_eq_false_iff_not, hx, hxA]) | omega | exact True.intro)
          all_goals clear hk k
          refine AW.cond rfl ?_ ?_
          · intro hc; try simp at hc
            all_goals try (exfalso; first | omega | (have hk9 := inR_iff.1 hc; omega); done)
            all_goals (
              have hk2 : isTwoB x.kind = true := by simpa using hc
              have hr := hq.2.1 hk2
              have hk3 := inR_iff.1 hk2
              obtain ⟨b, hb⟩ : ∃ b : Nat, x.right = b := ⟨_, (Int.toNat_of_nonneg hr.2.2.1).symm⟩
              have hrb : x.right.toNat = b := by omega
              refine AW.regN tiOk (fun i => if i = 7 then [2] else []) [1, 2] (fun _ h => h) ?_
              intro k hk; simp -dsimp (maxSteps := 2000000) [go_sem, -decide_eq_true_eq, -decide_eq_false_iff_not, hx, hxA, hb]
              repeat' (first | refine And.intro ?_ ?_ | refine hk _ ?_ | intro hg | (refine CallK.intro (iho a (by omega) _ ho) ?_; simp -dsimp (maxSteps := 2000000) [go_sem, -decide_eq_true_eq, -decide_eq_false_iff_not, hx, hxA, hb]) | (refine CallK.intro (iho b (by omega) _ hwa) ?_; simp -dsimp (maxSteps := 2000000) [go_sem, -decide_eq_true_eq, -decide_eq_false_iff_not, hx, hxA, hb]) | omega | exact True.intro)
              all_goals clear hk k
              try (have hwb := wkF_len (e := e) (i := b) hwa (by omega))
              refine AW.reg tiOk (fun _ => []) [6] ?_
              intro k hk; simp -dsimp [go_sem, -decide_eq_true_eq, -decide_eq_false_iff_not, hx, hxA]
              repeat' (first | refine And.intro ?_ ?_ | refine hk _ ?_ | intro hg | omega | exact True.intro)
              all_goals clear hk k
              refine AW.retF (ow := [1000]) (muts := []) ?_ (fun h => And.intro (.inr rfl) h)
              rw [wkF_eq hP hi]; (try (first | rw [if_neg (show ¬ 16 < out.length by omega)] | rw [if_pos (show 16 < out.length by omega)])); simp [go_sem, Try.results133, *] <;> first | (intro h9; omega) | (simp_all; done) | omega | grind)
          · intro hc; try simp at hc
            all_goals try (exfalso; first | omega | (have hk9 := inR_iff.1 hc; omega); done)
            all_goals (
              refine AW.skipN (fun _ h => h) ?_
              try (have hwb := wkF_len (e := e) (i := b) hwa (by omega))
              refine AW.reg tiOk (fun _ => []) [6] ?_
              intro k hk; simp -dsimp [go_sem, -decide_eq_true_eq, -decide_eq_false_iff_not, hx, hxA]
              repeat' (first | refine And.intro ?_ ?_ | refine hk _ ?_ | intro hg | omega | exact True.intro)
              all_goals clear hk k
              refine AW.retF (ow := [1000]) (muts := []) ?_ (fun h => And.intro (.inr rfl) h)
              rw [wkF_eq hP hi]; (try (first | rw [if_neg (show ¬ 16 < out.length by omega)] | rw [if_pos (show 16 < out.length by omega)])); simp [go_sem, Try.results133, *] <;> first | (intro h9; omega) | (simp_all; done) | omega | grind))
      · intro hc; try simp at hc
        all_goals try (exfalso; first | omega | (have hk9 := inR_iff.1 hc; omega); done)
        all_goals (
          refine AW.skipN (fun _ h => h) ?_
          refine AW.seq ?_
          refine AW.reg tiOk (fun _ => []) [0, 1, 2, 30] ?_
          intro k hk; simp -dsimp (maxSteps := 2000000) [go_sem, -decide_eq_true_eq, -decide_eq_false_iff_not, hx, hxA]
          repeat' (first | refine And.intro ?_ ?_ | refine hk _ ?_ | intro hg | (refine CallK.intro (dc_spec_l3Two _) ?_; simp -dsimp (maxSteps := 2000000) [go_sem, -decide_eq_true_eq, -decide_eq_false_iff_not, hx, hxA]) | omega | exact True.intro)
          all_goals clear hk k
          refine AW.cond rfl ?_ ?_
          · intro hc; try simp at hc
            all_goals try (exfalso; first | omega | (have hk9 := inR_iff.1 hc; omega); done)
            all_goals (
              have hk2 : isTwoB x.kind = true := by simpa using hc
              have hr := hq.2.1 hk2
              have hk3 := inR_iff.1 hk2
              obtain ⟨b, hb⟩ : ∃ b : Nat, x.right = b := ⟨_, (Int.toNat_of_nonneg hr.2.2.1).symm⟩
              have hrb : x.right.toNat = b := by omega
              refine AW.regN tiOk (fun i => if i = 7 then [2] else []) [1, 2] (fun _ h => h) ?_
              intro k hk; simp -dsimp (maxSteps := 2000000) [go_sem, -decide_eq_true_eq, -decide_eq_false_iff_not, hx, hxA, hb]
              repeat' (first | refine And.intro ?_ ?_ | refine hk _ ?_ | intro hg | (refine CallK.intro (iho a (by omega) _ ho) ?_; simp -dsimp (maxSteps := 2000000) [go_sem, -decide_eq_true_eq, -decide_eq_false_iff_not, hx, hxA, hb]) | (refine CallK.intro (iho b (by omega) _ hwa) ?_; simp -dsimp (maxSteps := 2000000) [go_sem, -decide_eq_true_eq, -decide_eq_false_iff_not, hx, hxA, hb]) | omega | exact True.intro)
              all_goals clear hk k
              try (have hwb := wkF_len (e := e) (i := b) hwa (by omega))
              refine AW.reg tiOk (fun _ => []) [6] ?_
              intro k hk; simp -dsimp [go_sem, -decide_eq_true_eq, -decide_eq_false_iff_not, hx, hxA]
              repeat' (first | refine And.intro ?_ ?_ | refine hk _ ?_ | intro hg | omega | exact True.intro)
              all_goals clear hk k
              refine AW.retF (ow := [1000]) (muts := []) ?_ (fun h => And.intro (.inr rfl) h)
              rw [wkF_eq hP hi]; (try (first | rw [if_neg (show ¬ 16 < out.length by omega)] | rw [if_pos (show 16 < out.length by omega)])); simp [go_sem, Try.results133, *] <;> first | (intro h9; omega) | (simp_all; done) | omega | grind)
          · intro hc; try simp at hc
            all_goals try (exfalso; first | omega | (have hk9 := inR_iff.1 hc; omega); done)
            all_goals (
              refine AW.skipN (fun _ h => h) ?_
              try (have hwb := wkF_len (e := e) (i := b) hwa (by omega))
              refine AW.reg tiOk (fun _ => []) [6] ?_
              intro k hk; simp -dsimp [go_sem, -decide_eq_true_eq, -decide_eq_false_iff_not, hx, hxA]
              repeat' (first | refine And.intro ?_ ?_ | refine hk _ ?_ | intro hg | omega | exact True.intro)
              all_goals clear hk k
              refine AW.retF (ow := [1000]) (muts := []) ?_ (fun h => And.intro (.inr rfl) h)
              rw [wkF_eq hP hi]; (try (first | rw [if_neg (show ¬ 16 < out.length by omega)] | rw [if_pos (show 16 < out.length by omega)])); simp [go_sem, Try.results133, *] <;> first | (intro h9; omega) | (simp_all; done) | omega | grind)))
theorem dc_spec_l3Walk (e : List TNode) (hP : PartsOk e e.length) (h16 : e.length ≤ 16) : ∀ (m i : Nat), i ≤ m → i < e.length → DC Try.prog 133 [.isl 4 (e.map TNode.ro), .int .i64 ((i : Nat) : Int), .nils] (.osl 1 ((wkF e i []).map N1)) [] ∧ ∀ out : List Nat, out.length ≤ 40 → DC Try.prog 133 [.isl 4 (e.map TNode.ro), .int .i64 ((i : Nat) : Int), .osl 1 (out.map N1)] (.osl 1 ((wkF e i out).map N1)) [] := by
  intro m
  induction m with
  | zero =>
    intro i hm hi
    have h1 : ∀ j : Nat, j < i → False := fun j hj => by omega
    exact ⟨dc_spec_l3Walk_n e hP h16 i hi (fun j hj => (h1 j hj).elim) (fun j hj => (h1 j hj).elim), fun out ho => dc_spec_l3Walk_o e hP h16 i hi out ho (fun j hj => (h1 j hj).elim) (fun j hj => (h1 j hj).elim)⟩
  | succ m ih =>
    intro i hm hi
    have h1 : ∀ j : Nat, j < i → _ := fun j hj => ih j (by omega) (by omega)
    exact ⟨dc_spec_l3Walk_n e hP h16 i hi (fun j hj => (h1 j hj).1) (fun j hj => (h1 j hj).2), fun out ho => dc_spec_l3Walk_o e hP h16 i hi out ho (fun j hj => (h1 j hj).1) (fun j hj => (h1 j hj).2)⟩
theorem dc_spec_l3Walk_nil (e : List TNode) (hP : PartsOk e e.length) (h16 : e.length ≤ 16) (i : Nat) (hi : i < e.length) : DC Try.prog 133 [.isl 4 (e.map TNode.ro), .int .i64 ((i : Nat) : Int), .nils] (.osl 1 ((wkF e i []).map N1)) [] := (dc_spec_l3Walk e hP h16 i i (Nat.le_refl _) hi).1

end Go.AM

