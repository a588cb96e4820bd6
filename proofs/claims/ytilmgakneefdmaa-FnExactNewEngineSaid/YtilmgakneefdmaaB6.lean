/- Joined texts: F4 F6 F8 G8 G9 Ga H4 H5 K2 Q9 T4 T5 T6 Qa Ps Pq. -/
import Derived.Test.YtilmgakneefdmaaB1
import Derived.Test.YtilmgakneefdmaaB2
import Derived.Test.YtilmgakneefdmaaB3
import Derived.Test.YtilmgakneefdmaaB4
import Derived.Test.YtilmgakneefdmaaB5
set_option linter.unusedVariables false
set_option linter.unusedSimpArgs false
/-! ### F4 -/
set_option linter.unusedVariables false
set_option linter.unusedSimpArgs false
namespace Go.AM
open Go.Proofs

set_option maxHeartbeats 600000 in
set_option linter.unusedSimpArgs false in
set_option maxRecDepth 100000 in
/-- spec.l3Fault -/
theorem dc_spec_l3Fault (e : List TNode) (he : e.length ≤ 9223372036854775807) : DC Try.prog 122 [.isl 4 (e.map TNode.ro)] (.int .i64 (exprF e)) [] := by
  refine DC.intro tiOk Try.func122 rfl rfl rfl rfl rfl rfl rfl rfl [] ?_
  refine AW.reg tiOk (fun _ => []) [0] ?_
  intro k hk; simp -dsimp [go_sem, -decide_eq_true_eq, -decide_eq_false_iff_not]
  repeat' (first | refine And.intro ?_ ?_ | refine hk _ ?_ | intro hg | omega | exact True.intro)
  all_goals clear hk k
  refine AW.seq ?_
  refine AW.cut ⟨51, [(0, .isl 4 (e.map TNode.ro)), (14, .bool (decide (e.length < 1 ∨ 16 < e.length)))], []⟩ ?_ ?_
  · skip
    refine AW.regK tiOk (fun _ => []) ?_
    intro k hk; simp +contextual -dsimp (maxSteps := 2000000) [go_sem, -decide_eq_true_eq, -decide_eq_false_iff_not]
    repeat' (first | refine And.intro ?_ ?_ | refine hk _ ?_ | (intro hg; try simp only [decide_eq_true_eq, decide_eq_false_iff_not] at hg) | omega | exact True.intro)
    all_goals clear hk k
    all_goals (show St.Less _ _; exact Less.of rfl (by simp [go_sem, -Nat.lt_one_iff, -List.length_eq_zero_iff] <;> first | omega | grind) (by simp [go_sem]))
  · skip
    refine AW.cond rfl ?_ ?_
    · intro hc; try simp at hc
      all_goals (
        refine AW.reg tiOk (fun _ => []) [2] ?_
        intro k hk; simp -dsimp [go_sem, -decide_eq_true_eq, -decide_eq_false_iff_not]
        repeat' (first | refine And.intro ?_ ?_ | refine hk _ ?_ | intro hg | omega | exact True.intro)
        all_goals clear hk k
        refine AW.retF (ow := []) (muts := []) ?_ (fun h => And.intro (.inr rfl) h)
        first | (rw [exprF_len' (by simpa using hc)]; simp [go_sem, Try.results122]; done) | (rw [exprF_node hR hlt hall (by rw [hxn]; assumption), hxn]; simp [go_sem, Try.results122]; done) | (rw [exprF_wk hR hN, if_neg (wk_ne_len (by first | assumption | omega))]; simp [go_sem, Try.results122]; done) | (rw [exprF_wk hR hN, if_neg (wk_ne_at hy (by first | assumption | omega))]; simp [go_sem, Try.results122]; done) | (rw [exprF_wk hR hN, if_pos (wk_eq (by first | assumption | omega) (fun k hk => hal2 k (by omega)))]; simp [go_sem, Try.results122]))
    · intro hc; try simp at hc
      all_goals (
        refine AW.skipN (fun _ h => h) ?_
        refine AW.seq ?_
        have hlen : 1 ≤ e.length ∧ e.length ≤ 16 := by obtain ⟨h8, h9⟩ := hc; have : e.length ≠ 0 := (fun h => h8 (List.length_eq_zero_iff.1 h)); omega
        have hR : inR e.length 1 16 = true := inR_iff.2 (by omega)
        refine AW.reg tiOk (fun _ => []) [0, 3] ?_
        intro k hk; simp -dsimp [go_sem, -decide_eq_true_eq, -decide_eq_false_iff_not]
        repeat' (first | refine And.intro ?_ ?_ | refine hk _ ?_ | intro hg | omega | exact True.intro)
        all_goals clear hk k
        refine AW.block ?_
        -- live at the loop's head: [0, 3]
        refine AW.loopI (fun i : Nat => ⟨51, [(0, .isl 4 (e.map TNode.ro)), (3, .int .i64 i)], []⟩) (fun i => i ≤ e.length ∧ ∀ k, k < i → nodeAt e k = 0) (fun i => e.length - i) (0) (by simp) (Less.of rfl (by simp [go_sem]) (by simp [go_sem])) ?_
        rintro i ⟨hi, hall⟩
        refine AW.seq ?_
        refine AW.reg tiOk (fun _ => []) [0, 3, 18] ?_
        intro k hk; simp -dsimp [go_sem, -decide_eq_true_eq, -decide_eq_false_iff_not]
        repeat' (first | refine And.intro ?_ ?_ | refine hk _ ?_ | intro hg | omega | exact True.intro)
        all_goals clear hk k
        refine AW.cond rfl ?_ ?_
        · intro hc; try simp at hc
          all_goals (
            have hlt : i < e.length := by assumption
            obtain ⟨x, hx⟩ := at_some hlt
            have hxn := nodeAt_at hx
            refine AW.skipN (fun _ h => h) ?_
            refine AW.seq ?_
            refine AW.block ?_
            refine AW.reg tiOk (fun _ => []) [0, 3, 4] ?_
            intro k hk; simp -dsimp (maxSteps := 2000000) [go_sem, -decide_eq_true_eq, -decide_eq_false_iff_not, hx]
            repeat' (first | refine And.intro ?_ ?_ | refine hk _ ?_ | intro hg | (refine CallK.intro (dc_spec_l3Node x i (by omega)) ?_; simp -dsimp (maxSteps := 2000000) [go_sem, -decide_eq_true_eq, -decide_eq_false_iff_not, hx]) | omega | exact True.intro)
            all_goals clear hk k
            refine AW.reg tiOk (fun _ => []) [0, 3, 4, 27] ?_
            intro k hk; simp -dsimp [go_sem, -decide_eq_true_eq, -decide_eq_false_iff_not, hx]
            repeat' (first | refine And.intro ?_ ?_ | refine hk _ ?_ | intro hg | omega | exact True.intro)
            all_goals clear hk k
            refine AW.cond rfl ?_ ?_
            · intro hc; try simp at hc
              all_goals (
                refine AW.reg tiOk (fun _ => []) [2] ?_
                intro k hk; simp -dsimp [go_sem, -decide_eq_true_eq, -decide_eq_false_iff_not, hx]
                repeat' (first | refine And.intro ?_ ?_ | refine hk _ ?_ | intro hg | omega | exact True.intro)
                all_goals clear hk k
                refine AW.retF (ow := []) (muts := []) ?_ (fun h => And.intro (.inr rfl) h)
                first | (rw [exprF_len' (by simpa using hc)]; simp [go_sem, Try.results122]; done) | (rw [exprF_node hR hlt hall (by rw [hxn]; assumption), hxn]; simp [go_sem, Try.results122]; done) | (rw [exprF_wk hR hN, if_neg (wk_ne_len (by first | assumption | omega))]; simp [go_sem, Try.results122]; done) | (rw [exprF_wk hR hN, if_neg (wk_ne_at hy (by first | assumption | omega))]; simp [go_sem, Try.results122]; done) | (rw [exprF_wk hR hN, if_pos (wk_eq (by first | assumption | omega) (fun k hk => hal2 k (by omega)))]; simp [go_sem, Try.results122]))
            · intro hc; try simp at hc
              all_goals (
                refine AW.skipN (fun _ h => h) ?_
                refine AW.regK tiOk (fun _ => []) ?_
                intro k hk; simp -dsimp [go_sem, -decide_eq_true_eq, -decide_eq_false_iff_not, hx]
                repeat' (first | refine And.intro ?_ ?_ | refine hk _ ?_ | intro hg | omega | exact True.intro)
                all_goals clear hk k
                show ∃ _, _
                have hw := wrapi hlt (by omega)
                refine ⟨i + 1, ⟨by omega, upto hall (by rw [hxn]; first | assumption | simpa using hc)⟩, by omega, Less.of rfl (by simp [go_sem, hw]) (by simp [go_sem])⟩))
        · intro hc; try simp at hc
          all_goals (
            refine AW.exitN (fun _ h => h) ?_
            have hN : ∀ k, k < e.length → nodeAt e k = 0 := fun k hk => hall k (by omega)
            have hP : PartsOk e e.length := hN
            have hwl : IntKind.wrap .i64 ((e.length : Int) - 1) = ((e.length - 1 : Nat) : Int) := by rw [wrap64 (by omega) (by omega)]; omega
            have hwk := wkF_len (e := e) (i := e.length - 1) (out := []) (by simp) (by omega)
            refine AW.reg tiOk (fun _ => []) [0, 5] ?_
            intro k hk; simp -dsimp (maxSteps := 2000000) [go_sem, -decide_eq_true_eq, -decide_eq_false_iff_not, hwl]
            repeat' (first | refine And.intro ?_ ?_ | refine hk _ ?_ | intro hg | (refine CallK.intro (dc_spec_l3Walk_nil e hP (by omega) (e.length - 1) (by omega)) ?_; simp -dsimp (maxSteps := 2000000) [go_sem, -decide_eq_true_eq, -decide_eq_false_iff_not, hwl]) | omega | exact True.intro)
            all_goals clear hk k
            refine AW.seq ?_
            refine AW.reg tiOk (fun _ => []) [5, 38] ?_
            intro k hk; simp -dsimp [go_sem, -decide_eq_true_eq, -decide_eq_false_iff_not]
            repeat' (first | refine And.intro ?_ ?_ | refine hk _ ?_ | intro hg | omega | exact True.intro)
            all_goals clear hk k
            refine AW.cond rfl ?_ ?_
            · intro hc; try simp at hc
              all_goals (
                refine AW.reg tiOk (fun _ => []) [2] ?_
                intro k hk; simp -dsimp [go_sem, -decide_eq_true_eq, -decide_eq_false_iff_not]
                repeat' (first | refine And.intro ?_ ?_ | refine hk _ ?_ | intro hg | omega | exact True.intro)
                all_goals clear hk k
                refine AW.retF (ow := []) (muts := []) ?_ (fun h => And.intro (.inr rfl) h)
                first | (rw [exprF_len' (by simpa using hc)]; simp [go_sem, Try.results122]; done) | (rw [exprF_node hR hlt hall (by rw [hxn]; assumption), hxn]; simp [go_sem, Try.results122]; done) | (rw [exprF_wk hR hN, if_neg (wk_ne_len (by first | assumption | omega))]; simp [go_sem, Try.results122]; done) | (rw [exprF_wk hR hN, if_neg (wk_ne_at hy (by first | assumption | omega))]; simp [go_sem, Try.results122]; done) | (rw [exprF_wk hR hN, if_pos (wk_eq (by first | assumption | omega) (fun k hk => hal2 k (by omega)))]; simp [go_sem, Try.results122]))
            · intro hc; try simp at hc
              all_goals (
                refine AW.skipN (fun _ h => h) ?_
                refine AW.seq ?_
                refine AW.reg tiOk (fun _ => []) [5, 6] ?_
                intro k hk; simp -dsimp [go_sem, -decide_eq_true_eq, -decide_eq_false_iff_not]
                repeat' (first | refine And.intro ?_ ?_ | refine hk _ ?_ | intro hg | omega | exact True.intro)
                all_goals clear hk k
                refine AW.block ?_
                -- live at the loop's head: [5, 6]
                refine AW.loopI (fun i : Nat => ⟨51, [(5, .sl 1033 1 0 (wkF e (e.length - 1) []).length), (6, .int .i64 i)], [(1033, some ⟨1, (wkF e (e.length - 1) []).map N1⟩)]⟩) (fun i => i ≤ (wkF e (e.length - 1) []).length ∧ ∀ k, k < i → (wkF e (e.length - 1) [])[k]? = some k) (fun i => (wkF e (e.length - 1) []).length - i) (0) (by simp) (Less.of rfl (by simp [go_sem]) (by simp [go_sem])) ?_
                rintro i ⟨hi2, hal2⟩
                refine AW.seq ?_
                refine AW.reg tiOk (fun _ => []) [5, 6, 42] ?_
                intro k hk; simp -dsimp [go_sem, -decide_eq_true_eq, -decide_eq_false_iff_not]
                repeat' (first | refine And.intro ?_ ?_ | refine hk _ ?_ | intro hg | omega | exact True.intro)
                all_goals clear hk k
                refine AW.cond rfl ?_ ?_
                · intro hc; try simp at hc
                  all_goals (
                    have hlt2 : i < (wkF e (e.length - 1) []).length := by assumption
                    obtain ⟨y, hy⟩ := at_some hlt2
                    refine AW.skipN (fun _ h => h) ?_
                    refine AW.seq ?_
                    refine AW.block ?_
                    refine AW.reg tiOk (fun _ => []) [5, 6, 50] ?_
                    intro k hk; simp -dsimp [go_sem, -decide_eq_true_eq, -decide_eq_false_iff_not, hy]
                    repeat' (first | refine And.intro ?_ ?_ | refine hk _ ?_ | intro hg | omega | exact True.intro)
                    all_goals clear hk k
                    refine AW.cond rfl ?_ ?_
                    · intro hc; try simp at hc
                      all_goals (
                        refine AW.reg tiOk (fun _ => []) [2] ?_
                        intro k hk; simp -dsimp [go_sem, -decide_eq_true_eq, -decide_eq_false_iff_not, hy]
                        repeat' (first | refine And.intro ?_ ?_ | refine hk _ ?_ | intro hg | omega | exact True.intro)
                        all_goals clear hk k
                        refine AW.retF (ow := []) (muts := []) ?_ (fun h => And.intro (.inr rfl) h)
                        first | (rw [exprF_len' (by simpa using hc)]; simp [go_sem, Try.results122]; done) | (rw [exprF_node hR hlt hall (by rw [hxn]; assumption), hxn]; simp [go_sem, Try.results122]; done) | (rw [exprF_wk hR hN, if_neg (wk_ne_len (by first | assumption | omega))]; simp [go_sem, Try.results122]; done) | (rw [exprF_wk hR hN, if_neg (wk_ne_at hy (by first | assumption | omega))]; simp [go_sem, Try.results122]; done) | (rw [exprF_wk hR hN, if_pos (wk_eq (by first | assumption | omega) (fun k hk => hal2 k (by omega)))]; simp [go_sem, Try.results122]))
                    · intro hc; try simp at hc
                      all_goals (
                        refine AW.skipN (fun _ h => h) ?_
                        refine AW.regK tiOk (fun _ => []) ?_
                        intro k hk; simp -dsimp [go_sem, -decide_eq_true_eq, -decide_eq_false_iff_not, hy]
                        repeat' (first | refine And.intro ?_ ?_ | refine hk _ ?_ | intro hg | omega | exact True.intro)
                        all_goals clear hk k
                        show ∃ _, _
                        have hw := wrapi hlt2 (by omega)
                        refine ⟨i + 1, ⟨by omega, upto_at hal2 hy (by first | assumption | omega)⟩, by omega, Less.of rfl (by simp [go_sem, hw]) (by simp [go_sem])⟩))
                · intro hc; try simp at hc
                  all_goals (
                    refine AW.exitN (fun _ h => h) ?_
                    refine AW.reg tiOk (fun _ => []) [2] ?_
                    intro k hk; simp -dsimp [go_sem, -decide_eq_true_eq, -decide_eq_false_iff_not]
                    repeat' (first | refine And.intro ?_ ?_ | refine hk _ ?_ | intro hg | omega | exact True.intro)
                    all_goals clear hk k
                    refine AW.retF (ow := []) (muts := []) ?_ (fun h => And.intro (.inr rfl) h)
                    first | (rw [exprF_len' (by simpa using hc)]; simp [go_sem, Try.results122]; done) | (rw [exprF_node hR hlt hall (by rw [hxn]; assumption), hxn]; simp [go_sem, Try.results122]; done) | (rw [exprF_wk hR hN, if_neg (wk_ne_len (by first | assumption | omega))]; simp [go_sem, Try.results122]; done) | (rw [exprF_wk hR hN, if_neg (wk_ne_at hy (by first | assumption | omega))]; simp [go_sem, Try.results122]; done) | (rw [exprF_wk hR hN, if_pos (wk_eq (by first | assumption | omega) (fun k hk => hal2 k (by omega)))]; simp [go_sem, Try.results122])))))

end Go.AM

/-! ### F6 -/
set_option linter.unusedVariables false
set_option linter.unusedSimpArgs false
namespace Go.AM
open Go.Proofs

set_option maxHeartbeats 600000 in
set_option linter.unusedSimpArgs false in
set_option maxRecDepth 100000 in
/-- spec.l3Types -/
theorem dc_spec_l3Types_b (e : List TNode) (hP : PartsOk e e.length) (hlen : e.length ≤ 16) (hub : typU e e.length = true) : DC Try.prog 134 [.isl 4 (e.map TNode.ro)] (.tup [.nils, .bool false]) [] := by
  refine DC.intro tiOk Try.func134 rfl rfl rfl rfl rfl rfl rfl rfl [1001] ?_
  refine AW.reg tiOk (fun _ => []) [0] ?_
  intro k hk; simp -dsimp [go_sem, -decide_eq_true_eq, -decide_eq_false_iff_not]
  repeat' (first | refine And.intro ?_ ?_ | refine hk _ ?_ | intro hg | omega | exact True.intro | (have h9 := hr (by assumption); omega) | fail)
  all_goals clear hk k
  refine AW.reg tiOk (fun _ => []) [0, 4] ?_
  intro k hk; simp -dsimp [go_sem, -decide_eq_true_eq, -decide_eq_false_iff_not]
  repeat' (first | refine And.intro ?_ ?_ | refine hk _ ?_ | intro hg | omega | exact True.intro | (have h9 := hr (by assumption); omega) | fail)
  all_goals clear hk k
  refine AW.seq ?_
  refine AW.reg tiOk (fun _ => []) [0, 4, 5] ?_
  intro k hk; simp -dsimp [go_sem, -decide_eq_true_eq, -decide_eq_false_iff_not]
  repeat' (first | refine And.intro ?_ ?_ | refine hk _ ?_ | intro hg | omega | exact True.intro | (have h9 := hr (by assumption); omega) | fail)
  all_goals clear hk k
  refine AW.block ?_
  -- live at the loop's head: [0, 4, 5]
  refine AW.rename (nd := ?nd_1) 9 60 ?h1_1 ?h2_1 ?h4_1 ?kk_1
  (case h1_1 => exact rfl)
  (case h2_1 => simp [go_sem])
  (case h4_1 => simp [go_sem])
  refine AW.loopI (fun i : Nat => ⟨62, [(0, .isl 4 (e.map TNode.ro)), (4, .sl 60 1 0 i), (5, .int .i64 i)], [(60, some ⟨1, (typesL e i).map I1⟩)]⟩) (fun i => i ≤ e.length ∧ typU e i = false) (fun i => e.length - i) (0) (by simp [typU]) (Less.of rfl (by simp [go_sem]) (by simp [go_sem, typesL])) ?_
  rintro i ⟨hi, hu⟩
  refine AW.rename (nd := ?nd_2) 60 9 ?h1_2 ?h2_2 ?h4_2 ?kk_2
  (case h1_2 => exact rfl)
  (case h2_2 => simp [go_sem])
  (case h4_2 => simp [go_sem])
  refine AW.seq ?_
  refine AW.reg tiOk (fun _ => []) [0, 4, 5, 13] ?_
  intro k hk; simp -dsimp [go_sem, -decide_eq_true_eq, -decide_eq_false_iff_not]
  repeat' (first | refine And.intro ?_ ?_ | refine hk _ ?_ | intro hg | omega | exact True.intro | (have h9 := hr (by assumption); omega) | fail)
  all_goals clear hk k
  refine AW.cond rfl ?_ ?_
  · intro hc; try simp at hc
    all_goals try (exfalso; omega; done)
    all_goals (
      have hlt : i < e.length := by assumption
      obtain ⟨x, hx⟩ := at_some hlt
      have hxA := nA_at hx
      have hpx := hP i hlt
      rw [nodeAt_at hx] at hpx
      have hq := nodeF_parts hpx
      have hl : 2 < x.kind → 0 ≤ x.left ∧ x.left.toNat < i := left_of hpx
      have hr := hq.2.1
      have htl := typesL_len e i
      have htk : List.take i ((typesL e i).map I1) = (typesL e i).map I1 := List.take_of_length_le (by simp [htl])
      have hsA : decide (2 < x.kind) = true → (typesL e i)[x.left.toNat]? = some (ownT (nA e x.left.toNat).kind) := fun h => typesL_at (hl (by simpa using h)).2
      have hsB : isTwoB x.kind = true → (typesL e i)[x.right.toNat]? = some (ownT (nA e x.right.toNat).kind) := fun h => typesL_at (hr h).2.2.2
      refine AW.skipN (fun _ h => h) ?_
      refine AW.seq ?_
      refine AW.block ?_
      refine AW.reg tiOk (fun _ => []) [0, 4, 5, 6] ?_
      intro k hk; simp -dsimp [go_sem, -decide_eq_true_eq, -decide_eq_false_iff_not, hx, htl, hsA, hsB]
      repeat' (first | refine And.intro ?_ ?_ | refine hk _ ?_ | intro hg | omega | exact True.intro | (have h9 := hr (by assumption); omega) | fail)
      all_goals clear hk k
      refine AW.reg tiOk (fun _ => []) [0, 4, 5, 6, 7] ?_
      intro k hk; simp -dsimp [go_sem, -decide_eq_true_eq, -decide_eq_false_iff_not, hx, htl, hsA, hsB]
      repeat' (first | refine And.intro ?_ ?_ | refine hk _ ?_ | intro hg | omega | exact True.intro | (have h9 := hr (by assumption); omega) | fail)
      all_goals clear hk k
      refine AW.reg tiOk (fun _ => []) [0, 4, 5, 6, 7, 8] ?_
      intro k hk; simp -dsimp [go_sem, -decide_eq_true_eq, -decide_eq_false_iff_not, hx, htl, hsA, hsB]
      repeat' (first | refine And.intro ?_ ?_ | refine hk _ ?_ | intro hg | omega | exact True.intro | (have h9 := hr (by assumption); omega) | fail)
      all_goals clear hk k
      refine AW.seq ?_
      refine AW.cut ⟨62, [(0, .isl 4 (e.map TNode.ro)), (4, .sl 9 1 0 i), (5, .int .i64 i), (6, .ptr 6 4 0 0), (7, .int .i64 1), (8, .int .i64 1), (27, .bool (decide (x.kind = 9 ∨ x.kind = 10)))], [(6, some ⟨4, [x.ro]⟩), (9, some ⟨1, (typesL e i).map I1⟩)]⟩ ?_ ?_
      · skip
        refine AW.regK tiOk (fun _ => []) ?_
        intro k hk; simp +contextual -dsimp (maxSteps := 2000000) [go_sem, -decide_eq_true_eq, -decide_eq_false_iff_not, hx, htl, hsA, hsB]
        repeat' (first | refine And.intro ?_ ?_ | refine hk _ ?_ | (intro hg; try simp only [decide_eq_true_eq, decide_eq_false_iff_not] at hg) | omega | exact True.intro | (have h9 := hr (by assumption); omega) | fail)
        all_goals clear hk k
        all_goals (show St.Less _ _; exact Less.of rfl (by simp [go_sem] <;> first | omega | grind) (by simp [go_sem]))
      · skip
        refine AW.cond rfl ?_ ?_
        · intro hc; try simp at hc
          all_goals try (exfalso; omega; done)
          all_goals (
            have hk9 : x.kind = 9 ∨ x.kind = 10 := by simpa using hc
            refine AW.regN tiOk (fun _ => []) [0, 4, 5, 6, 7, 8] (fun _ h => h) ?_
            intro k hk; simp -dsimp [go_sem, -decide_eq_true_eq, -decide_eq_false_iff_not, hx, htl, hsA, hsB]
            repeat' (first | refine And.intro ?_ ?_ | refine hk _ ?_ | intro hg | omega | exact True.intro | (have h9 := hr (by assumption); omega) | fail)
            all_goals clear hk k
            refine AW.seq ?_
            refine AW.reg tiOk (fun _ => []) [0, 4, 5, 6, 7, 8, 30] ?_
            intro k hk; simp -dsimp [go_sem, -decide_eq_true_eq, -decide_eq_false_iff_not, hx, htl, hsA, hsB]
            repeat' (first | refine And.intro ?_ ?_ | refine hk _ ?_ | intro hg | omega | exact True.intro | (have h9 := hr (by assumption); omega) | fail)
            all_goals clear hk k
            refine AW.cond rfl ?_ ?_
            · intro hc; try simp at hc
              all_goals try (exfalso; omega; done)
              all_goals (
                refine AW.regN tiOk (fun _ => []) [0, 4, 5, 6, 7, 8] (fun _ h => h) ?_
                intro k hk; simp -dsimp [go_sem, -decide_eq_true_eq, -decide_eq_false_iff_not, hx, htl, hsA, hsB]
                repeat' (first | refine And.intro ?_ ?_ | refine hk _ ?_ | intro hg | omega | exact True.intro | (have h9 := hr (by assumption); omega) | fail)
                all_goals clear hk k
                refine AW.seq ?_
                have hpt : partT x.kind = _ := rfl
                refine AW.cut ⟨62, [(0, .isl 4 (e.map TNode.ro)), (4, .sl 9 1 0 i), (5, .int .i64 i), (8, .int .i64 (ownT x.kind)), (56, .bool (typBad e i))], [(9, some ⟨1, (typesL e i).map I1⟩)]⟩ ?_ ?_
                · skip
                  refine AW.regK tiOk (fun _ => []) ?_
                  intro k hk; simp +contextual -dsimp (maxSteps := 2000000) [go_sem, -decide_eq_true_eq, -decide_eq_false_iff_not, hx, htl, hsA, hsB]
                  repeat' (first | refine And.intro ?_ ?_ | refine hk _ ?_ | (intro hg; try simp only [decide_eq_true_eq, decide_eq_false_iff_not] at hg) | (refine CallK.intro (dc_spec_l3Two _) ?_; simp +contextual -dsimp (maxSteps := 2000000) [go_sem, -decide_eq_true_eq, -decide_eq_false_iff_not, hx, htl, hsA, hsB]) | omega | exact True.intro | (have h9 := hr (by assumption); omega) | fail)
                  all_goals clear hk k
                  all_goals (show St.Less _ _; exact Less.of rfl (by simp [go_sem, typBad, hxA] <;> grind [ownT, partT]) (by simp [go_sem]))
                · skip
                  refine AW.cond rfl ?_ ?_
                  · intro hc; try simp at hc
                    all_goals try (exfalso; omega; done)
                    all_goals (
                      refine AW.reg tiOk (fun _ => []) [2, 3] ?_
                      intro k hk; simp -dsimp [go_sem, -decide_eq_true_eq, -decide_eq_false_iff_not, hx, htl, hsA, hsB]
                      repeat' (first | refine And.intro ?_ ?_ | refine hk _ ?_ | intro hg | omega | exact True.intro | (have h9 := hr (by assumption); omega) | fail)
                      all_goals clear hk k
                      refine AW.retF (ow := [1001]) (muts := []) ?_ (fun h => And.intro (.inr rfl) h)
                      first | (simp [go_sem, Try.results134]; done) | (exfalso; have hie : i = e.length := (by omega); rw [hie, hub] at hu; cases hu))
                  · intro hc; try simp at hc
                    all_goals try (exfalso; omega; done)
                    all_goals (
                      refine AW.skipN (fun _ h => h) ?_
                      refine AW.regN tiOk (fun _ => []) [0, 4, 5] (fun _ h => h) ?_
                      intro k hk; simp -dsimp [go_sem, -decide_eq_true_eq, -decide_eq_false_iff_not, hx, htl, hsA, hsB]
                      repeat' (first | refine And.intro ?_ ?_ | refine hk _ ?_ | intro hg | omega | exact True.intro | (have h9 := hr (by assumption); omega) | fail)
                      all_goals clear hk k
                      refine AW.regK tiOk (fun _ => []) ?_
                      intro k hk; simp -dsimp [go_sem, -decide_eq_true_eq, -decide_eq_false_iff_not, hx, htl, hsA, hsB]
                      repeat' (first | refine And.intro ?_ ?_ | refine hk _ ?_ | intro hg | omega | exact True.intro | (have h9 := hr (by assumption); omega) | fail)
                      all_goals clear hk k
                      show ∃ _, _
                      have hw := wrapi hlt (by omega)
                      have hub : typBad e i = false := by simpa using hc
                      refine ⟨i + 1, ⟨by omega, typU_go hu hub⟩, by omega, Less.of rfl (by simp [go_sem, hw]) (by simp [go_sem, typesL_succ, hxA, htk] <;> (unfold ownT; first | omega | (split <;> omega)))⟩))
            · intro hc; try simp at hc
              all_goals try (exfalso; omega; done)
              all_goals (
                refine AW.skipN (fun _ h => h) ?_
                refine AW.seq ?_
                have hpt : partT x.kind = _ := rfl
                refine AW.cut ⟨62, [(0, .isl 4 (e.map TNode.ro)), (4, .sl 9 1 0 i), (5, .int .i64 i), (8, .int .i64 (ownT x.kind)), (56, .bool (typBad e i))], [(9, some ⟨1, (typesL e i).map I1⟩)]⟩ ?_ ?_
                · skip
                  refine AW.regK tiOk (fun _ => []) ?_
                  intro k hk; simp +contextual -dsimp (maxSteps := 2000000) [go_sem, -decide_eq_true_eq, -decide_eq_false_iff_not, hx, htl, hsA, hsB]
                  repeat' (first | refine And.intro ?_ ?_ | refine hk _ ?_ | (intro hg; try simp only [decide_eq_true_eq, decide_eq_false_iff_not] at hg) | (refine CallK.intro (dc_spec_l3Two _) ?_; simp +contextual -dsimp (maxSteps := 2000000) [go_sem, -decide_eq_true_eq, -decide_eq_false_iff_not, hx, htl, hsA, hsB]) | omega | exact True.intro | (have h9 := hr (by assumption); omega) | fail)
                  all_goals clear hk k
                  all_goals (show St.Less _ _; exact Less.of rfl (by simp [go_sem, typBad, hxA] <;> grind [ownT, partT]) (by simp [go_sem]))
                · skip
                  refine AW.cond rfl ?_ ?_
                  · intro hc; try simp at hc
                    all_goals try (exfalso; omega; done)
                    all_goals (
                      refine AW.reg tiOk (fun _ => []) [2, 3] ?_
                      intro k hk; simp -dsimp [go_sem, -decide_eq_true_eq, -decide_eq_false_iff_not, hx, htl, hsA, hsB]
                      repeat' (first | refine And.intro ?_ ?_ | refine hk _ ?_ | intro hg | omega | exact True.intro | (have h9 := hr (by assumption); omega) | fail)
                      all_goals clear hk k
                      refine AW.retF (ow := [1001]) (muts := []) ?_ (fun h => And.intro (.inr rfl) h)
                      first | (simp [go_sem, Try.results134]; done) | (exfalso; have hie : i = e.length := (by omega); rw [hie, hub] at hu; cases hu))
                  · intro hc; try simp at hc
                    all_goals try (exfalso; omega; done)
                    all_goals (
                      refine AW.skipN (fun _ h => h) ?_
                      refine AW.regN tiOk (fun _ => []) [0, 4, 5] (fun _ h => h) ?_
                      intro k hk; simp -dsimp [go_sem, -decide_eq_true_eq, -decide_eq_false_iff_not, hx, htl, hsA, hsB]
                      repeat' (first | refine And.intro ?_ ?_ | refine hk _ ?_ | intro hg | omega | exact True.intro | (have h9 := hr (by assumption); omega) | fail)
                      all_goals clear hk k
                      refine AW.regK tiOk (fun _ => []) ?_
                      intro k hk; simp -dsimp [go_sem, -decide_eq_true_eq, -decide_eq_false_iff_not, hx, htl, hsA, hsB]
                      repeat' (first | refine And.intro ?_ ?_ | refine hk _ ?_ | intro hg | omega | exact True.intro | (have h9 := hr (by assumption); omega) | fail)
                      all_goals clear hk k
                      show ∃ _, _
                      have hw := wrapi hlt (by omega)
                      have hub : typBad e i = false := by simpa using hc
                      refine ⟨i + 1, ⟨by omega, typU_go hu hub⟩, by omega, Less.of rfl (by simp [go_sem, hw]) (by simp [go_sem, typesL_succ, hxA, htk] <;> (unfold ownT; first | omega | (split <;> omega)))⟩)))
        · intro hc; try simp at hc
          all_goals try (exfalso; omega; done)
          all_goals (
            refine AW.skipN (fun _ h => h) ?_
            refine AW.seq ?_
            refine AW.reg tiOk (fun _ => []) [0, 4, 5, 6, 7, 8, 30] ?_
            intro k hk; simp -dsimp [go_sem, -decide_eq_true_eq, -decide_eq_false_iff_not, hx, htl, hsA, hsB]
            repeat' (first | refine And.intro ?_ ?_ | refine hk _ ?_ | intro hg | omega | exact True.intro | (have h9 := hr (by assumption); omega) | fail)
            all_goals clear hk k
            refine AW.cond rfl ?_ ?_
            · intro hc; try simp at hc
              all_goals try (exfalso; omega; done)
              all_goals (
                refine AW.regN tiOk (fun _ => []) [0, 4, 5, 6, 7, 8] (fun _ h => h) ?_
                intro k hk; simp -dsimp [go_sem, -decide_eq_true_eq, -decide_eq_false_iff_not, hx, htl, hsA, hsB]
                repeat' (first | refine And.intro ?_ ?_ | refine hk _ ?_ | intro hg | omega | exact True.intro | (have h9 := hr (by assumption); omega) | fail)
                all_goals clear hk k
                refine AW.seq ?_
                have hpt : partT x.kind = _ := rfl
                refine AW.cut ⟨62, [(0, .isl 4 (e.map TNode.ro)), (4, .sl 9 1 0 i), (5, .int .i64 i), (8, .int .i64 (ownT x.kind)), (56, .bool (typBad e i))], [(9, some ⟨1, (typesL e i).map I1⟩)]⟩ ?_ ?_
                · skip
                  refine AW.regK tiOk (fun _ => []) ?_
                  intro k hk; simp +contextual -dsimp (maxSteps := 2000000) [go_sem, -decide_eq_true_eq, -decide_eq_false_iff_not, hx, htl, hsA, hsB]
                  repeat' (first | refine And.intro ?_ ?_ | refine hk _ ?_ | (intro hg; try simp only [decide_eq_true_eq, decide_eq_false_iff_not] at hg) | (refine CallK.intro (dc_spec_l3Two _) ?_; simp +contextual -dsimp (maxSteps := 2000000) [go_sem, -decide_eq_true_eq, -decide_eq_false_iff_not, hx, htl, hsA, hsB]) | omega | exact True.intro | (have h9 := hr (by assumption); omega) | fail)
                  all_goals clear hk k
                  all_goals (show St.Less _ _; exact Less.of rfl (by simp [go_sem, typBad, hxA] <;> grind [ownT, partT]) (by simp [go_sem]))
                · skip
                  refine AW.cond rfl ?_ ?_
                  · intro hc; try simp at hc
                    all_goals try (exfalso; omega; done)
                    all_goals (
                      refine AW.reg tiOk (fun _ => []) [2, 3] ?_
                      intro k hk; simp -dsimp [go_sem, -decide_eq_true_eq, -decide_eq_false_iff_not, hx, htl, hsA, hsB]
                      repeat' (first | refine And.intro ?_ ?_ | refine hk _ ?_ | intro hg | omega | exact True.intro | (have h9 := hr (by assumption); omega) | fail)
                      all_goals clear hk k
                      refine AW.retF (ow := [1001]) (muts := []) ?_ (fun h => And.intro (.inr rfl) h)
                      first | (simp [go_sem, Try.results134]; done) | (exfalso; have hie : i = e.length := (by omega); rw [hie, hub] at hu; cases hu))
                  · intro hc; try simp at hc
                    all_goals try (exfalso; omega; done)
                    all_goals (
                      refine AW.skipN (fun _ h => h) ?_
                      refine AW.regN tiOk (fun _ => []) [0, 4, 5] (fun _ h => h) ?_
                      intro k hk; simp -dsimp [go_sem, -decide_eq_true_eq, -decide_eq_false_iff_not, hx, htl, hsA, hsB]
                      repeat' (first | refine And.intro ?_ ?_ | refine hk _ ?_ | intro hg | omega | exact True.intro | (have h9 := hr (by assumption); omega) | fail)
                      all_goals clear hk k
                      refine AW.regK tiOk (fun _ => []) ?_
                      intro k hk; simp -dsimp [go_sem, -decide_eq_true_eq, -decide_eq_false_iff_not, hx, htl, hsA, hsB]
                      repeat' (first | refine And.intro ?_ ?_ | refine hk _ ?_ | intro hg | omega | exact True.intro | (have h9 := hr (by assumption); omega) | fail)
                      all_goals clear hk k
                      show ∃ _, _
                      have hw := wrapi hlt (by omega)
                      have hub : typBad e i = false := by simpa using hc
                      refine ⟨i + 1, ⟨by omega, typU_go hu hub⟩, by omega, Less.of rfl (by simp [go_sem, hw]) (by simp [go_sem, typesL_succ, hxA, htk] <;> (unfold ownT; first | omega | (split <;> omega)))⟩))
            · intro hc; try simp at hc
              all_goals try (exfalso; omega; done)
              all_goals (
                refine AW.skipN (fun _ h => h) ?_
                refine AW.seq ?_
                have hpt : partT x.kind = _ := rfl
                refine AW.cut ⟨62, [(0, .isl 4 (e.map TNode.ro)), (4, .sl 9 1 0 i), (5, .int .i64 i), (8, .int .i64 (ownT x.kind)), (56, .bool (typBad e i))], [(9, some ⟨1, (typesL e i).map I1⟩)]⟩ ?_ ?_
                · skip
                  refine AW.regK tiOk (fun _ => []) ?_
                  intro k hk; simp +contextual -dsimp (maxSteps := 2000000) [go_sem, -decide_eq_true_eq, -decide_eq_false_iff_not, hx, htl, hsA, hsB]
                  repeat' (first | refine And.intro ?_ ?_ | refine hk _ ?_ | (intro hg; try simp only [decide_eq_true_eq, decide_eq_false_iff_not] at hg) | (refine CallK.intro (dc_spec_l3Two _) ?_; simp +contextual -dsimp (maxSteps := 2000000) [go_sem, -decide_eq_true_eq, -decide_eq_false_iff_not, hx, htl, hsA, hsB]) | omega | exact True.intro | (have h9 := hr (by assumption); omega) | fail)
                  all_goals clear hk k
                  all_goals (show St.Less _ _; exact Less.of rfl (by simp [go_sem, typBad, hxA] <;> grind [ownT, partT]) (by simp [go_sem]))
                · skip
                  refine AW.cond rfl ?_ ?_
                  · intro hc; try simp at hc
                    all_goals try (exfalso; omega; done)
                    all_goals (
                      refine AW.reg tiOk (fun _ => []) [2, 3] ?_
                      intro k hk; simp -dsimp [go_sem, -decide_eq_true_eq, -decide_eq_false_iff_not, hx, htl, hsA, hsB]
                      repeat' (first | refine And.intro ?_ ?_ | refine hk _ ?_ | intro hg | omega | exact True.intro | (have h9 := hr (by assumption); omega) | fail)
                      all_goals clear hk k
                      refine AW.retF (ow := [1001]) (muts := []) ?_ (fun h => And.intro (.inr rfl) h)
                      first | (simp [go_sem, Try.results134]; done) | (exfalso; have hie : i = e.length := (by omega); rw [hie, hub] at hu; cases hu))
                  · intro hc; try simp at hc
                    all_goals try (exfalso; omega; done)
                    all_goals (
                      refine AW.skipN (fun _ h => h) ?_
                      refine AW.regN tiOk (fun _ => []) [0, 4, 5] (fun _ h => h) ?_
                      intro k hk; simp -dsimp [go_sem, -decide_eq_true_eq, -decide_eq_false_iff_not, hx, htl, hsA, hsB]
                      repeat' (first | refine And.intro ?_ ?_ | refine hk _ ?_ | intro hg | omega | exact True.intro | (have h9 := hr (by assumption); omega) | fail)
                      all_goals clear hk k
                      refine AW.regK tiOk (fun _ => []) ?_
                      intro k hk; simp -dsimp [go_sem, -decide_eq_true_eq, -decide_eq_false_iff_not, hx, htl, hsA, hsB]
                      repeat' (first | refine And.intro ?_ ?_ | refine hk _ ?_ | intro hg | omega | exact True.intro | (have h9 := hr (by assumption); omega) | fail)
                      all_goals clear hk k
                      show ∃ _, _
                      have hw := wrapi hlt (by omega)
                      have hub : typBad e i = false := by simpa using hc
                      refine ⟨i + 1, ⟨by omega, typU_go hu hub⟩, by omega, Less.of rfl (by simp [go_sem, hw]) (by simp [go_sem, typesL_succ, hxA, htk] <;> (unfold ownT; first | omega | (split <;> omega)))⟩))))
  · intro hc; try simp at hc
    all_goals try (exfalso; omega; done)
    all_goals (
      refine AW.exitN (fun _ h => h) ?_
      refine AW.reg tiOk (fun _ => []) [2, 3] ?_
      intro k hk; simp -dsimp [go_sem, -decide_eq_true_eq, -decide_eq_false_iff_not]
      repeat' (first | refine And.intro ?_ ?_ | refine hk _ ?_ | intro hg | omega | exact True.intro | (have h9 := hr (by assumption); omega) | fail)
      all_goals clear hk k
      refine AW.retF (ow := [1001]) (muts := []) ?_ (fun h => And.intro (.inr rfl) h)
      first | (simp [go_sem, Try.results134]; done) | (exfalso; have hie : i = e.length := (by omega); rw [hie, hub] at hu; cases hu))

set_option maxHeartbeats 600000 in
set_option linter.unusedSimpArgs false in
set_option maxRecDepth 100000 in
/-- spec.l3Types -/
theorem dc_spec_l3Types_k (e : List TNode) (hP : PartsOk e e.length) (hlen : e.length ≤ 16) (huk : typU e e.length = false) : DC Try.prog 134 [.isl 4 (e.map TNode.ro)] (.tup [.osl 1 ((typesL e e.length).map I1), .bool true]) [] := by
  refine DC.intro tiOk Try.func134 rfl rfl rfl rfl rfl rfl rfl rfl [1001] ?_
  refine AW.reg tiOk (fun _ => []) [0] ?_
  intro k hk; simp -dsimp [go_sem, -decide_eq_true_eq, -decide_eq_false_iff_not]
  repeat' (first | refine And.intro ?_ ?_ | refine hk _ ?_ | intro hg | omega | exact True.intro | (have h9 := hr (by assumption); omega) | fail)
  all_goals clear hk k
  refine AW.reg tiOk (fun _ => []) [0, 4] ?_
  intro k hk; simp -dsimp [go_sem, -decide_eq_true_eq, -decide_eq_false_iff_not]
  repeat' (first | refine And.intro ?_ ?_ | refine hk _ ?_ | intro hg | omega | exact True.intro | (have h9 := hr (by assumption); omega) | fail)
  all_goals clear hk k
  refine AW.seq ?_
  refine AW.reg tiOk (fun _ => []) [0, 4, 5] ?_
  intro k hk; simp -dsimp [go_sem, -decide_eq_true_eq, -decide_eq_false_iff_not]
  repeat' (first | refine And.intro ?_ ?_ | refine hk _ ?_ | intro hg | omega | exact True.intro | (have h9 := hr (by assumption); omega) | fail)
  all_goals clear hk k
  refine AW.block ?_
  -- live at the loop's head: [0, 4, 5]
  refine AW.rename (nd := ?nd_1) 9 60 ?h1_1 ?h2_1 ?h4_1 ?kk_1
  (case h1_1 => exact rfl)
  (case h2_1 => simp [go_sem])
  (case h4_1 => simp [go_sem])
  refine AW.loopI (fun i : Nat => ⟨62, [(0, .isl 4 (e.map TNode.ro)), (4, .sl 60 1 0 i), (5, .int .i64 i)], [(60, some ⟨1, (typesL e i).map I1⟩)]⟩) (fun i => i ≤ e.length ∧ typU e i = false) (fun i => e.length - i) (0) (by simp [typU]) (Less.of rfl (by simp [go_sem]) (by simp [go_sem, typesL])) ?_
  rintro i ⟨hi, hu⟩
  refine AW.rename (nd := ?nd_2) 60 9 ?h1_2 ?h2_2 ?h4_2 ?kk_2
  (case h1_2 => exact rfl)
  (case h2_2 => simp [go_sem])
  (case h4_2 => simp [go_sem])
  refine AW.seq ?_
  refine AW.reg tiOk (fun _ => []) [0, 4, 5, 13] ?_
  intro k hk; simp -dsimp [go_sem, -decide_eq_true_eq, -decide_eq_false_iff_not]
  repeat' (first | refine And.intro ?_ ?_ | refine hk _ ?_ | intro hg | omega | exact True.intro | (have h9 := hr (by assumption); omega) | fail)
  all_goals clear hk k
  refine AW.cond rfl ?_ ?_
  · intro hc; try simp at hc
    all_goals try (exfalso; omega; done)
    all_goals (
      have hlt : i < e.length := by assumption
      obtain ⟨x, hx⟩ := at_some hlt
      have hxA := nA_at hx
      have hpx := hP i hlt
      rw [nodeAt_at hx] at hpx
      have hq := nodeF_parts hpx
      have hl : 2 < x.kind → 0 ≤ x.left ∧ x.left.toNat < i := left_of hpx
      have hr := hq.2.1
      have htl := typesL_len e i
      have htk : List.take i ((typesL e i).map I1) = (typesL e i).map I1 := List.take_of_length_le (by simp [htl])
      have hsA : decide (2 < x.kind) = true → (typesL e i)[x.left.toNat]? = some (ownT (nA e x.left.toNat).kind) := fun h => typesL_at (hl (by simpa using h)).2
      have hsB : isTwoB x.kind = true → (typesL e i)[x.right.toNat]? = some (ownT (nA e x.right.toNat).kind) := fun h => typesL_at (hr h).2.2.2
      refine AW.skipN (fun _ h => h) ?_
      refine AW.seq ?_
      refine AW.block ?_
      refine AW.reg tiOk (fun _ => []) [0, 4, 5, 6] ?_
      intro k hk; simp -dsimp [go_sem, -decide_eq_true_eq, -decide_eq_false_iff_not, hx, htl, hsA, hsB]
      repeat' (first | refine And.intro ?_ ?_ | refine hk _ ?_ | intro hg | omega | exact True.intro | (have h9 := hr (by assumption); omega) | fail)
      all_goals clear hk k
      refine AW.reg tiOk (fun _ => []) [0, 4, 5, 6, 7] ?_
      intro k hk; simp -dsimp [go_sem, -decide_eq_true_eq, -decide_eq_false_iff_not, hx, htl, hsA, hsB]
      repeat' (first | refine And.intro ?_ ?_ | refine hk _ ?_ | intro hg | omega | exact True.intro | (have h9 := hr (by assumption); omega) | fail)
      all_goals clear hk k
      refine AW.reg tiOk (fun _ => []) [0, 4, 5, 6, 7, 8] ?_
      intro k hk; simp -dsimp [go_sem, -decide_eq_true_eq, -decide_eq_false_iff_not, hx, htl, hsA, hsB]
      repeat' (first | refine And.intro ?_ ?_ | refine hk _ ?_ | intro hg | omega | exact True.intro | (have h9 := hr (by assumption); omega) | fail)
      all_goals clear hk k
      refine AW.seq ?_
      refine AW.cut ⟨62, [(0, .isl 4 (e.map TNode.ro)), (4, .sl 9 1 0 i), (5, .int .i64 i), (6, .ptr 6 4 0 0), (7, .int .i64 1), (8, .int .i64 1), (27, .bool (decide (x.kind = 9 ∨ x.kind = 10)))], [(6, some ⟨4, [x.ro]⟩), (9, some ⟨1, (typesL e i).map I1⟩)]⟩ ?_ ?_
      · skip
        refine AW.regK tiOk (fun _ => []) ?_
        intro k hk; simp +contextual -dsimp (maxSteps := 2000000) [go_sem, -decide_eq_true_eq, -decide_eq_false_iff_not, hx, htl, hsA, hsB]
        repeat' (first | refine And.intro ?_ ?_ | refine hk _ ?_ | (intro hg; try simp only [decide_eq_true_eq, decide_eq_false_iff_not] at hg) | omega | exact True.intro | (have h9 := hr (by assumption); omega) | fail)
        all_goals clear hk k
        all_goals (show St.Less _ _; exact Less.of rfl (by simp [go_sem] <;> first | omega | grind) (by simp [go_sem]))
      · skip
        refine AW.cond rfl ?_ ?_
        · intro hc; try simp at hc
          all_goals try (exfalso; omega; done)
          all_goals (
            have hk9 : x.kind = 9 ∨ x.kind = 10 := by simpa using hc
            refine AW.regN tiOk (fun _ => []) [0, 4, 5, 6, 7, 8] (fun _ h => h) ?_
            intro k hk; simp -dsimp [go_sem, -decide_eq_true_eq, -decide_eq_false_iff_not, hx, htl, hsA, hsB]
            repeat' (first | refine And.intro ?_ ?_ | refine hk _ ?_ | intro hg | omega | exact True.intro | (have h9 := hr (by assumption); omega) | fail)
            all_goals clear hk k
            refine AW.seq ?_
            refine AW.reg tiOk (fun _ => []) [0, 4, 5, 6, 7, 8, 30] ?_
            intro k hk; simp -dsimp [go_sem, -decide_eq_true_eq, -decide_eq_false_iff_not, hx, htl, hsA, hsB]
            repeat' (first | refine And.intro ?_ ?_ | refine hk _ ?_ | intro hg | omega | exact True.intro | (have h9 := hr (by assumption); omega) | fail)
            all_goals clear hk k
            refine AW.cond rfl ?_ ?_
            · intro hc; try simp at hc
              all_goals try (exfalso; omega; done)
              all_goals (
                refine AW.regN tiOk (fun _ => []) [0, 4, 5, 6, 7, 8] (fun _ h => h) ?_
                intro k hk; simp -dsimp [go_sem, -decide_eq_true_eq, -decide_eq_false_iff_not, hx, htl, hsA, hsB]
                repeat' (first | refine And.intro ?_ ?_ | refine hk _ ?_ | intro hg | omega | exact True.intro | (have h9 := hr (by assumption); omega) | fail)
                all_goals clear hk k
                refine AW.seq ?_
                have hpt : partT x.kind = _ := rfl
                refine AW.cut ⟨62, [(0, .isl 4 (e.map TNode.ro)), (4, .sl 9 1 0 i), (5, .int .i64 i), (8, .int .i64 (ownT x.kind)), (56, .bool (typBad e i))], [(9, some ⟨1, (typesL e i).map I1⟩)]⟩ ?_ ?_
                · skip
                  refine AW.regK tiOk (fun _ => []) ?_
                  intro k hk; simp +contextual -dsimp (maxSteps := 2000000) [go_sem, -decide_eq_true_eq, -decide_eq_false_iff_not, hx, htl, hsA, hsB]
                  repeat' (first | refine And.intro ?_ ?_ | refine hk _ ?_ | (intro hg; try simp only [decide_eq_true_eq, decide_eq_false_iff_not] at hg) | (refine CallK.intro (dc_spec_l3Two _) ?_; simp +contextual -dsimp (maxSteps := 2000000) [go_sem, -decide_eq_true_eq, -decide_eq_false_iff_not, hx, htl, hsA, hsB]) | omega | exact True.intro | (have h9 := hr (by assumption); omega) | fail)
                  all_goals clear hk k
                  all_goals (show St.Less _ _; exact Less.of rfl (by simp [go_sem, typBad, hxA] <;> grind [ownT, partT]) (by simp [go_sem]))
                · skip
                  refine AW.cond rfl ?_ ?_
                  · intro hc; try simp at hc
                    all_goals try (exfalso; omega; done)
                    all_goals (
                      refine AW.reg tiOk (fun _ => []) [2, 3] ?_
                      intro k hk; simp -dsimp [go_sem, -decide_eq_true_eq, -decide_eq_false_iff_not, hx, htl, hsA, hsB]
                      repeat' (first | refine And.intro ?_ ?_ | refine hk _ ?_ | intro hg | omega | exact True.intro | (have h9 := hr (by assumption); omega) | fail)
                      all_goals clear hk k
                      refine AW.retF (ow := [1001]) (muts := []) ?_ (fun h => And.intro (.inr rfl) h)
                      first | (exfalso; have h8 := typU_hit hlt (by first | assumption | simpa using hc); rw [huk] at h8; cases h8) | (have hie : i = e.length := (by omega); simp [go_sem, Try.results134, hie, typesL_len]))
                  · intro hc; try simp at hc
                    all_goals try (exfalso; omega; done)
                    all_goals (
                      refine AW.skipN (fun _ h => h) ?_
                      refine AW.regN tiOk (fun _ => []) [0, 4, 5] (fun _ h => h) ?_
                      intro k hk; simp -dsimp [go_sem, -decide_eq_true_eq, -decide_eq_false_iff_not, hx, htl, hsA, hsB]
                      repeat' (first | refine And.intro ?_ ?_ | refine hk _ ?_ | intro hg | omega | exact True.intro | (have h9 := hr (by assumption); omega) | fail)
                      all_goals clear hk k
                      refine AW.regK tiOk (fun _ => []) ?_
                      intro k hk; simp -dsimp [go_sem, -decide_eq_true_eq, -decide_eq_false_iff_not, hx, htl, hsA, hsB]
                      repeat' (first | refine And.intro ?_ ?_ | refine hk _ ?_ | intro hg | omega | exact True.intro | (have h9 := hr (by assumption); omega) | fail)
                      all_goals clear hk k
                      show ∃ _, _
                      have hw := wrapi hlt (by omega)
                      have hub : typBad e i = false := by simpa using hc
                      refine ⟨i + 1, ⟨by omega, typU_go hu hub⟩, by omega, Less.of rfl (by simp [go_sem, hw]) (by simp [go_sem, typesL_succ, hxA, htk] <;> (unfold ownT; first | omega | (split <;> omega)))⟩))
            · intro hc; try simp at hc
              all_goals try (exfalso; omega; done)
              all_goals (
                refine AW.skipN (fun _ h => h) ?_
                refine AW.seq ?_
                have hpt : partT x.kind = _ := rfl
                refine AW.cut ⟨62, [(0, .isl 4 (e.map TNode.ro)), (4, .sl 9 1 0 i), (5, .int .i64 i), (8, .int .i64 (ownT x.kind)), (56, .bool (typBad e i))], [(9, some ⟨1, (typesL e i).map I1⟩)]⟩ ?_ ?_
                · skip
                  refine AW.regK tiOk (fun _ => []) ?_
                  intro k hk; simp +contextual -dsimp (maxSteps := 2000000) [go_sem, -decide_eq_true_eq, -decide_eq_false_iff_not, hx, htl, hsA, hsB]
                  repeat' (first | refine And.intro ?_ ?_ | refine hk _ ?_ | (intro hg; try simp only [decide_eq_true_eq, decide_eq_false_iff_not] at hg) | (refine CallK.intro (dc_spec_l3Two _) ?_; simp +contextual -dsimp (maxSteps := 2000000) [go_sem, -decide_eq_true_eq, -decide_eq_false_iff_not, hx, htl, hsA, hsB]) | omega | exact True.intro | (have h9 := hr (by assumption); omega) | fail)
                  all_goals clear hk k
                  all_goals (show St.Less _ _; exact Less.of rfl (by simp [go_sem, typBad, hxA] <;> grind [ownT, partT]) (by simp [go_sem]))
                · skip
                  refine AW.cond rfl ?_ ?_
                  · intro hc; try simp at hc
                    all_goals try (exfalso; omega; done)
                    all_goals (
                      refine AW.reg tiOk (fun _ => []) [2, 3] ?_
                      intro k hk; simp -dsimp [go_sem, -decide_eq_true_eq, -decide_eq_false_iff_not, hx, htl, hsA, hsB]
                      repeat' (first | refine And.intro ?_ ?_ | refine hk _ ?_ | intro hg | omega | exact True.intro | (have h9 := hr (by assumption); omega) | fail)
                      all_goals clear hk k
                      refine AW.retF (ow := [1001]) (muts := []) ?_ (fun h => And.intro (.inr rfl) h)
                      first | (exfalso; have h8 := typU_hit hlt (by first | assumption | simpa using hc); rw [huk] at h8; cases h8) | (have hie : i = e.length := (by omega); simp [go_sem, Try.results134, hie, typesL_len]))
                  · intro hc; try simp at hc
                    all_goals try (exfalso; omega; done)
                    all_goals (
                      refine AW.skipN (fun _ h => h) ?_
                      refine AW.regN tiOk (fun _ => []) [0, 4, 5] (fun _ h => h) ?_
                      intro k hk; simp -dsimp [go_sem, -decide_eq_true_eq, -decide_eq_false_iff_not, hx, htl, hsA, hsB]
                      repeat' (first | refine And.intro ?_ ?_ | refine hk _ ?_ | intro hg | omega | exact True.intro | (have h9 := hr (by assumption); omega) | fail)
                      all_goals clear hk k
                      refine AW.regK tiOk (fun _ => []) ?_
                      intro k hk; simp -dsimp [go_sem, -decide_eq_true_eq, -decide_eq_false_iff_not, hx, htl, hsA, hsB]
                      repeat' (first | refine And.intro ?_ ?_ | refine hk _ ?_ | intro hg | omega | exact True.intro | (have h9 := hr (by assumption); omega) | fail)
                      all_goals clear hk k
                      show ∃ _, _
                      have hw := wrapi hlt (by omega)
                      have hub : typBad e i = false := by simpa using hc
                      refine ⟨i + 1, ⟨by omega, typU_go hu hub⟩, by omega, Less.of rfl (by simp [go_sem, hw]) (by simp [go_sem, typesL_succ, hxA, htk] <;> (unfold ownT; first | omega | (split <;> omega)))⟩)))
        · intro hc; try simp at hc
          all_goals try (exfalso; omega; done)
          all_goals (
            refine AW.skipN (fun _ h => h) ?_
            refine AW.seq ?_
            refine AW.reg tiOk (fun _ => []) [0, 4, 5, 6, 7, 8, 30] ?_
            intro k hk; simp -dsimp [go_sem, -decide_eq_true_eq, -decide_eq_false_iff_not, hx, htl, hsA, hsB]
            repeat' (first | refine And.intro ?_ ?_ | refine hk _ ?_ | intro hg | omega | exact True.intro | (have h9 := hr (by assumption); omega) | fail)
            all_goals clear hk k
            refine AW.cond rfl ?_ ?_
            · intro hc; try simp at hc
              all_goals try (exfalso; omega; done)
              all_goals (
                refine AW.regN tiOk (fun _ => []) [0, 4, 5, 6, 7, 8] (fun _ h => h) ?_
                intro k hk; simp -dsimp [go_sem, -decide_eq_true_eq, -decide_eq_false_iff_not, hx, htl, hsA, hsB]
                repeat' (first | refine And.intro ?_ ?_ | refine hk _ ?_ | intro hg | omega | exact True.intro | (have h9 := hr (by assumption); omega) | fail)
                all_goals clear hk k
                refine AW.seq ?_
                have hpt : partT x.kind = _ := rfl
                refine AW.cut ⟨62, [(0, .isl 4 (e.map TNode.ro)), (4, .sl 9 1 0 i), (5, .int .i64 i), (8, .int .i64 (ownT x.kind)), (56, .bool (typBad e i))], [(9, some ⟨1, (typesL e i).map I1⟩)]⟩ ?_ ?_
                · skip
                  refine AW.regK tiOk (fun _ => []) ?_
                  intro k hk; simp +contextual -dsimp (maxSteps := 2000000) [go_sem, -decide_eq_true_eq, -decide_eq_false_iff_not, hx, htl, hsA, hsB]
                  repeat' (first | refine And.intro ?_ ?_ | refine hk _ ?_ | (intro hg; try simp only [decide_eq_true_eq, decide_eq_false_iff_not] at hg) | (refine CallK.intro (dc_spec_l3Two _) ?_; simp +contextual -dsimp (maxSteps := 2000000) [go_sem, -decide_eq_true_eq, -decide_eq_false_iff_not, hx, htl, hsA, hsB]) | omega | exact True.intro | (have h9 := hr (by assumption); omega) | fail)
                  all_goals clear hk k
                  all_goals (show St.Less _ _; exact Less.of rfl (by simp [go_sem, typBad, hxA] <;> grind [ownT, partT]) (by simp [go_sem]))
                · skip
                  refine AW.cond rfl ?_ ?_
                  · intro hc; try simp at hc
                    all_goals try (exfalso; omega; done)
                    all_goals (
                      refine AW.reg tiOk (fun _ => []) [2, 3] ?_
                      intro k hk; simp -dsimp [go_sem, -decide_eq_true_eq, -decide_eq_false_iff_not, hx, htl, hsA, hsB]
                      repeat' (first | refine And.intro ?_ ?_ | refine hk _ ?_ | intro hg | omega | exact True.intro | (have h9 := hr (by assumption); omega) | fail)
                      all_goals clear hk k
                      refine AW.retF (ow := [1001]) (muts := []) ?_ (fun h => And.intro (.inr rfl) h)
                      first | (exfalso; have h8 := typU_hit hlt (by first | assumption | simpa using hc); rw [huk] at h8; cases h8) | (have hie : i = e.length := (by omega); simp [go_sem, Try.results134, hie, typesL_len]))
                  · intro hc; try simp at hc
                    all_goals try (exfalso; omega; done)
                    all_goals (
                      refine AW.skipN (fun _ h => h) ?_
                      refine AW.regN tiOk (fun _ => []) [0, 4, 5] (fun _ h => h) ?_
                      intro k hk; simp -dsimp [go_sem, -decide_eq_true_eq, -decide_eq_false_iff_not, hx, htl, hsA, hsB]
                      repeat' (first | refine And.intro ?_ ?_ | refine hk _ ?_ | intro hg | omega | exact True.intro | (have h9 := hr (by assumption); omega) | fail)
                      all_goals clear hk k
                      refine AW.regK tiOk (fun _ => []) ?_
                      intro k hk; simp -dsimp [go_sem, -decide_eq_true_eq, -decide_eq_false_iff_not, hx, htl, hsA, hsB]
                      repeat' (first | refine And.intro ?_ ?_ | refine hk _ ?_ | intro hg | omega | exact True.intro | (have h9 := hr (by assumption); omega) | fail)
                      all_goals clear hk k
                      show ∃ _, _
                      have hw := wrapi hlt (by omega)
                      have hub : typBad e i = false := by simpa using hc
                      refine ⟨i + 1, ⟨by omega, typU_go hu hub⟩, by omega, Less.of rfl (by simp [go_sem, hw]) (by simp [go_sem, typesL_succ, hxA, htk] <;> (unfold ownT; first | omega | (split <;> omega)))⟩))
            · intro hc; try simp at hc
              all_goals try (exfalso; omega; done)
              all_goals (
                refine AW.skipN (fun _ h => h) ?_
                refine AW.seq ?_
                have hpt : partT x.kind = _ := rfl
                refine AW.cut ⟨62, [(0, .isl 4 (e.map TNode.ro)), (4, .sl 9 1 0 i), (5, .int .i64 i), (8, .int .i64 (ownT x.kind)), (56, .bool (typBad e i))], [(9, some ⟨1, (typesL e i).map I1⟩)]⟩ ?_ ?_
                · skip
                  refine AW.regK tiOk (fun _ => []) ?_
                  intro k hk; simp +contextual -dsimp (maxSteps := 2000000) [go_sem, -decide_eq_true_eq, -decide_eq_false_iff_not, hx, htl, hsA, hsB]
                  repeat' (first | refine And.intro ?_ ?_ | refine hk _ ?_ | (intro hg; try simp only [decide_eq_true_eq, decide_eq_false_iff_not] at hg) | (refine CallK.intro (dc_spec_l3Two _) ?_; simp +contextual -dsimp (maxSteps := 2000000) [go_sem, -decide_eq_true_eq, -decide_eq_false_iff_not, hx, htl, hsA, hsB]) | omega | exact True.intro | (have h9 := hr (by assumption); omega) | fail)
                  all_goals clear hk k
                  all_goals (show St.Less _ _; exact Less.of rfl (by simp [go_sem, typBad, hxA] <;> grind [ownT, partT]) (by simp [go_sem]))
                · skip
                  refine AW.cond rfl ?_ ?_
                  · intro hc; try simp at hc
                    all_goals try (exfalso; omega; done)
                    all_goals (
                      refine AW.reg tiOk (fun _ => []) [2, 3] ?_
                      intro k hk; simp -dsimp [go_sem, -decide_eq_true_eq, -decide_eq_false_iff_not, hx, htl, hsA, hsB]
                      repeat' (first | refine And.intro ?_ ?_ | refine hk _ ?_ | intro hg | omega | exact True.intro | (have h9 := hr (by assumption); omega) | fail)
                      all_goals clear hk k
                      refine AW.retF (ow := [1001]) (muts := []) ?_ (fun h => And.intro (.inr rfl) h)
                      first | (exfalso; have h8 := typU_hit hlt (by first | assumption | simpa using hc); rw [huk] at h8; cases h8) | (have hie : i = e.length := (by omega); simp [go_sem, Try.results134, hie, typesL_len]))
                  · intro hc; try simp at hc
                    all_goals try (exfalso; omega; done)
                    all_goals (
                      refine AW.skipN (fun _ h => h) ?_
                      refine AW.regN tiOk (fun _ => []) [0, 4, 5] (fun _ h => h) ?_
                      intro k hk; simp -dsimp [go_sem, -decide_eq_true_eq, -decide_eq_false_iff_not, hx, htl, hsA, hsB]
                      repeat' (first | refine And.intro ?_ ?_ | refine hk _ ?_ | intro hg | omega | exact True.intro | (have h9 := hr (by assumption); omega) | fail)
                      all_goals clear hk k
                      refine AW.regK tiOk (fun _ => []) ?_
                      intro k hk; simp -dsimp [go_sem, -decide_eq_true_eq, -decide_eq_false_iff_not, hx, htl, hsA, hsB]
                      repeat' (first | refine And.intro ?_ ?_ | refine hk _ ?_ | intro hg | omega | exact True.intro | (have h9 := hr (by assumption); omega) | fail)
                      all_goals clear hk k
                      show ∃ _, _
                      have hw := wrapi hlt (by omega)
                      have hub : typBad e i = false := by simpa using hc
                      refine ⟨i + 1, ⟨by omega, typU_go hu hub⟩, by omega, Less.of rfl (by simp [go_sem, hw]) (by simp [go_sem, typesL_succ, hxA, htk] <;> (unfold ownT; first | omega | (split <;> omega)))⟩))))
  · intro hc; try simp at hc
    all_goals try (exfalso; omega; done)
    all_goals (
      refine AW.exitN (fun _ h => h) ?_
      refine AW.reg tiOk (fun _ => []) [2, 3] ?_
      intro k hk; simp -dsimp [go_sem, -decide_eq_true_eq, -decide_eq_false_iff_not]
      repeat' (first | refine And.intro ?_ ?_ | refine hk _ ?_ | intro hg | omega | exact True.intro | (have h9 := hr (by assumption); omega) | fail)
      all_goals clear hk k
      refine AW.retF (ow := [1001]) (muts := []) ?_ (fun h => And.intro (.inr rfl) h)
      first | (exfalso; have h8 := typU_hit hlt (by first | assumption | simpa using hc); rw [huk] at h8; cases h8) | (have hie : i = e.length := (by omega); simp [go_sem, Try.results134, hie, typesL_len]))

end Go.AM

/-! ### F8 -/
set_option linter.unusedVariables false
set_option linter.unusedSimpArgs false
namespace Go.AM
open Go.Proofs

set_option maxHeartbeats 600000 in
set_option linter.unusedSimpArgs false in
set_option maxRecDepth 100000 in
/-- spec.l3Type -/
theorem dc_spec_l3Type_f (e : List TNode) (he : e.length ≤ 9223372036854775807) (h0 : exprF e ≠ 0) : DC Try.prog 125 [.isl 4 (e.map TNode.ro)] (.tup [.int .i64 (typV e), .int .i64 (typC e)]) [] := by
  obtain ⟨hC, hV⟩ := typC_f h0
  refine DC.intro tiOk Try.func125 rfl rfl rfl rfl rfl rfl rfl rfl [] ?_
  refine AW.reg tiOk (fun _ => []) [0] ?_
  intro k hk; simp -dsimp [go_sem, -decide_eq_true_eq, -decide_eq_false_iff_not, h0, hC, hV]
  repeat' (first | refine And.intro ?_ ?_ | refine hk _ ?_ | intro hg | omega | exact True.intro)
  all_goals clear hk k
  refine AW.seq ?_
  refine AW.reg tiOk (fun _ => []) [0, 4] ?_
  intro k hk; simp -dsimp (maxSteps := 2000000) [go_sem, -decide_eq_true_eq, -decide_eq_false_iff_not, h0, hC, hV]
  repeat' (first | refine And.intro ?_ ?_ | refine hk _ ?_ | intro hg | (refine CallK.intro (dc_spec_l3Fault e he) ?_; simp -dsimp (maxSteps := 2000000) [go_sem, -decide_eq_true_eq, -decide_eq_false_iff_not, h0, hC, hV]) | omega | exact True.intro)
  all_goals clear hk k
  refine AW.reg tiOk (fun _ => []) [0, 4, 10] ?_
  intro k hk; simp -dsimp [go_sem, -decide_eq_true_eq, -decide_eq_false_iff_not, h0, hC, hV]
  repeat' (first | refine And.intro ?_ ?_ | refine hk _ ?_ | intro hg | omega | exact True.intro)
  all_goals clear hk k
  refine AW.cond rfl ?_ ?_
  · intro hc; try simp at hc
    all_goals try (exfalso; contradiction; done)
    all_goals (
      refine AW.reg tiOk (fun _ => []) [2, 3] ?_
      intro k hk; simp -dsimp [go_sem, -decide_eq_true_eq, -decide_eq_false_iff_not, h0, hC, hV]
      repeat' (first | refine And.intro ?_ ?_ | refine hk _ ?_ | intro hg | omega | exact True.intro)
      all_goals clear hk k
      refine AW.retF (ow := []) (muts := []) ?_ (fun h => And.intro (.inr rfl) h)
      simp [go_sem, Try.results125, hC, hV])
  · intro hc; try simp at hc
    all_goals try (exfalso; contradiction; done)
    all_goals (
      refine AW.skipN (fun _ h => h) ?_
      refine AW.reg tiOk (fun _ => []) [5, 6] ?_
      intro k hk; simp -dsimp (maxSteps := 2000000) [go_sem, -decide_eq_true_eq, -decide_eq_false_iff_not, h0, hC, hV]
      repeat' (first | refine And.intro ?_ ?_ | refine hk _ ?_ | intro hg | (refine CallK.intro (skip) ?_; simp -dsimp (maxSteps := 2000000) [go_sem, -decide_eq_true_eq, -decide_eq_false_iff_not, h0, hC, hV]) | omega | exact True.intro)
      all_goals clear hk k
      refine AW.seq ?_
      refine AW.reg tiOk (fun _ => []) [5, 18] ?_
      intro k hk; simp -dsimp [go_sem, -decide_eq_true_eq, -decide_eq_false_iff_not, h0, hC, hV]
      repeat' (first | refine And.intro ?_ ?_ | refine hk _ ?_ | intro hg | omega | exact True.intro)
      all_goals clear hk k
      refine AW.cond rfl ?_ ?_
      · intro hc; try simp at hc
        all_goals try (exfalso; contradiction; done)
        all_goals (
          refine AW.reg tiOk (fun _ => []) [2, 3] ?_
          intro k hk; simp -dsimp [go_sem, -decide_eq_true_eq, -decide_eq_false_iff_not, h0, hC, hV]
          repeat' (first | refine And.intro ?_ ?_ | refine hk _ ?_ | intro hg | omega | exact True.intro)
          all_goals clear hk k
          refine AW.retF (ow := []) (muts := []) ?_ (fun h => And.intro (.inr rfl) h)
          simp [go_sem, Try.results125, hC, hV])
      · intro hc; try simp at hc
        all_goals try (exfalso; contradiction; done)
        all_goals (
          refine AW.skipN (fun _ h => h) ?_
          have htl := typesL_len e e.length
          have hlast := typesL_at (e := e) (show e.length - 1 < e.length by omega)
          have hwl : IntKind.wrap .i64 ((e.length : Int) - 1) = (e.length : Int) - 1 := wrap64 (by omega) (by omega)
          have hwt : ((e.length : Int) - 1).toNat = e.length - 1 := by omega
          refine AW.reg tiOk (fun _ => []) [2, 3] ?_
          intro k hk; simp -dsimp (maxSteps := 2000000) [go_sem, -decide_eq_true_eq, -decide_eq_false_iff_not, h0, hC, hV, htl, hlast, hwl, hwt]
          repeat' (first | refine And.intro ?_ ?_ | refine hk _ ?_ | intro hg | omega | exact True.intro)
          all_goals clear hk k
          refine AW.retF (ow := []) (muts := []) ?_ (fun h => And.intro (.inr rfl) h)
          simp [go_sem, Try.results125, hC, hV]))

set_option maxHeartbeats 600000 in
set_option linter.unusedSimpArgs false in
set_option maxRecDepth 100000 in
/-- spec.l3Type -/
theorem dc_spec_l3Type_b (e : List TNode) (he : e.length ≤ 9223372036854775807) (h0 : exprF e = 0) (hub : typU e e.length = true) : DC Try.prog 125 [.isl 4 (e.map TNode.ro)] (.tup [.int .i64 (typV e), .int .i64 (typC e)]) [] := by
  obtain ⟨hR, hP⟩ := exprF_zero h0
  have hlen := inR_iff.1 hR
  obtain ⟨hC, hV⟩ := typC_b h0 hub
  refine DC.intro tiOk Try.func125 rfl rfl rfl rfl rfl rfl rfl rfl [] ?_
  refine AW.reg tiOk (fun _ => []) [0] ?_
  intro k hk; simp -dsimp [go_sem, -decide_eq_true_eq, -decide_eq_false_iff_not, h0, hC, hV]
  repeat' (first | refine And.intro ?_ ?_ | refine hk _ ?_ | intro hg | omega | exact True.intro)
  all_goals clear hk k
  refine AW.seq ?_
  refine AW.reg tiOk (fun _ => []) [0, 4] ?_
  intro k hk; simp -dsimp (maxSteps := 2000000) [go_sem, -decide_eq_true_eq, -decide_eq_false_iff_not, h0, hC, hV]
  repeat' (first | refine And.intro ?_ ?_ | refine hk _ ?_ | intro hg | (refine CallK.intro (dc_spec_l3Fault e he) ?_; simp -dsimp (maxSteps := 2000000) [go_sem, -decide_eq_true_eq, -decide_eq_false_iff_not, h0, hC, hV]) | omega | exact True.intro)
  all_goals clear hk k
  refine AW.reg tiOk (fun _ => []) [0, 4, 10] ?_
  intro k hk; simp -dsimp [go_sem, -decide_eq_true_eq, -decide_eq_false_iff_not, h0, hC, hV]
  repeat' (first | refine And.intro ?_ ?_ | refine hk _ ?_ | intro hg | omega | exact True.intro)
  all_goals clear hk k
  refine AW.cond rfl ?_ ?_
  · intro hc; try simp at hc
    all_goals try (exfalso; contradiction; done)
    all_goals (
      refine AW.reg tiOk (fun _ => []) [2, 3] ?_
      intro k hk; simp -dsimp [go_sem, -decide_eq_true_eq, -decide_eq_false_iff_not, h0, hC, hV]
      repeat' (first | refine And.intro ?_ ?_ | refine hk _ ?_ | intro hg | omega | exact True.intro)
      all_goals clear hk k
      refine AW.retF (ow := []) (muts := []) ?_ (fun h => And.intro (.inr rfl) h)
      simp [go_sem, Try.results125, hC, hV])
  · intro hc; try simp at hc
    all_goals try (exfalso; contradiction; done)
    all_goals (
      refine AW.skipN (fun _ h => h) ?_
      refine AW.reg tiOk (fun _ => []) [5, 6] ?_
      intro k hk; simp -dsimp (maxSteps := 2000000) [go_sem, -decide_eq_true_eq, -decide_eq_false_iff_not, h0, hC, hV]
      repeat' (first | refine And.intro ?_ ?_ | refine hk _ ?_ | intro hg | (refine CallK.intro (dc_spec_l3Types_b e hP (by omega) hub) ?_; simp -dsimp (maxSteps := 2000000) [go_sem, -decide_eq_true_eq, -decide_eq_false_iff_not, h0, hC, hV]) | omega | exact True.intro)
      all_goals clear hk k
      refine AW.seq ?_
      refine AW.reg tiOk (fun _ => []) [5, 18] ?_
      intro k hk; simp -dsimp [go_sem, -decide_eq_true_eq, -decide_eq_false_iff_not, h0, hC, hV]
      repeat' (first | refine And.intro ?_ ?_ | refine hk _ ?_ | intro hg | omega | exact True.intro)
      all_goals clear hk k
      refine AW.cond rfl ?_ ?_
      · intro hc; try simp at hc
        all_goals try (exfalso; contradiction; done)
        all_goals (
          refine AW.reg tiOk (fun _ => []) [2, 3] ?_
          intro k hk; simp -dsimp [go_sem, -decide_eq_true_eq, -decide_eq_false_iff_not, h0, hC, hV]
          repeat' (first | refine And.intro ?_ ?_ | refine hk _ ?_ | intro hg | omega | exact True.intro)
          all_goals clear hk k
          refine AW.retF (ow := []) (muts := []) ?_ (fun h => And.intro (.inr rfl) h)
          simp [go_sem, Try.results125, hC, hV])
      · intro hc; try simp at hc
        all_goals try (exfalso; contradiction; done)
        all_goals (
          refine AW.skipN (fun _ h => h) ?_
          have htl := typesL_len e e.length
          have hlast := typesL_at (e := e) (show e.length - 1 < e.length by omega)
          have hwl : IntKind.wrap .i64 ((e.length : Int) - 1) = (e.length : Int) - 1 := wrap64 (by omega) (by omega)
          have hwt : ((e.length : Int) - 1).toNat = e.length - 1 := by omega
          refine AW.reg tiOk (fun _ => []) [2, 3] ?_
          intro k hk; simp -dsimp (maxSteps := 2000000) [go_sem, -decide_eq_true_eq, -decide_eq_false_iff_not, h0, hC, hV, htl, hlast, hwl, hwt]
          repeat' (first | refine And.intro ?_ ?_ | refine hk _ ?_ | intro hg | omega | exact True.intro)
          all_goals clear hk k
          refine AW.retF (ow := []) (muts := []) ?_ (fun h => And.intro (.inr rfl) h)
          simp [go_sem, Try.results125, hC, hV]))

set_option maxHeartbeats 600000 in
set_option linter.unusedSimpArgs false in
set_option maxRecDepth 100000 in
/-- spec.l3Type -/
theorem dc_spec_l3Type_k (e : List TNode) (he : e.length ≤ 9223372036854775807) (h0 : exprF e = 0) (huk : typU e e.length = false) : DC Try.prog 125 [.isl 4 (e.map TNode.ro)] (.tup [.int .i64 (typV e), .int .i64 (typC e)]) [] := by
  obtain ⟨hR, hP⟩ := exprF_zero h0
  have hlen := inR_iff.1 hR
  obtain ⟨hC, hV⟩ := typC_k h0 huk
  refine DC.intro tiOk Try.func125 rfl rfl rfl rfl rfl rfl rfl rfl [] ?_
  refine AW.reg tiOk (fun _ => []) [0] ?_
  intro k hk; simp -dsimp [go_sem, -decide_eq_true_eq, -decide_eq_false_iff_not, h0, hC, hV]
  repeat' (first | refine And.intro ?_ ?_ | refine hk _ ?_ | intro hg | omega | exact True.intro)
  all_goals clear hk k
  refine AW.seq ?_
  refine AW.reg tiOk (fun _ => []) [0, 4] ?_
  intro k hk; simp -dsimp (maxSteps := 2000000) [go_sem, -decide_eq_true_eq, -decide_eq_false_iff_not, h0, hC, hV]
  repeat' (first | refine And.intro ?_ ?_ | refine hk _ ?_ | intro hg | (refine CallK.intro (dc_spec_l3Fault e he) ?_; simp -dsimp (maxSteps := 2000000) [go_sem, -decide_eq_true_eq, -decide_eq_false_iff_not, h0, hC, hV]) | omega | exact True.intro)
  all_goals clear hk k
  refine AW.reg tiOk (fun _ => []) [0, 4, 10] ?_
  intro k hk; simp -dsimp [go_sem, -decide_eq_true_eq, -decide_eq_false_iff_not, h0, hC, hV]
  repeat' (first | refine And.intro ?_ ?_ | refine hk _ ?_ | intro hg | omega | exact True.intro)
  all_goals clear hk k
  refine AW.cond rfl ?_ ?_
  · intro hc; try simp at hc
    all_goals try (exfalso; contradiction; done)
    all_goals (
      refine AW.reg tiOk (fun _ => []) [2, 3] ?_
      intro k hk; simp -dsimp [go_sem, -decide_eq_true_eq, -decide_eq_false_iff_not, h0, hC, hV]
      repeat' (first | refine And.intro ?_ ?_ | refine hk _ ?_ | intro hg | omega | exact True.intro)
      all_goals clear hk k
      refine AW.retF (ow := []) (muts := []) ?_ (fun h => And.intro (.inr rfl) h)
      simp [go_sem, Try.results125, hC, hV])
  · intro hc; try simp at hc
    all_goals try (exfalso; contradiction; done)
    all_goals (
      refine AW.skipN (fun _ h => h) ?_
      refine AW.reg tiOk (fun _ => []) [5, 6] ?_
      intro k hk; simp -dsimp (maxSteps := 2000000) [go_sem, -decide_eq_true_eq, -decide_eq_false_iff_not, h0, hC, hV]
      repeat' (first | refine And.intro ?_ ?_ | refine hk _ ?_ | intro hg | (refine CallK.intro (dc_spec_l3Types_k e hP (by omega) huk) ?_; simp -dsimp (maxSteps := 2000000) [go_sem, -decide_eq_true_eq, -decide_eq_false_iff_not, h0, hC, hV]) | omega | exact True.intro)
      all_goals clear hk k
      refine AW.seq ?_
      refine AW.reg tiOk (fun _ => []) [5, 18] ?_
      intro k hk; simp -dsimp [go_sem, -decide_eq_true_eq, -decide_eq_false_iff_not, h0, hC, hV]
      repeat' (first | refine And.intro ?_ ?_ | refine hk _ ?_ | intro hg | omega | exact True.intro)
      all_goals clear hk k
      refine AW.cond rfl ?_ ?_
      · intro hc; try simp at hc
        all_goals try (exfalso; contradiction; done)
        all_goals (
          refine AW.reg tiOk (fun _ => []) [2, 3] ?_
          intro k hk; simp -dsimp [go_sem, -decide_eq_true_eq, -decide_eq_false_iff_not, h0, hC, hV]
          repeat' (first | refine And.intro ?_ ?_ | refine hk _ ?_ | intro hg | omega | exact True.intro)
          all_goals clear hk k
          refine AW.retF (ow := []) (muts := []) ?_ (fun h => And.intro (.inr rfl) h)
          simp [go_sem, Try.results125, hC, hV])
      · intro hc; try simp at hc
        all_goals try (exfalso; contradiction; done)
        all_goals (
          refine AW.skipN (fun _ h => h) ?_
          have htl := typesL_len e e.length
          have hlast := typesL_at (e := e) (show e.length - 1 < e.length by omega)
          have hwl : IntKind.wrap .i64 ((e.length : Int) - 1) = (e.length : Int) - 1 := wrap64 (by omega) (by omega)
          have hwt : ((e.length : Int) - 1).toNat = e.length - 1 := by omega
          refine AW.reg tiOk (fun _ => []) [2, 3] ?_
          intro k hk; simp -dsimp (maxSteps := 2000000) [go_sem, -decide_eq_true_eq, -decide_eq_false_iff_not, h0, hC, hV, htl, hlast, hwl, hwt]
          repeat' (first | refine And.intro ?_ ?_ | refine hk _ ?_ | intro hg | omega | exact True.intro)
          all_goals clear hk k
          refine AW.retF (ow := []) (muts := []) ?_ (fun h => And.intro (.inr rfl) h)
          simp [go_sem, Try.results125, hC, hV]))
theorem dc_spec_l3Type (e : List TNode) (he : e.length ≤ 9223372036854775807) : DC Try.prog 125 [.isl 4 (e.map TNode.ro)] (.tup [.int .i64 (typV e), .int .i64 (typC e)]) [] := by
  by_cases h0 : exprF e = 0
  · by_cases hu : typU e e.length = true
    · exact dc_spec_l3Type_b e he h0 hu
    · exact dc_spec_l3Type_k e he h0 (by simpa using hu)
  · exact dc_spec_l3Type_f e he h0

set_option maxHeartbeats 600000 in
set_option linter.unusedSimpArgs false in
set_option maxRecDepth 100000 in
/-- spec.l4Typed -/
theorem dc_spec_l4Typed (e : List TNode) (w : Int) (he : e.length ≤ 9223372036854775807) : DC Try.prog 100 [.isl 4 (e.map TNode.ro), .int .i64 w] (.int .i64 (typF e w)) [] := by
  refine DC.intro tiOk Try.func100 rfl rfl rfl rfl rfl rfl rfl rfl [] ?_
  refine AW.reg tiOk (fun _ => []) [0, 1] ?_
  intro k hk; simp -dsimp [go_sem, -decide_eq_true_eq, -decide_eq_false_iff_not]
  repeat' (first | refine And.intro ?_ ?_ | refine hk _ ?_ | intro hg | omega | exact True.intro)
  all_goals clear hk k
  refine AW.seq ?_
  refine AW.reg tiOk (fun _ => []) [0, 1, 9] ?_
  intro k hk; simp -dsimp [go_sem, -decide_eq_true_eq, -decide_eq_false_iff_not]
  repeat' (first | refine And.intro ?_ ?_ | refine hk _ ?_ | intro hg | omega | exact True.intro)
  all_goals clear hk k
  refine AW.cond rfl ?_ ?_
  · intro hc; try simp at hc
    all_goals (
      refine AW.reg tiOk (fun _ => []) [4] ?_
      intro k hk; simp -dsimp [go_sem, -decide_eq_true_eq, -decide_eq_false_iff_not]
      repeat' (first | refine And.intro ?_ ?_ | refine hk _ ?_ | intro hg | omega | exact True.intro)
      all_goals clear hk k
      refine AW.retF (ow := []) (muts := []) ?_ (fun h => And.intro (.inr rfl) h)
      simp [go_sem, Try.results100, typF, firstC_cons, firstC_nil] <;> grind)
  · intro hc; try simp at hc
    all_goals (
      refine AW.skipN (fun _ h => h) ?_
      refine AW.reg tiOk (fun _ => []) [1, 5, 6] ?_
      intro k hk; simp -dsimp (maxSteps := 2000000) [go_sem, -decide_eq_true_eq, -decide_eq_false_iff_not]
      repeat' (first | refine And.intro ?_ ?_ | refine hk _ ?_ | intro hg | (refine CallK.intro (dc_spec_l3Type e he) ?_; simp -dsimp (maxSteps := 2000000) [go_sem, -decide_eq_true_eq, -decide_eq_false_iff_not]) | omega | exact True.intro)
      all_goals clear hk k
      refine AW.seq ?_
      refine AW.reg tiOk (fun _ => []) [1, 5, 6, 16] ?_
      intro k hk; simp -dsimp [go_sem, -decide_eq_true_eq, -decide_eq_false_iff_not]
      repeat' (first | refine And.intro ?_ ?_ | refine hk _ ?_ | intro hg | omega | exact True.intro)
      all_goals clear hk k
      refine AW.cond rfl ?_ ?_
      · intro hc; try simp at hc
        all_goals (
          refine AW.reg tiOk (fun _ => []) [4] ?_
          intro k hk; simp -dsimp [go_sem, -decide_eq_true_eq, -decide_eq_false_iff_not]
          repeat' (first | refine And.intro ?_ ?_ | refine hk _ ?_ | intro hg | omega | exact True.intro)
          all_goals clear hk k
          refine AW.retF (ow := []) (muts := []) ?_ (fun h => And.intro (.inr rfl) h)
          simp [go_sem, Try.results100, typF, firstC_cons, firstC_nil] <;> grind)
      · intro hc; try simp at hc
        all_goals (
          refine AW.skipN (fun _ h => h) ?_
          refine AW.seq ?_
          refine AW.reg tiOk (fun _ => []) [20] ?_
          intro k hk; simp -dsimp [go_sem, -decide_eq_true_eq, -decide_eq_false_iff_not]
          repeat' (first | refine And.intro ?_ ?_ | refine hk _ ?_ | intro hg | omega | exact True.intro)
          all_goals clear hk k
          refine AW.cond rfl ?_ ?_
          · intro hc; try simp at hc
            all_goals (
              refine AW.reg tiOk (fun _ => []) [4] ?_
              intro k hk; simp -dsimp [go_sem, -decide_eq_true_eq, -decide_eq_false_iff_not]
              repeat' (first | refine And.intro ?_ ?_ | refine hk _ ?_ | intro hg | omega | exact True.intro)
              all_goals clear hk k
              refine AW.retF (ow := []) (muts := []) ?_ (fun h => And.intro (.inr rfl) h)
              simp [go_sem, Try.results100, typF, firstC_cons, firstC_nil] <;> grind)
          · intro hc; try simp at hc
            all_goals (
              refine AW.skipN (fun _ h => h) ?_
              refine AW.reg tiOk (fun _ => []) [4] ?_
              intro k hk; simp -dsimp [go_sem, -decide_eq_true_eq, -decide_eq_false_iff_not]
              repeat' (first | refine And.intro ?_ ?_ | refine hk _ ?_ | intro hg | omega | exact True.intro)
              all_goals clear hk k
              refine AW.retF (ow := []) (muts := []) ?_ (fun h => And.intro (.inr rfl) h)
              simp [go_sem, Try.results100, typF, firstC_cons, firstC_nil] <;> grind)))

set_option maxHeartbeats 600000 in
set_option linter.unusedSimpArgs false in
set_option maxRecDepth 100000 in
/-- spec.l1Name -/
theorem dc_spec_l1Name (s : List UInt8) (hs : s.length ≤ 9223372036854775807) : DC Try.prog 120 [.str s] (.int .i64 (nameF s)) [] := by
  refine DC.intro tiOk Try.func120 rfl rfl rfl rfl rfl rfl rfl rfl [] ?_
  refine AW.reg tiOk (fun _ => []) [0] ?_
  intro k hk; simp -dsimp [go_sem, -decide_eq_true_eq, -decide_eq_false_iff_not]
  repeat' (first | refine And.intro ?_ ?_ | refine hk _ ?_ | intro hg | omega | exact True.intro)
  all_goals clear hk k
  refine AW.seq ?_
  refine AW.reg tiOk (fun _ => []) [0, 3] ?_
  intro k hk; simp -dsimp [go_sem, -decide_eq_true_eq, -decide_eq_false_iff_not]
  repeat' (first | refine And.intro ?_ ?_ | refine hk _ ?_ | intro hg | omega | exact True.intro)
  all_goals clear hk k
  refine AW.block ?_
  -- live at the loop's head: [0, 3]
  refine AW.loopI (fun i : Nat => ⟨25, [(0, .str s), (3, .int .i64 i)], []⟩) (fun i => i ≤ s.length ∧ (s.take i).all isLow = true) (fun i => s.length - i) (0) (by simp) (Less.of rfl (by simp [go_sem]) (by simp [go_sem])) ?_
  rintro i ⟨hi, hall⟩
  refine AW.seq ?_
  refine AW.reg tiOk (fun _ => []) [0, 3, 7] ?_
  intro k hk; simp -dsimp [go_sem, -decide_eq_true_eq, -decide_eq_false_iff_not]
  repeat' (first | refine And.intro ?_ ?_ | refine hk _ ?_ | intro hg | omega | exact True.intro)
  all_goals clear hk k
  refine AW.cond rfl ?_ ?_
  · intro hc; try simp at hc
    all_goals (
      have hlt : i < s.length := by assumption
      obtain ⟨x, hx⟩ := at_some hlt
      refine AW.skipN (fun _ h => h) ?_
      refine AW.seq ?_
      refine AW.block ?_
      refine AW.reg tiOk (fun _ => []) [0, 3, 19] ?_
      intro k hk; simp +contextual -dsimp (maxSteps := 2000000) [go_sem, -decide_eq_true_eq, -decide_eq_false_iff_not, hx]
      repeat' (first | refine And.intro ?_ ?_ | refine hk _ ?_ | (intro hg; try simp only [decide_eq_true_eq, decide_eq_false_iff_not] at hg) | omega | exact True.intro)
      all_goals clear hk k
      all_goals (
        refine AW.cond rfl ?_ ?_
        · intro hc; try simp at hc
          all_goals (
            refine AW.reg tiOk (fun _ => []) [2] ?_
            intro k hk; simp -dsimp [go_sem, -decide_eq_true_eq, -decide_eq_false_iff_not, hx]
            repeat' (first | refine And.intro ?_ ?_ | refine hk _ ?_ | intro hg | omega | exact True.intro)
            all_goals clear hk k
            refine AW.retF (ow := []) (muts := []) ?_ (fun h => And.intro (.inr rfl) h)
            first | (have hr := all_not (p := isLow) hx (by simp [isLow]; omega); simp [go_sem, Try.results120, nameF, hr]; done) | (have hr := all_end (p := isLow) (show s.length ≤ i by omega) hall; simp [go_sem, Try.results120, nameF, hr] at * <;> grind))
        · intro hc; try simp at hc
          all_goals (
            refine AW.skipN (fun _ h => h) ?_
            refine AW.regK tiOk (fun _ => []) ?_
            intro k hk; simp -dsimp [go_sem, -decide_eq_true_eq, -decide_eq_false_iff_not, hx]
            repeat' (first | refine And.intro ?_ ?_ | refine hk _ ?_ | intro hg | omega | exact True.intro)
            all_goals clear hk k
            show ∃ _, _
            have hw := wrapi hlt (by omega)
            refine ⟨i + 1, ⟨by omega, by rw [all_take hx hall]; simp [isLow]; omega⟩, by omega, Less.of rfl (by simp [go_sem, hw]) (by simp [go_sem])⟩)))
  · intro hc; try simp at hc
    all_goals (
      refine AW.exitN (fun _ h => h) ?_
      refine AW.seq ?_
      refine AW.reg tiOk (fun _ => []) [0, 21] ?_
      intro k hk; simp -dsimp [go_sem, -decide_eq_true_eq, -decide_eq_false_iff_not]
      repeat' (first | refine And.intro ?_ ?_ | refine hk _ ?_ | intro hg | omega | exact True.intro)
      all_goals clear hk k
      refine AW.cond rfl ?_ ?_
      · intro hc; try simp at hc
        all_goals (
          refine AW.reg tiOk (fun _ => []) [2] ?_
          intro k hk; simp -dsimp [go_sem, -decide_eq_true_eq, -decide_eq_false_iff_not]
          repeat' (first | refine And.intro ?_ ?_ | refine hk _ ?_ | intro hg | omega | exact True.intro)
          all_goals clear hk k
          refine AW.retF (ow := []) (muts := []) ?_ (fun h => And.intro (.inr rfl) h)
          first | (have hr := all_not (p := isLow) hx (by simp [isLow]; omega); simp [go_sem, Try.results120, nameF, hr]; done) | (have hr := all_end (p := isLow) (show s.length ≤ i by omega) hall; simp [go_sem, Try.results120, nameF, hr] at * <;> grind))
      · intro hc; try simp at hc
        all_goals (
          refine AW.skipN (fun _ h => h) ?_
          refine AW.seq ?_
          refine AW.reg tiOk (fun _ => []) [24] ?_
          intro k hk; simp -dsimp [go_sem, -decide_eq_true_eq, -decide_eq_false_iff_not]
          repeat' (first | refine And.intro ?_ ?_ | refine hk _ ?_ | intro hg | omega | exact True.intro)
          all_goals clear hk k
          refine AW.cond rfl ?_ ?_
          · intro hc; try simp at hc
            all_goals (
              refine AW.reg tiOk (fun _ => []) [2] ?_
              intro k hk; simp -dsimp [go_sem, -decide_eq_true_eq, -decide_eq_false_iff_not]
              repeat' (first | refine And.intro ?_ ?_ | refine hk _ ?_ | intro hg | omega | exact True.intro)
              all_goals clear hk k
              refine AW.retF (ow := []) (muts := []) ?_ (fun h => And.intro (.inr rfl) h)
              first | (have hr := all_not (p := isLow) hx (by simp [isLow]; omega); simp [go_sem, Try.results120, nameF, hr]; done) | (have hr := all_end (p := isLow) (show s.length ≤ i by omega) hall; simp [go_sem, Try.results120, nameF, hr] at * <;> grind))
          · intro hc; try simp at hc
            all_goals (
              refine AW.skipN (fun _ h => h) ?_
              refine AW.reg tiOk (fun _ => []) [2] ?_
              intro k hk; simp -dsimp [go_sem, -decide_eq_true_eq, -decide_eq_false_iff_not]
              repeat' (first | refine And.intro ?_ ?_ | refine hk _ ?_ | intro hg | omega | exact True.intro)
              all_goals clear hk k
              refine AW.retF (ow := []) (muts := []) ?_ (fun h => And.intro (.inr rfl) h)
              first | (have hr := all_not (p := isLow) hx (by simp [isLow]; omega); simp [go_sem, Try.results120, nameF, hr]; done) | (have hr := all_end (p := isLow) (show s.length ≤ i by omega) hall; simp [go_sem, Try.results120, nameF, hr] at * <;> grind))))

end Go.AM

/-! ### G8 -/
set_option linter.unusedVariables false
set_option linter.unusedSimpArgs false
namespace Go.AM
open Go.Proofs

set_option maxHeartbeats 600000 in
set_option linter.unusedSimpArgs false in
set_option maxRecDepth 100000 in
/-- spec.l4One -/
theorem dc_spec_l4One (p : List TStep) (hp : 1 ≤ p.length ∧ p.length ≤ 24) (hg : ∀ e ∈ p, e.gok) (i : Nat) (hi : i < p.length) (h1 : ∀ k, k < i → oneF p k = 0) : DC Try.prog 98 [.isl 6 (p.map TStep.ro), .int .i64 (i : Nat)] (.int .i64 (oneF p i)) [] := by
  obtain ⟨x, hx⟩ := at_some hi
  obtain ⟨g0, g1, g2⟩ := hg x (List.mem_of_getElem? hx)
  have hl := ones_ok i (by omega) h1
  have hL : ((pars p).take i).length = i := take_len (by omega)
  have hxo := oneF_at hx
  have hwi : IntKind.wrap .i64 ((i : Int) - 1) = (i : Int) - 1 := wrap64 (by omega) (by omega)
  have hdi : (decide ((i : Int) = 0)) = decide (i = 0) := by by_cases h : i = 0 <;> simp [h]
  refine DC.intro tiOk Try.func98 rfl rfl rfl rfl rfl rfl rfl rfl [] ?_
  refine AW.reg tiOk (fun _ => []) [0, 1] ?_
  intro k hk; simp -dsimp [go_sem, -decide_eq_true_eq, -decide_eq_false_iff_not, hx, hwi]
  repeat' (first | refine And.intro ?_ ?_ | refine hk _ ?_ | intro hg | omega | exact True.intro)
  all_goals clear hk k
  refine AW.reg tiOk (fun _ => []) [0, 1, 5] ?_
  intro k hk; simp -dsimp [go_sem, -decide_eq_true_eq, -decide_eq_false_iff_not, hx, hwi]
  repeat' (first | refine And.intro ?_ ?_ | refine hk _ ?_ | intro hg | omega | exact True.intro)
  all_goals clear hk k
  refine AW.seq ?_
  refine AW.cut ⟨82, [(0, .isl 6 (p.map TStep.ro)), (1, .int .i64 (i : Nat)), (5, .ip x.ro), (20, .bool (decide (inR x.kind 1 8 = false ∨ alien x = true)))], []⟩ ?_ ?_
  · skip
    refine AW.regK tiOk (fun _ => []) ?_
    intro k hk; simp +contextual -dsimp (maxSteps := 2000000) [go_sem, -decide_eq_true_eq, -decide_eq_false_iff_not, hx, hwi]
    repeat' (first | refine And.intro ?_ ?_ | refine hk _ ?_ | (intro hg; try simp only [decide_eq_true_eq, decide_eq_false_iff_not] at hg) | (refine CallK.intro (dc_spec_l1In _ _ _) ?_; simp +contextual -dsimp (maxSteps := 2000000) [go_sem, -decide_eq_true_eq, -decide_eq_false_iff_not, hx, hwi]) | (refine CallK.intro (dc_spec_l4Bare x ⟨g0, g1, g2⟩) ?_; simp +contextual -dsimp (maxSteps := 2000000) [go_sem, -decide_eq_true_eq, -decide_eq_false_iff_not, hx, hwi]) | omega | exact True.intro)
    all_goals clear hk k
    all_goals (show St.Less _ _; exact Less.of rfl (by simp [go_sem] <;> first | omega | grind) (by simp [go_sem]))
  · skip
    refine AW.cond rfl ?_ ?_
    · intro hc; try simp at hc
      all_goals try (exfalso; omega; done)
      all_goals (
        refine AW.reg tiOk (fun _ => []) [4] ?_
        intro k hk; simp -dsimp [go_sem, -decide_eq_true_eq, -decide_eq_false_iff_not, hx, hwi]
        repeat' (first | refine And.intro ?_ ?_ | refine hk _ ?_ | intro hg | omega | exact True.intro)
        all_goals clear hk k
        refine AW.retF (ow := []) (muts := []) ?_ (fun h => And.intro (.inr rfl) h)
        rw [hxo]
        first | (have hs : stepF ((pars p).take i) x = 1 := (by have := @inR_iff x.kind 1 8; unfold stepF; grind); rw [hs]; simp [go_sem, Try.results98]; done) | (have hs : stepF ((pars p).take i) x = 3 := (by have := @inR_iff x.kind 1 8; unfold stepF; grind); rw [hs]; simp [go_sem, Try.results98]; done) | (have hs : stepF ((pars p).take i) x = 2 := (by have := @inR_iff x.kind 1 8; unfold stepF; grind); rw [hs]; simp [go_sem, Try.results98]; done) | (have hs : stepF ((pars p).take i) x = nameF x.name := (by have := @inR_iff x.kind 1 8; unfold stepF; grind); rw [hs]; simp [go_sem, Try.results98]; done) | (have hs : stepF ((pars p).take i) x = exprF x.expr := (by have := @inR_iff x.kind 1 8; unfold stepF; grind); rw [hs]; simp [go_sem, Try.results98]; done) | (have hs : stepF ((pars p).take i) x = 0 := (by have := @inR_iff x.kind 1 8; unfold stepF; unfold alien at *; unfold lowA highA at *; grind); rw [hs]; simp [go_sem, Try.results98]))
    · intro hc; try simp at hc
      all_goals try (exfalso; omega; done)
      all_goals (
        refine AW.skipN (fun _ h => h) ?_
        refine AW.seq ?_
        refine AW.cut ⟨82, [(0, .isl 6 (p.map TStep.ro)), (1, .int .i64 (i : Nat)), (5, .ip x.ro), (43, .bool (decide (parF ((pars p).take i) x.par = 3)))], []⟩ ?_ ?_
        · skip
          refine AW.regK tiOk (fun _ => []) ?_
          intro k hk; simp +contextual -dsimp (maxSteps := 2000000) [go_sem, -decide_eq_true_eq, -decide_eq_false_iff_not, hx, hwi]
          repeat' (first | refine And.intro ?_ ?_ | refine hk _ ?_ | (intro hg; try simp only [decide_eq_true_eq, decide_eq_false_iff_not] at hg) | (refine CallK.intro (dc_spec_l1In _ _ _) ?_; simp +contextual -dsimp (maxSteps := 2000000) [go_sem, -decide_eq_true_eq, -decide_eq_false_iff_not, hx, hwi]) | omega | exact True.intro)
          all_goals clear hk k
          all_goals (show St.Less _ _; exact Less.of rfl (by simp [go_sem, parF, hL, inR] at * <;> grind) (by simp [go_sem]))
        · skip
          refine AW.cond rfl ?_ ?_
          · intro hc; try simp at hc
            all_goals try (exfalso; omega; done)
            all_goals (
              refine AW.reg tiOk (fun _ => []) [4] ?_
              intro k hk; simp -dsimp [go_sem, -decide_eq_true_eq, -decide_eq_false_iff_not, hx, hwi]
              repeat' (first | refine And.intro ?_ ?_ | refine hk _ ?_ | intro hg | omega | exact True.intro)
              all_goals clear hk k
              refine AW.retF (ow := []) (muts := []) ?_ (fun h => And.intro (.inr rfl) h)
              rw [hxo]
              first | (have hs : stepF ((pars p).take i) x = 1 := (by have := @inR_iff x.kind 1 8; unfold stepF; grind); rw [hs]; simp [go_sem, Try.results98]; done) | (have hs : stepF ((pars p).take i) x = 3 := (by have := @inR_iff x.kind 1 8; unfold stepF; grind); rw [hs]; simp [go_sem, Try.results98]; done) | (have hs : stepF ((pars p).take i) x = 2 := (by have := @inR_iff x.kind 1 8; unfold stepF; grind); rw [hs]; simp [go_sem, Try.results98]; done) | (have hs : stepF ((pars p).take i) x = nameF x.name := (by have := @inR_iff x.kind 1 8; unfold stepF; grind); rw [hs]; simp [go_sem, Try.results98]; done) | (have hs : stepF ((pars p).take i) x = exprF x.expr := (by have := @inR_iff x.kind 1 8; unfold stepF; grind); rw [hs]; simp [go_sem, Try.results98]; done) | (have hs : stepF ((pars p).take i) x = 0 := (by have := @inR_iff x.kind 1 8; unfold stepF; unfold alien at *; unfold lowA highA at *; grind); rw [hs]; simp [go_sem, Try.results98]))
          · intro hc; try simp at hc
            all_goals try (exfalso; omega; done)
            all_goals (
              refine AW.skipN (fun _ h => h) ?_
              refine AW.seq ?_
              refine AW.cut ⟨82, [(0, .isl 6 (p.map TStep.ro)), (1, .int .i64 (i : Nat)), (5, .ip x.ro), (51, .bool (decide (parF ((pars p).take i) x.par = 1)))], []⟩ ?_ ?_
              · skip
                refine AW.regK tiOk (fun _ => []) ?_
                intro k hk; simp +contextual -dsimp (maxSteps := 2000000) [go_sem, -decide_eq_true_eq, -decide_eq_false_iff_not, hx, hwi]
                repeat' (first | refine And.intro ?_ ?_ | refine hk _ ?_ | (intro hg; try simp only [decide_eq_true_eq, decide_eq_false_iff_not] at hg) | (refine CallK.intro (dc_spec_l4Line p hp.2 i x hx (by omega) hl) ?_; simp +contextual -dsimp (maxSteps := 2000000) [go_sem, -decide_eq_true_eq, -decide_eq_false_iff_not, hx, hwi]) | omega | exact True.intro)
                all_goals clear hk k
                all_goals (show St.Less _ _; exact Less.of rfl (by simp [go_sem, parF, hL] at * <;> grind) (by simp [go_sem]))
              · skip
                refine AW.cond rfl ?_ ?_
                · intro hc; try simp at hc
                  all_goals try (exfalso; omega; done)
                  all_goals (
                    refine AW.reg tiOk (fun _ => []) [4] ?_
                    intro k hk; simp -dsimp [go_sem, -decide_eq_true_eq, -decide_eq_false_iff_not, hx, hwi]
                    repeat' (first | refine And.intro ?_ ?_ | refine hk _ ?_ | intro hg | omega | exact True.intro)
                    all_goals clear hk k
                    refine AW.retF (ow := []) (muts := []) ?_ (fun h => And.intro (.inr rfl) h)
                    rw [hxo]
                    first | (have hs : stepF ((pars p).take i) x = 1 := (by have := @inR_iff x.kind 1 8; unfold stepF; grind); rw [hs]; simp [go_sem, Try.results98]; done) | (have hs : stepF ((pars p).take i) x = 3 := (by have := @inR_iff x.kind 1 8; unfold stepF; grind); rw [hs]; simp [go_sem, Try.results98]; done) | (have hs : stepF ((pars p).take i) x = 2 := (by have := @inR_iff x.kind 1 8; unfold stepF; grind); rw [hs]; simp [go_sem, Try.results98]; done) | (have hs : stepF ((pars p).take i) x = nameF x.name := (by have := @inR_iff x.kind 1 8; unfold stepF; grind); rw [hs]; simp [go_sem, Try.results98]; done) | (have hs : stepF ((pars p).take i) x = exprF x.expr := (by have := @inR_iff x.kind 1 8; unfold stepF; grind); rw [hs]; simp [go_sem, Try.results98]; done) | (have hs : stepF ((pars p).take i) x = 0 := (by have := @inR_iff x.kind 1 8; unfold stepF; unfold alien at *; unfold lowA highA at *; grind); rw [hs]; simp [go_sem, Try.results98]))
                · intro hc; try simp at hc
                  all_goals try (exfalso; omega; done)
                  all_goals (
                    refine AW.skipN (fun _ h => h) ?_
                    refine AW.seq ?_
                    have hz : parF ((pars p).take i) x.par = 0 := by have : parF ((pars p).take i) x.par = 0 ∨ parF ((pars p).take i) x.par = 1 ∨ parF ((pars p).take i) x.par = 3 := (by unfold parF; split; exact Or.inr (Or.inr rfl); split; exact Or.inr (Or.inl rfl); exact Or.inl rfl); grind
                    have hpo := parF_ok hz
                    have htn := take_next hx
                    have hl2 : ParOk ((pars p).take (i + 1)) := by rw [htn]; exact hl.snoc hpo.1 hpo.2.1
                    refine AW.reg tiOk (fun _ => []) [5, 55] ?_
                    intro k hk; simp -dsimp (maxSteps := 2000000) [go_sem, -decide_eq_true_eq, -decide_eq_false_iff_not, hx, hwi, htn]
                    repeat' (first | refine And.intro ?_ ?_ | refine hk _ ?_ | intro hg | (refine CallK.intro (dc_spec_l4Deep p hp.2 (i + 1) (by omega) hl2 (i : Int) (by omega)) ?_; simp -dsimp (maxSteps := 2000000) [go_sem, -decide_eq_true_eq, -decide_eq_false_iff_not, hx, hwi, htn]) | omega | exact True.intro)
                    all_goals clear hk k
                    refine AW.cond rfl ?_ ?_
                    · intro hc; try simp at hc
                      all_goals try (exfalso; omega; done)
                      all_goals (
                        refine AW.reg tiOk (fun _ => []) [4] ?_
                        intro k hk; simp -dsimp [go_sem, -decide_eq_true_eq, -decide_eq_false_iff_not, hx, hwi]
                        repeat' (first | refine And.intro ?_ ?_ | refine hk _ ?_ | intro hg | omega | exact True.intro)
                        all_goals clear hk k
                        refine AW.retF (ow := []) (muts := []) ?_ (fun h => And.intro (.inr rfl) h)
                        rw [hxo]
                        first | (have hs : stepF ((pars p).take i) x = 1 := (by have := @inR_iff x.kind 1 8; unfold stepF; grind); rw [hs]; simp [go_sem, Try.results98]; done) | (have hs : stepF ((pars p).take i) x = 3 := (by have := @inR_iff x.kind 1 8; unfold stepF; grind); rw [hs]; simp [go_sem, Try.results98]; done) | (have hs : stepF ((pars p).take i) x = 2 := (by have := @inR_iff x.kind 1 8; unfold stepF; grind); rw [hs]; simp [go_sem, Try.results98]; done) | (have hs : stepF ((pars p).take i) x = nameF x.name := (by have := @inR_iff x.kind 1 8; unfold stepF; grind); rw [hs]; simp [go_sem, Try.results98]; done) | (have hs : stepF ((pars p).take i) x = exprF x.expr := (by have := @inR_iff x.kind 1 8; unfold stepF; grind); rw [hs]; simp [go_sem, Try.results98]; done) | (have hs : stepF ((pars p).take i) x = 0 := (by have := @inR_iff x.kind 1 8; unfold stepF; unfold alien at *; unfold lowA highA at *; grind); rw [hs]; simp [go_sem, Try.results98]))
                    · intro hc; try simp at hc
                      all_goals try (exfalso; omega; done)
                      all_goals (
                        refine AW.skipN (fun _ h => h) ?_
                        refine AW.seq ?_
                        refine AW.reg tiOk (fun _ => []) [5, 60] ?_
                        intro k hk; simp -dsimp [go_sem, -decide_eq_true_eq, -decide_eq_false_iff_not, hx, hwi]
                        repeat' (first | refine And.intro ?_ ?_ | refine hk _ ?_ | intro hg | omega | exact True.intro)
                        all_goals clear hk k
                        refine AW.cond rfl ?_ ?_
                        · intro hc; try simp at hc
                          all_goals try (exfalso; omega; done)
                          all_goals (
                            refine AW.reg tiOk (fun _ => []) [5, 6] ?_
                            intro k hk; simp -dsimp (maxSteps := 2000000) [go_sem, -decide_eq_true_eq, -decide_eq_false_iff_not, hx, hwi]
                            repeat' (first | refine And.intro ?_ ?_ | refine hk _ ?_ | intro hg | (refine CallK.intro (dc_spec_l1Name x.name g0) ?_; simp -dsimp (maxSteps := 2000000) [go_sem, -decide_eq_true_eq, -decide_eq_false_iff_not, hx, hwi]) | omega | exact True.intro)
                            all_goals clear hk k
                            refine AW.reg tiOk (fun _ => []) [5, 6, 67] ?_
                            intro k hk; simp -dsimp [go_sem, -decide_eq_true_eq, -decide_eq_false_iff_not, hx, hwi]
                            repeat' (first | refine And.intro ?_ ?_ | refine hk _ ?_ | intro hg | omega | exact True.intro)
                            all_goals clear hk k
                            refine AW.cond rfl ?_ ?_
                            · intro hc; try simp at hc
                              all_goals try (exfalso; omega; done)
                              all_goals (
                                refine AW.reg tiOk (fun _ => []) [4] ?_
                                intro k hk; simp -dsimp [go_sem, -decide_eq_true_eq, -decide_eq_false_iff_not, hx, hwi]
                                repeat' (first | refine And.intro ?_ ?_ | refine hk _ ?_ | intro hg | omega | exact True.intro)
                                all_goals clear hk k
                                refine AW.retF (ow := []) (muts := []) ?_ (fun h => And.intro (.inr rfl) h)
                                rw [hxo]
                                first | (have hs : stepF ((pars p).take i) x = 1 := (by have := @inR_iff x.kind 1 8; unfold stepF; grind); rw [hs]; simp [go_sem, Try.results98]; done) | (have hs : stepF ((pars p).take i) x = 3 := (by have := @inR_iff x.kind 1 8; unfold stepF; grind); rw [hs]; simp [go_sem, Try.results98]; done) | (have hs : stepF ((pars p).take i) x = 2 := (by have := @inR_iff x.kind 1 8; unfold stepF; grind); rw [hs]; simp [go_sem, Try.results98]; done) | (have hs : stepF ((pars p).take i) x = nameF x.name := (by have := @inR_iff x.kind 1 8; unfold stepF; grind); rw [hs]; simp [go_sem, Try.results98]; done) | (have hs : stepF ((pars p).take i) x = exprF x.expr := (by have := @inR_iff x.kind 1 8; unfold stepF; grind); rw [hs]; simp [go_sem, Try.results98]; done) | (have hs : stepF ((pars p).take i) x = 0 := (by have := @inR_iff x.kind 1 8; unfold stepF; unfold alien at *; unfold lowA highA at *; grind); rw [hs]; simp [go_sem, Try.results98]))
                            · intro hc; try simp at hc
                              all_goals try (exfalso; omega; done)
                              all_goals (
                                refine AW.skipN (fun _ h => h) ?_
                                refine AW.seq ?_
                                refine AW.reg tiOk (fun _ => []) [5, 71] ?_
                                intro k hk; simp -dsimp (maxSteps := 2000000) [go_sem, -decide_eq_true_eq, -decide_eq_false_iff_not, hx, hwi]
                                repeat' (first | refine And.intro ?_ ?_ | refine hk _ ?_ | intro hg | (refine CallK.intro (dc_spec_l4Arg _) ?_; simp -dsimp (maxSteps := 2000000) [go_sem, -decide_eq_true_eq, -decide_eq_false_iff_not, hx, hwi]) | omega | exact True.intro)
                                all_goals clear hk k
                                refine AW.cond rfl ?_ ?_
                                · intro hc; try simp at hc
                                  all_goals try (exfalso; omega; done)
                                  all_goals (
                                    refine AW.reg tiOk (fun _ => []) [4] ?_
                                    intro k hk; simp -dsimp [go_sem, -decide_eq_true_eq, -decide_eq_false_iff_not, hx, hwi]
                                    repeat' (first | refine And.intro ?_ ?_ | refine hk _ ?_ | intro hg | omega | exact True.intro)
                                    all_goals clear hk k
                                    refine AW.retF (ow := []) (muts := []) ?_ (fun h => And.intro (.inr rfl) h)
                                    rw [hxo]
                                    first | (have hs : stepF ((pars p).take i) x = 1 := (by have := @inR_iff x.kind 1 8; unfold stepF; grind); rw [hs]; simp [go_sem, Try.results98]; done) | (have hs : stepF ((pars p).take i) x = 3 := (by have := @inR_iff x.kind 1 8; unfold stepF; grind); rw [hs]; simp [go_sem, Try.results98]; done) | (have hs : stepF ((pars p).take i) x = 2 := (by have := @inR_iff x.kind 1 8; unfold stepF; grind); rw [hs]; simp [go_sem, Try.results98]; done) | (have hs : stepF ((pars p).take i) x = nameF x.name := (by have := @inR_iff x.kind 1 8; unfold stepF; grind); rw [hs]; simp [go_sem, Try.results98]; done) | (have hs : stepF ((pars p).take i) x = exprF x.expr := (by have := @inR_iff x.kind 1 8; unfold stepF; grind); rw [hs]; simp [go_sem, Try.results98]; done) | (have hs : stepF ((pars p).take i) x = 0 := (by have := @inR_iff x.kind 1 8; unfold stepF; unfold alien at *; unfold lowA highA at *; grind); rw [hs]; simp [go_sem, Try.results98]))
                                · intro hc; try simp at hc
                                  all_goals try (exfalso; omega; done)
                                  all_goals (
                                    refine AW.skipN (fun _ h => h) ?_
                                    refine AW.seq ?_
                                    refine AW.reg tiOk (fun _ => []) [5, 76] ?_
                                    intro k hk; simp -dsimp [go_sem, -decide_eq_true_eq, -decide_eq_false_iff_not, hx, hwi]
                                    repeat' (first | refine And.intro ?_ ?_ | refine hk _ ?_ | intro hg | omega | exact True.intro)
                                    all_goals clear hk k
                                    refine AW.cond rfl ?_ ?_
                                    · intro hc; try simp at hc
                                      all_goals try (exfalso; omega; done)
                                      all_goals (
                                        refine AW.reg tiOk (fun _ => []) [4] ?_
                                        intro k hk; simp -dsimp (maxSteps := 2000000) [go_sem, -decide_eq_true_eq, -decide_eq_false_iff_not, hx, hwi]
                                        repeat' (first | refine And.intro ?_ ?_ | refine hk _ ?_ | intro hg | (refine CallK.intro (dc_spec_l3Fault x.expr g2) ?_; simp -dsimp (maxSteps := 2000000) [go_sem, -decide_eq_true_eq, -decide_eq_false_iff_not, hx, hwi]) | omega | exact True.intro)
                                        all_goals clear hk k
                                        refine AW.retF (ow := []) (muts := []) ?_ (fun h => And.intro (.inr rfl) h)
                                        rw [hxo]
                                        first | (have hs : stepF ((pars p).take i) x = 1 := (by have := @inR_iff x.kind 1 8; unfold stepF; grind); rw [hs]; simp [go_sem, Try.results98]; done) | (have hs : stepF ((pars p).take i) x = 3 := (by have := @inR_iff x.kind 1 8; unfold stepF; grind); rw [hs]; simp [go_sem, Try.results98]; done) | (have hs : stepF ((pars p).take i) x = 2 := (by have := @inR_iff x.kind 1 8; unfold stepF; grind); rw [hs]; simp [go_sem, Try.results98]; done) | (have hs : stepF ((pars p).take i) x = nameF x.name := (by have := @inR_iff x.kind 1 8; unfold stepF; grind); rw [hs]; simp [go_sem, Try.results98]; done) | (have hs : stepF ((pars p).take i) x = exprF x.expr := (by have := @inR_iff x.kind 1 8; unfold stepF; grind); rw [hs]; simp [go_sem, Try.results98]; done) | (have hs : stepF ((pars p).take i) x = 0 := (by have := @inR_iff x.kind 1 8; unfold stepF; unfold alien at *; unfold lowA highA at *; grind); rw [hs]; simp [go_sem, Try.results98]))
                                    · intro hc; try simp at hc
                                      all_goals try (exfalso; omega; done)
                                      all_goals (
                                        refine AW.skipN (fun _ h => h) ?_
                                        refine AW.reg tiOk (fun _ => []) [4] ?_
                                        intro k hk; simp -dsimp [go_sem, -decide_eq_true_eq, -decide_eq_false_iff_not, hx, hwi]
                                        repeat' (first | refine And.intro ?_ ?_ | refine hk _ ?_ | intro hg | omega | exact True.intro)
                                        all_goals clear hk k
                                        refine AW.retF (ow := []) (muts := []) ?_ (fun h => And.intro (.inr rfl) h)
                                        rw [hxo]
                                        first | (have hs : stepF ((pars p).take i) x = 1 := (by have := @inR_iff x.kind 1 8; unfold stepF; grind); rw [hs]; simp [go_sem, Try.results98]; done) | (have hs : stepF ((pars p).take i) x = 3 := (by have := @inR_iff x.kind 1 8; unfold stepF; grind); rw [hs]; simp [go_sem, Try.results98]; done) | (have hs : stepF ((pars p).take i) x = 2 := (by have := @inR_iff x.kind 1 8; unfold stepF; grind); rw [hs]; simp [go_sem, Try.results98]; done) | (have hs : stepF ((pars p).take i) x = nameF x.name := (by have := @inR_iff x.kind 1 8; unfold stepF; grind); rw [hs]; simp [go_sem, Try.results98]; done) | (have hs : stepF ((pars p).take i) x = exprF x.expr := (by have := @inR_iff x.kind 1 8; unfold stepF; grind); rw [hs]; simp [go_sem, Try.results98]; done) | (have hs : stepF ((pars p).take i) x = 0 := (by have := @inR_iff x.kind 1 8; unfold stepF; unfold alien at *; unfold lowA highA at *; grind); rw [hs]; simp [go_sem, Try.results98])))))
                        · intro hc; try simp at hc
                          all_goals try (exfalso; omega; done)
                          all_goals (
                            refine AW.skipN (fun _ h => h) ?_
                            refine AW.seq ?_
                            refine AW.reg tiOk (fun _ => []) [5, 71] ?_
                            intro k hk; simp -dsimp (maxSteps := 2000000) [go_sem, -decide_eq_true_eq, -decide_eq_false_iff_not, hx, hwi]
                            repeat' (first | refine And.intro ?_ ?_ | refine hk _ ?_ | intro hg | (refine CallK.intro (dc_spec_l4Arg _) ?_; simp -dsimp (maxSteps := 2000000) [go_sem, -decide_eq_true_eq, -decide_eq_false_iff_not, hx, hwi]) | omega | exact True.intro)
                            all_goals clear hk k
                            refine AW.cond rfl ?_ ?_
                            · intro hc; try simp at hc
                              all_goals try (exfalso; omega; done)
                              all_goals (
                                refine AW.reg tiOk (fun _ => []) [4] ?_
                                intro k hk; simp -dsimp [go_sem, -decide_eq_true_eq, -decide_eq_false_iff_not, hx, hwi]
                                repeat' (first | refine And.intro ?_ ?_ | refine hk _ ?_ | intro hg | omega | exact True.intro)
                                all_goals clear hk k
                                refine AW.retF (ow := []) (muts := []) ?_ (fun h => And.intro (.inr rfl) h)
                                rw [hxo]
                                first | (have hs : stepF ((pars p).take i) x = 1 := (by have := @inR_iff x.kind 1 8; unfold stepF; grind); rw [hs]; simp [go_sem, Try.results98]; done) | (have hs : stepF ((pars p).take i) x = 3 := (by have := @inR_iff x.kind 1 8; unfold stepF; grind); rw [hs]; simp [go_sem, Try.results98]; done) | (have hs : stepF ((pars p).take i) x = 2 := (by have := @inR_iff x.kind 1 8; unfold stepF; grind); rw [hs]; simp [go_sem, Try.results98]; done) | (have hs : stepF ((pars p).take i) x = nameF x.name := (by have := @inR_iff x.kind 1 8; unfold stepF; grind); rw [hs]; simp [go_sem, Try.results98]; done) | (have hs : stepF ((pars p).take i) x = exprF x.expr := (by have := @inR_iff x.kind 1 8; unfold stepF; grind); rw [hs]; simp [go_sem, Try.results98]; done) | (have hs : stepF ((pars p).take i) x = 0 := (by have := @inR_iff x.kind 1 8; unfold stepF; unfold alien at *; unfold lowA highA at *; grind); rw [hs]; simp [go_sem, Try.results98]))
                            · intro hc; try simp at hc
                              all_goals try (exfalso; omega; done)
                              all_goals (
                                refine AW.skipN (fun _ h => h) ?_
                                refine AW.seq ?_
                                refine AW.reg tiOk (fun _ => []) [5, 76] ?_
                                intro k hk; simp -dsimp [go_sem, -decide_eq_true_eq, -decide_eq_false_iff_not, hx, hwi]
                                repeat' (first | refine And.intro ?_ ?_ | refine hk _ ?_ | intro hg | omega | exact True.intro)
                                all_goals clear hk k
                                refine AW.cond rfl ?_ ?_
                                · intro hc; try simp at hc
                                  all_goals try (exfalso; omega; done)
                                  all_goals (
                                    refine AW.reg tiOk (fun _ => []) [4] ?_
                                    intro k hk; simp -dsimp (maxSteps := 2000000) [go_sem, -decide_eq_true_eq, -decide_eq_false_iff_not, hx, hwi]
                                    repeat' (first | refine And.intro ?_ ?_ | refine hk _ ?_ | intro hg | (refine CallK.intro (dc_spec_l3Fault x.expr g2) ?_; simp -dsimp (maxSteps := 2000000) [go_sem, -decide_eq_true_eq, -decide_eq_false_iff_not, hx, hwi]) | omega | exact True.intro)
                                    all_goals clear hk k
                                    refine AW.retF (ow := []) (muts := []) ?_ (fun h => And.intro (.inr rfl) h)
                                    rw [hxo]
                                    first | (have hs : stepF ((pars p).take i) x = 1 := (by have := @inR_iff x.kind 1 8; unfold stepF; grind); rw [hs]; simp [go_sem, Try.results98]; done) | (have hs : stepF ((pars p).take i) x = 3 := (by have := @inR_iff x.kind 1 8; unfold stepF; grind); rw [hs]; simp [go_sem, Try.results98]; done) | (have hs : stepF ((pars p).take i) x = 2 := (by have := @inR_iff x.kind 1 8; unfold stepF; grind); rw [hs]; simp [go_sem, Try.results98]; done) | (have hs : stepF ((pars p).take i) x = nameF x.name := (by have := @inR_iff x.kind 1 8; unfold stepF; grind); rw [hs]; simp [go_sem, Try.results98]; done) | (have hs : stepF ((pars p).take i) x = exprF x.expr := (by have := @inR_iff x.kind 1 8; unfold stepF; grind); rw [hs]; simp [go_sem, Try.results98]; done) | (have hs : stepF ((pars p).take i) x = 0 := (by have := @inR_iff x.kind 1 8; unfold stepF; unfold alien at *; unfold lowA highA at *; grind); rw [hs]; simp [go_sem, Try.results98]))
                                · intro hc; try simp at hc
                                  all_goals try (exfalso; omega; done)
                                  all_goals (
                                    refine AW.skipN (fun _ h => h) ?_
                                    refine AW.reg tiOk (fun _ => []) [4] ?_
                                    intro k hk; simp -dsimp [go_sem, -decide_eq_true_eq, -decide_eq_false_iff_not, hx, hwi]
                                    repeat' (first | refine And.intro ?_ ?_ | refine hk _ ?_ | intro hg | omega | exact True.intro)
                                    all_goals clear hk k
                                    refine AW.retF (ow := []) (muts := []) ?_ (fun h => And.intro (.inr rfl) h)
                                    rw [hxo]
                                    first | (have hs : stepF ((pars p).take i) x = 1 := (by have := @inR_iff x.kind 1 8; unfold stepF; grind); rw [hs]; simp [go_sem, Try.results98]; done) | (have hs : stepF ((pars p).take i) x = 3 := (by have := @inR_iff x.kind 1 8; unfold stepF; grind); rw [hs]; simp [go_sem, Try.results98]; done) | (have hs : stepF ((pars p).take i) x = 2 := (by have := @inR_iff x.kind 1 8; unfold stepF; grind); rw [hs]; simp [go_sem, Try.results98]; done) | (have hs : stepF ((pars p).take i) x = nameF x.name := (by have := @inR_iff x.kind 1 8; unfold stepF; grind); rw [hs]; simp [go_sem, Try.results98]; done) | (have hs : stepF ((pars p).take i) x = exprF x.expr := (by have := @inR_iff x.kind 1 8; unfold stepF; grind); rw [hs]; simp [go_sem, Try.results98]; done) | (have hs : stepF ((pars p).take i) x = 0 := (by have := @inR_iff x.kind 1 8; unfold stepF; unfold alien at *; unfold lowA highA at *; grind); rw [hs]; simp [go_sem, Try.results98]))))))))

end Go.AM

/-! ### G9 -/
set_option linter.unusedVariables false
set_option linter.unusedSimpArgs false
namespace Go.AM
open Go.Proofs

set_option maxHeartbeats 600000 in
set_option linter.unusedSimpArgs false in
set_option maxRecDepth 100000 in
/-- spec.l4Shape -/
theorem dc_spec_l4Shape (p : List TStep) (ho : StepsOk p) (hg : ∀ e ∈ p, e.gok) : DC Try.prog 99 [.isl 6 (p.map TStep.ro)] (.int .i64 (sc (shapeF p) p.length 0)) [] := by
  have hlen := ho.len
  refine DC.intro tiOk Try.func99 rfl rfl rfl rfl rfl rfl rfl rfl [] ?_
  refine AW.reg tiOk (fun _ => []) [0] ?_
  intro k hk; simp -dsimp [go_sem, -decide_eq_true_eq, -decide_eq_false_iff_not]
  repeat' (first | refine And.intro ?_ ?_ | refine hk _ ?_ | intro hg | omega | exact True.intro)
  all_goals clear hk k
  refine AW.seq ?_
  refine AW.reg tiOk (fun _ => []) [0, 3] ?_
  intro k hk; simp -dsimp [go_sem, -decide_eq_true_eq, -decide_eq_false_iff_not]
  repeat' (first | refine And.intro ?_ ?_ | refine hk _ ?_ | intro hg | omega | exact True.intro)
  all_goals clear hk k
  refine AW.block ?_
  -- live at the loop's head: [0, 3]
  refine AW.loopI (fun i : Nat => ⟨49, [(0, .isl 6 (p.map TStep.ro)), (3, .int .i64 i)], []⟩) (fun i => i ≤ p.length ∧ ∀ k, k < i → shapeF p k = 0) (fun i => p.length - i) (0) (by simp) (Less.of rfl (by simp [go_sem]) (by simp [go_sem])) ?_
  rintro i ⟨hi, hall⟩
  refine AW.seq ?_
  refine AW.reg tiOk (fun _ => []) [0, 3, 8] ?_
  intro k hk; simp -dsimp [go_sem, -decide_eq_true_eq, -decide_eq_false_iff_not]
  repeat' (first | refine And.intro ?_ ?_ | refine hk _ ?_ | intro hg | omega | exact True.intro)
  all_goals clear hk k
  refine AW.cond rfl ?_ ?_
  · intro hc; try simp at hc
    all_goals (
      have hlt : i < p.length := by assumption
      obtain ⟨x, hx⟩ := at_some hlt
      have hxS := nS_at hx
      obtain ⟨g0, g1, g2⟩ := hg x (List.mem_of_getElem? hx)
      have hkm := kids_len p (i : Int)
      refine AW.skipN (fun _ h => h) ?_
      refine AW.seq ?_
      refine AW.block ?_
      refine AW.seq ?_
      refine AW.reg tiOk (fun _ => []) [0, 3, 21] ?_
      intro k hk; simp -dsimp (maxSteps := 2000000) [go_sem, -decide_eq_true_eq, -decide_eq_false_iff_not, hx]
      repeat' (first | refine And.intro ?_ ?_ | (refine Chk.keys ?_; simp only [go_sem, List.map_cons, List.map_nil, List.flatMap_cons, List.flatMap_nil, List.flatMap_append, List.append_nil, List.nil_append, List.cons_append]; decide +kernel) | refine hk _ ?_ | intro hg | (refine CallK.intro (dc_spec_l4Kids p (i : Int) (by omega) (by rw [ho.par0]; omega)) ?_; simp -dsimp (maxSteps := 2000000) [go_sem, -decide_eq_true_eq, -decide_eq_false_iff_not, hx]) | (refine CallK.intro (dc_spec_l4Many x.kind (kids p (i : Int)).length (by omega)) ?_; simp -dsimp (maxSteps := 2000000) [go_sem, -decide_eq_true_eq, -decide_eq_false_iff_not, hx]) | omega | exact True.intro)
      all_goals clear hk k
      refine AW.cond rfl ?_ ?_
      · intro hc; try simp at hc
        all_goals (
          refine AW.reg tiOk (fun _ => []) [2] ?_
          intro k hk; simp -dsimp [go_sem, -decide_eq_true_eq, -decide_eq_false_iff_not, hx]
          repeat' (first | refine And.intro ?_ ?_ | refine hk _ ?_ | intro hg | omega | exact True.intro)
          all_goals clear hk k
          refine AW.retF (ow := []) (muts := []) ?_ (fun h => And.intro (.inr rfl) h)
          first | (rw [sc_none (fun k hk => hall k (by omega))]; simp [go_sem, Try.results99]; done) | (have hs : shapeF p i = 1 := (by simp [shapeF, hxS] at * <;> grind); rw [shape_sc hlt hall (by rw [hs]; decide), hs]; simp [go_sem, Try.results99]; done) | (have hs : shapeF p i = exprF x.cond := (by simp [shapeF, hxS] at * <;> grind); rw [shape_sc hlt hall (by rw [hs]; first | assumption | simpa using hc), hs]; simp [go_sem, Try.results99]))
      · intro hc; try simp at hc
        all_goals (
          refine AW.skipN (fun _ h => h) ?_
          refine AW.seq ?_
          refine AW.reg tiOk (fun _ => []) [0, 3, 32] ?_
          intro k hk; simp -dsimp (maxSteps := 2000000) [go_sem, -decide_eq_true_eq, -decide_eq_false_iff_not, hx]
          repeat' (first | refine And.intro ?_ ?_ | (refine Chk.keys ?_; simp only [go_sem, List.map_cons, List.map_nil, List.flatMap_cons, List.flatMap_nil, List.flatMap_append, List.append_nil, List.nil_append, List.cons_append]; decide +kernel) | refine hk _ ?_ | intro hg | (refine CallK.intro (dc_spec_l4Needs p ho i hlt) ?_; simp -dsimp (maxSteps := 2000000) [go_sem, -decide_eq_true_eq, -decide_eq_false_iff_not, hx]) | omega | exact True.intro)
          all_goals clear hk k
          refine AW.cond rfl ?_ ?_
          · intro hc; try simp at hc
            all_goals (
              refine AW.reg tiOk (fun _ => []) [2] ?_
              intro k hk; simp -dsimp [go_sem, -decide_eq_true_eq, -decide_eq_false_iff_not, hx]
              repeat' (first | refine And.intro ?_ ?_ | refine hk _ ?_ | intro hg | omega | exact True.intro)
              all_goals clear hk k
              refine AW.retF (ow := []) (muts := []) ?_ (fun h => And.intro (.inr rfl) h)
              first | (rw [sc_none (fun k hk => hall k (by omega))]; simp [go_sem, Try.results99]; done) | (have hs : shapeF p i = 1 := (by simp [shapeF, hxS] at * <;> grind); rw [shape_sc hlt hall (by rw [hs]; decide), hs]; simp [go_sem, Try.results99]; done) | (have hs : shapeF p i = exprF x.cond := (by simp [shapeF, hxS] at * <;> grind); rw [shape_sc hlt hall (by rw [hs]; first | assumption | simpa using hc), hs]; simp [go_sem, Try.results99]))
          · intro hc; try simp at hc
            all_goals (
              refine AW.skipN (fun _ h => h) ?_
              refine AW.reg tiOk (fun _ => []) [0, 3, 39] ?_
              intro k hk; simp -dsimp (maxSteps := 2000000) [go_sem, -decide_eq_true_eq, -decide_eq_false_iff_not, hx]
              repeat' (first | refine And.intro ?_ ?_ | refine hk _ ?_ | intro hg | omega | exact True.intro)
              all_goals clear hk k
              refine AW.cond rfl ?_ ?_
              · intro hc; try simp at hc
                all_goals (
                  refine AW.reg tiOk (fun _ => []) [0, 3, 4] ?_
                  intro k hk; simp -dsimp (maxSteps := 2000000) [go_sem, -decide_eq_true_eq, -decide_eq_false_iff_not, hx]
                  repeat' (first | refine And.intro ?_ ?_ | refine hk _ ?_ | intro hg | (refine CallK.intro (dc_spec_l3Fault x.cond g1) ?_; simp -dsimp (maxSteps := 2000000) [go_sem, -decide_eq_true_eq, -decide_eq_false_iff_not, hx]) | omega | exact True.intro)
                  all_goals clear hk k
                  refine AW.reg tiOk (fun _ => []) [0, 3, 4, 47] ?_
                  intro k hk; simp -dsimp [go_sem, -decide_eq_true_eq, -decide_eq_false_iff_not, hx]
                  repeat' (first | refine And.intro ?_ ?_ | refine hk _ ?_ | intro hg | omega | exact True.intro)
                  all_goals clear hk k
                  refine AW.cond rfl ?_ ?_
                  · intro hc; try simp at hc
                    all_goals (
                      refine AW.reg tiOk (fun _ => []) [2] ?_
                      intro k hk; simp -dsimp [go_sem, -decide_eq_true_eq, -decide_eq_false_iff_not, hx]
                      repeat' (first | refine And.intro ?_ ?_ | refine hk _ ?_ | intro hg | omega | exact True.intro)
                      all_goals clear hk k
                      refine AW.retF (ow := []) (muts := []) ?_ (fun h => And.intro (.inr rfl) h)
                      first | (rw [sc_none (fun k hk => hall k (by omega))]; simp [go_sem, Try.results99]; done) | (have hs : shapeF p i = 1 := (by simp [shapeF, hxS] at * <;> grind); rw [shape_sc hlt hall (by rw [hs]; decide), hs]; simp [go_sem, Try.results99]; done) | (have hs : shapeF p i = exprF x.cond := (by simp [shapeF, hxS] at * <;> grind); rw [shape_sc hlt hall (by rw [hs]; first | assumption | simpa using hc), hs]; simp [go_sem, Try.results99]))
                  · intro hc; try simp at hc
                    all_goals (
                      refine AW.skipN (fun _ h => h) ?_
                      refine AW.regK tiOk (fun _ => []) ?_
                      intro k hk; simp -dsimp [go_sem, -decide_eq_true_eq, -decide_eq_false_iff_not, hx]
                      repeat' (first | refine And.intro ?_ ?_ | refine hk _ ?_ | intro hg | omega | exact True.intro)
                      all_goals clear hk k
                      show ∃ _, _
                      have hw := wrapi hlt (by omega)
                      refine ⟨i + 1, ⟨by omega, upto hall (by simp [shapeF, hxS] at * <;> grind)⟩, by omega, Less.of rfl (by simp [go_sem, hw]) (by simp [go_sem])⟩))
              · intro hc; try simp at hc
                all_goals (
                  refine AW.skipN (fun _ h => h) ?_
                  refine AW.regK tiOk (fun _ => []) ?_
                  intro k hk; simp -dsimp [go_sem, -decide_eq_true_eq, -decide_eq_false_iff_not, hx]
                  repeat' (first | refine And.intro ?_ ?_ | refine hk _ ?_ | intro hg | omega | exact True.intro)
                  all_goals clear hk k
                  show ∃ _, _
                  have hw := wrapi hlt (by omega)
                  refine ⟨i + 1, ⟨by omega, upto hall (by simp [shapeF, hxS] at * <;> grind)⟩, by omega, Less.of rfl (by simp [go_sem, hw]) (by simp [go_sem])⟩))))
  · intro hc; try simp at hc
    all_goals (
      refine AW.exitN (fun _ h => h) ?_
      refine AW.reg tiOk (fun _ => []) [2] ?_
      intro k hk; simp -dsimp [go_sem, -decide_eq_true_eq, -decide_eq_false_iff_not]
      repeat' (first | refine And.intro ?_ ?_ | refine hk _ ?_ | intro hg | omega | exact True.intro)
      all_goals clear hk k
      refine AW.retF (ow := []) (muts := []) ?_ (fun h => And.intro (.inr rfl) h)
      first | (rw [sc_none (fun k hk => hall k (by omega))]; simp [go_sem, Try.results99]; done) | (have hs : shapeF p i = 1 := (by simp [shapeF, hxS] at * <;> grind); rw [shape_sc hlt hall (by rw [hs]; decide), hs]; simp [go_sem, Try.results99]; done) | (have hs : shapeF p i = exprF x.cond := (by simp [shapeF, hxS] at * <;> grind); rw [shape_sc hlt hall (by rw [hs]; first | assumption | simpa using hc), hs]; simp [go_sem, Try.results99]))

end Go.AM

/-! ### Ga -/
set_option linter.unusedVariables false
set_option linter.unusedSimpArgs false
namespace Go.AM
open Go.Proofs

set_option maxHeartbeats 600000 in
set_option linter.unusedSimpArgs false in
set_option maxRecDepth 100000 in
/-- spec.l4Fault -/
theorem dc_spec_l4Fault (p : List TStep) (hp : p.length ≤ 9223372036854775807) (hg : ∀ e ∈ p, e.gok) : DC Try.prog 74 [.isl 6 (p.map TStep.ro)] (.int .i64 (procF p)) [] := by
  refine DC.intro tiOk Try.func74 rfl rfl rfl rfl rfl rfl rfl rfl [] ?_
  refine AW.reg tiOk (fun _ => []) [0] ?_
  intro k hk; simp -dsimp [go_sem, -decide_eq_true_eq, -decide_eq_false_iff_not]
  repeat' (first | refine And.intro ?_ ?_ | refine hk _ ?_ | intro hg | omega | exact True.intro)
  all_goals clear hk k
  refine AW.seq ?_
  refine AW.cut ⟨58, [(0, .isl 6 (p.map TStep.ro)), (16, .bool (decide (p.length < 1 ∨ 24 < p.length)))], []⟩ ?_ ?_
  · skip
    refine AW.regK tiOk (fun _ => []) ?_
    intro k hk; simp +contextual -dsimp (maxSteps := 2000000) [go_sem, -decide_eq_true_eq, -decide_eq_false_iff_not]
    repeat' (first | refine And.intro ?_ ?_ | refine hk _ ?_ | (intro hg; try simp only [decide_eq_true_eq, decide_eq_false_iff_not] at hg) | omega | exact True.intro)
    all_goals clear hk k
    all_goals (show St.Less _ _; exact Less.of rfl (by simp [go_sem, -Nat.lt_one_iff, -List.length_eq_zero_iff] <;> first | omega | grind) (by simp [go_sem]))
  · skip
    refine AW.cond rfl ?_ ?_
    · intro hc; try simp at hc
      all_goals (
        refine AW.reg tiOk (fun _ => []) [2] ?_
        intro k hk; simp -dsimp [go_sem, -decide_eq_true_eq, -decide_eq_false_iff_not]
        repeat' (first | refine And.intro ?_ ?_ | refine hk _ ?_ | intro hg | omega | exact True.intro)
        all_goals clear hk k
        refine AW.retF (ow := []) (muts := []) ?_ (fun h => And.intro (.inr rfl) h)
        first | (rw [procF_len' (by simpa using hc)]; simp [go_sem, Try.results74]; done) | (rw [procF_ok hR h1 h2 h3]; simp [go_sem, Try.results74]; done) | (have hty : tyF p i = typF x.cond 2 := (by rw [hxt]; grind); rw [procF_ty hR h1 h2 hlt hal3 (by rw [hty]; first | assumption | simpa using hc), hty]; simp [go_sem, Try.results74]; done) | (have hty : tyF p i = typF x.expr 1 := (by rw [hxt]; grind); rw [procF_ty hR h1 h2 hlt hal3 (by rw [hty]; first | assumption | simpa using hc), hty]; simp [go_sem, Try.results74]; done) | (rw [procF_shape' hR h1 (by first | assumption | simpa using hc)]; simp [go_sem, Try.results74]; done) | (rw [procF_one hR hlt hall (by first | assumption | simpa using hc)]; simp [go_sem, Try.results74]))
    · intro hc; try simp at hc
      all_goals (
        refine AW.skipN (fun _ h => h) ?_
        refine AW.seq ?_
        have hlen : 1 ≤ p.length ∧ p.length ≤ 24 := by obtain ⟨h8, h9⟩ := hc; have : p.length ≠ 0 := (fun h => h8 (List.length_eq_zero_iff.1 h)); omega
        have hR : inR p.length 1 24 = true := inR_iff.2 (by omega)
        refine AW.reg tiOk (fun _ => []) [0, 3] ?_
        intro k hk; simp -dsimp [go_sem, -decide_eq_true_eq, -decide_eq_false_iff_not]
        repeat' (first | refine And.intro ?_ ?_ | refine hk _ ?_ | intro hg | omega | exact True.intro)
        all_goals clear hk k
        refine AW.block ?_
        -- live at the loop's head: [0, 3]
        refine AW.loopI (fun i : Nat => ⟨58, [(0, .isl 6 (p.map TStep.ro)), (3, .int .i64 i)], []⟩) (fun i => i ≤ p.length ∧ ∀ k, k < i → oneF p k = 0) (fun i => p.length - i) (0) (by simp) (Less.of rfl (by simp [go_sem]) (by simp [go_sem])) ?_
        rintro i ⟨hi, hall⟩
        refine AW.seq ?_
        refine AW.reg tiOk (fun _ => []) [0, 3, 20] ?_
        intro k hk; simp -dsimp [go_sem, -decide_eq_true_eq, -decide_eq_false_iff_not]
        repeat' (first | refine And.intro ?_ ?_ | refine hk _ ?_ | intro hg | omega | exact True.intro)
        all_goals clear hk k
        refine AW.cond rfl ?_ ?_
        · intro hc; try simp at hc
          all_goals (
            have hlt : i < p.length := by assumption
            refine AW.skipN (fun _ h => h) ?_
            refine AW.seq ?_
            refine AW.block ?_
            refine AW.reg tiOk (fun _ => []) [0, 3, 4] ?_
            intro k hk; simp -dsimp (maxSteps := 2000000) [go_sem, -decide_eq_true_eq, -decide_eq_false_iff_not]
            repeat' (first | refine And.intro ?_ ?_ | refine hk _ ?_ | intro hg | (refine CallK.intro (dc_spec_l4One p (by omega) hg i hlt hall) ?_; simp -dsimp (maxSteps := 2000000) [go_sem, -decide_eq_true_eq, -decide_eq_false_iff_not]) | omega | exact True.intro)
            all_goals clear hk k
            refine AW.reg tiOk (fun _ => []) [0, 3, 4, 27] ?_
            intro k hk; simp -dsimp [go_sem, -decide_eq_true_eq, -decide_eq_false_iff_not]
            repeat' (first | refine And.intro ?_ ?_ | refine hk _ ?_ | intro hg | omega | exact True.intro)
            all_goals clear hk k
            refine AW.cond rfl ?_ ?_
            · intro hc; try simp at hc
              all_goals (
                refine AW.reg tiOk (fun _ => []) [2] ?_
                intro k hk; simp -dsimp [go_sem, -decide_eq_true_eq, -decide_eq_false_iff_not]
                repeat' (first | refine And.intro ?_ ?_ | refine hk _ ?_ | intro hg | omega | exact True.intro)
                all_goals clear hk k
                refine AW.retF (ow := []) (muts := []) ?_ (fun h => And.intro (.inr rfl) h)
                first | (rw [procF_len' (by simpa using hc)]; simp [go_sem, Try.results74]; done) | (rw [procF_ok hR h1 h2 h3]; simp [go_sem, Try.results74]; done) | (have hty : tyF p i = typF x.cond 2 := (by rw [hxt]; grind); rw [procF_ty hR h1 h2 hlt hal3 (by rw [hty]; first | assumption | simpa using hc), hty]; simp [go_sem, Try.results74]; done) | (have hty : tyF p i = typF x.expr 1 := (by rw [hxt]; grind); rw [procF_ty hR h1 h2 hlt hal3 (by rw [hty]; first | assumption | simpa using hc), hty]; simp [go_sem, Try.results74]; done) | (rw [procF_shape' hR h1 (by first | assumption | simpa using hc)]; simp [go_sem, Try.results74]; done) | (rw [procF_one hR hlt hall (by first | assumption | simpa using hc)]; simp [go_sem, Try.results74]))
            · intro hc; try simp at hc
              all_goals (
                refine AW.skipN (fun _ h => h) ?_
                refine AW.regK tiOk (fun _ => []) ?_
                intro k hk; simp -dsimp [go_sem, -decide_eq_true_eq, -decide_eq_false_iff_not]
                repeat' (first | refine And.intro ?_ ?_ | refine hk _ ?_ | intro hg | omega | exact True.intro)
                all_goals clear hk k
                show ∃ _, _
                have hw := wrapi hlt (by omega)
                refine ⟨i + 1, ⟨by omega, upto hall (by first | assumption | simpa using hc)⟩, by omega, Less.of rfl (by simp [go_sem, hw]) (by simp [go_sem])⟩))
        · intro hc; try simp at hc
          all_goals (
            refine AW.exitN (fun _ h => h) ?_
            refine AW.seq ?_
            have h1 : ∀ k, k < p.length → oneF p k = 0 := fun k hk => hall k (by omega)
            have ho : StepsOk p := ⟨by omega, h1⟩
            refine AW.reg tiOk (fun _ => []) [0, 5] ?_
            intro k hk; simp -dsimp (maxSteps := 2000000) [go_sem, -decide_eq_true_eq, -decide_eq_false_iff_not]
            repeat' (first | refine And.intro ?_ ?_ | refine hk _ ?_ | intro hg | (refine CallK.intro (dc_spec_l4Shape p ho hg) ?_; simp -dsimp (maxSteps := 2000000) [go_sem, -decide_eq_true_eq, -decide_eq_false_iff_not]) | omega | exact True.intro)
            all_goals clear hk k
            refine AW.reg tiOk (fun _ => []) [0, 5, 32] ?_
            intro k hk; simp -dsimp [go_sem, -decide_eq_true_eq, -decide_eq_false_iff_not]
            repeat' (first | refine And.intro ?_ ?_ | refine hk _ ?_ | intro hg | omega | exact True.intro)
            all_goals clear hk k
            refine AW.cond rfl ?_ ?_
            · intro hc; try simp at hc
              all_goals (
                refine AW.reg tiOk (fun _ => []) [2] ?_
                intro k hk; simp -dsimp [go_sem, -decide_eq_true_eq, -decide_eq_false_iff_not]
                repeat' (first | refine And.intro ?_ ?_ | refine hk _ ?_ | intro hg | omega | exact True.intro)
                all_goals clear hk k
                refine AW.retF (ow := []) (muts := []) ?_ (fun h => And.intro (.inr rfl) h)
                first | (rw [procF_len' (by simpa using hc)]; simp [go_sem, Try.results74]; done) | (rw [procF_ok hR h1 h2 h3]; simp [go_sem, Try.results74]; done) | (have hty : tyF p i = typF x.cond 2 := (by rw [hxt]; grind); rw [procF_ty hR h1 h2 hlt hal3 (by rw [hty]; first | assumption | simpa using hc), hty]; simp [go_sem, Try.results74]; done) | (have hty : tyF p i = typF x.expr 1 := (by rw [hxt]; grind); rw [procF_ty hR h1 h2 hlt hal3 (by rw [hty]; first | assumption | simpa using hc), hty]; simp [go_sem, Try.results74]; done) | (rw [procF_shape' hR h1 (by first | assumption | simpa using hc)]; simp [go_sem, Try.results74]; done) | (rw [procF_one hR hlt hall (by first | assumption | simpa using hc)]; simp [go_sem, Try.results74]))
            · intro hc; try simp at hc
              all_goals (
                refine AW.skipN (fun _ h => h) ?_
                refine AW.seq ?_
                have h2 : ∀ k, k < p.length → shapeF p k = 0 := sc_all (by first | assumption | simpa using hc)
                refine AW.reg tiOk (fun _ => []) [0, 6] ?_
                intro k hk; simp -dsimp [go_sem, -decide_eq_true_eq, -decide_eq_false_iff_not]
                repeat' (first | refine And.intro ?_ ?_ | refine hk _ ?_ | intro hg | omega | exact True.intro)
                all_goals clear hk k
                refine AW.block ?_
                -- live at the loop's head: [0, 6]
                refine AW.loopI (fun i : Nat => ⟨58, [(0, .isl 6 (p.map TStep.ro)), (6, .int .i64 i)], []⟩) (fun i => i ≤ p.length ∧ ∀ k, k < i → tyF p k = 0) (fun i => p.length - i) (0) (by simp) (Less.of rfl (by simp [go_sem]) (by simp [go_sem])) ?_
                rintro i ⟨hi, hal3⟩
                refine AW.seq ?_
                refine AW.reg tiOk (fun _ => []) [0, 6, 37] ?_
                intro k hk; simp -dsimp [go_sem, -decide_eq_true_eq, -decide_eq_false_iff_not]
                repeat' (first | refine And.intro ?_ ?_ | refine hk _ ?_ | intro hg | omega | exact True.intro)
                all_goals clear hk k
                refine AW.cond rfl ?_ ?_
                · intro hc; try simp at hc
                  all_goals (
                    have hlt : i < p.length := by assumption
                    obtain ⟨x, hx⟩ := at_some hlt
                    have hxt := tyF_at hx
                    obtain ⟨g0, g1, g2⟩ := hg x (List.mem_of_getElem? hx)
                    refine AW.skipN (fun _ h => h) ?_
                    refine AW.seq ?_
                    refine AW.block ?_
                    refine AW.seq ?_
                    refine AW.reg tiOk (fun _ => []) [0, 6, 7] ?_
                    intro k hk; simp -dsimp (maxSteps := 2000000) [go_sem, -decide_eq_true_eq, -decide_eq_false_iff_not, hx]
                    repeat' (first | refine And.intro ?_ ?_ | refine hk _ ?_ | intro hg | (refine CallK.intro (dc_spec_l4Typed x.cond 2 g1) ?_; simp -dsimp (maxSteps := 2000000) [go_sem, -decide_eq_true_eq, -decide_eq_false_iff_not, hx]) | (refine CallK.intro (dc_spec_l4Typed x.expr 1 g2) ?_; simp -dsimp (maxSteps := 2000000) [go_sem, -decide_eq_true_eq, -decide_eq_false_iff_not, hx]) | omega | exact True.intro)
                    all_goals clear hk k
                    refine AW.reg tiOk (fun _ => []) [0, 6, 7, 47] ?_
                    intro k hk; simp -dsimp [go_sem, -decide_eq_true_eq, -decide_eq_false_iff_not, hx]
                    repeat' (first | refine And.intro ?_ ?_ | refine hk _ ?_ | intro hg | omega | exact True.intro)
                    all_goals clear hk k
                    refine AW.cond rfl ?_ ?_
                    · intro hc; try simp at hc
                      all_goals (
                        refine AW.reg tiOk (fun _ => []) [2] ?_
                        intro k hk; simp -dsimp [go_sem, -decide_eq_true_eq, -decide_eq_false_iff_not, hx]
                        repeat' (first | refine And.intro ?_ ?_ | refine hk _ ?_ | intro hg | omega | exact True.intro)
                        all_goals clear hk k
                        refine AW.retF (ow := []) (muts := []) ?_ (fun h => And.intro (.inr rfl) h)
                        first | (rw [procF_len' (by simpa using hc)]; simp [go_sem, Try.results74]; done) | (rw [procF_ok hR h1 h2 h3]; simp [go_sem, Try.results74]; done) | (have hty : tyF p i = typF x.cond 2 := (by rw [hxt]; grind); rw [procF_ty hR h1 h2 hlt hal3 (by rw [hty]; first | assumption | simpa using hc), hty]; simp [go_sem, Try.results74]; done) | (have hty : tyF p i = typF x.expr 1 := (by rw [hxt]; grind); rw [procF_ty hR h1 h2 hlt hal3 (by rw [hty]; first | assumption | simpa using hc), hty]; simp [go_sem, Try.results74]; done) | (rw [procF_shape' hR h1 (by first | assumption | simpa using hc)]; simp [go_sem, Try.results74]; done) | (rw [procF_one hR hlt hall (by first | assumption | simpa using hc)]; simp [go_sem, Try.results74]))
                    · intro hc; try simp at hc
                      all_goals (
                        refine AW.skipN (fun _ h => h) ?_
                        refine AW.reg tiOk (fun _ => []) [0, 6, 8] ?_
                        intro k hk; simp -dsimp (maxSteps := 2000000) [go_sem, -decide_eq_true_eq, -decide_eq_false_iff_not, hx]
                        repeat' (first | refine And.intro ?_ ?_ | refine hk _ ?_ | intro hg | (refine CallK.intro (dc_spec_l4Typed x.cond 2 g1) ?_; simp -dsimp (maxSteps := 2000000) [go_sem, -decide_eq_true_eq, -decide_eq_false_iff_not, hx]) | (refine CallK.intro (dc_spec_l4Typed x.expr 1 g2) ?_; simp -dsimp (maxSteps := 2000000) [go_sem, -decide_eq_true_eq, -decide_eq_false_iff_not, hx]) | omega | exact True.intro)
                        all_goals clear hk k
                        refine AW.reg tiOk (fun _ => []) [0, 6, 8, 56] ?_
                        intro k hk; simp -dsimp [go_sem, -decide_eq_true_eq, -decide_eq_false_iff_not, hx]
                        repeat' (first | refine And.intro ?_ ?_ | refine hk _ ?_ | intro hg | omega | exact True.intro)
                        all_goals clear hk k
                        refine AW.cond rfl ?_ ?_
                        · intro hc; try simp at hc
                          all_goals (
                            refine AW.reg tiOk (fun _ => []) [2] ?_
                            intro k hk; simp -dsimp [go_sem, -decide_eq_true_eq, -decide_eq_false_iff_not, hx]
                            repeat' (first | refine And.intro ?_ ?_ | refine hk _ ?_ | intro hg | omega | exact True.intro)
                            all_goals clear hk k
                            refine AW.retF (ow := []) (muts := []) ?_ (fun h => And.intro (.inr rfl) h)
                            first | (rw [procF_len' (by simpa using hc)]; simp [go_sem, Try.results74]; done) | (rw [procF_ok hR h1 h2 h3]; simp [go_sem, Try.results74]; done) | (have hty : tyF p i = typF x.cond 2 := (by rw [hxt]; grind); rw [procF_ty hR h1 h2 hlt hal3 (by rw [hty]; first | assumption | simpa using hc), hty]; simp [go_sem, Try.results74]; done) | (have hty : tyF p i = typF x.expr 1 := (by rw [hxt]; grind); rw [procF_ty hR h1 h2 hlt hal3 (by rw [hty]; first | assumption | simpa using hc), hty]; simp [go_sem, Try.results74]; done) | (rw [procF_shape' hR h1 (by first | assumption | simpa using hc)]; simp [go_sem, Try.results74]; done) | (rw [procF_one hR hlt hall (by first | assumption | simpa using hc)]; simp [go_sem, Try.results74]))
                        · intro hc; try simp at hc
                          all_goals (
                            refine AW.skipN (fun _ h => h) ?_
                            refine AW.regK tiOk (fun _ => []) ?_
                            intro k hk; simp -dsimp [go_sem, -decide_eq_true_eq, -decide_eq_false_iff_not, hx]
                            repeat' (first | refine And.intro ?_ ?_ | refine hk _ ?_ | intro hg | omega | exact True.intro)
                            all_goals clear hk k
                            show ∃ _, _
                            have hw := wrapi hlt (by omega)
                            have htz : tyF p i = 0 := by rw [hxt]; grind
                            refine ⟨i + 1, ⟨by omega, upto hal3 htz⟩, by omega, Less.of rfl (by simp [go_sem, hw]) (by simp [go_sem])⟩)))
                · intro hc; try simp at hc
                  all_goals (
                    refine AW.exitN (fun _ h => h) ?_
                    have h3 : ∀ k, k < p.length → tyF p k = 0 := fun k hk => hal3 k (by omega)
                    refine AW.reg tiOk (fun _ => []) [2] ?_
                    intro k hk; simp -dsimp [go_sem, -decide_eq_true_eq, -decide_eq_false_iff_not]
                    repeat' (first | refine And.intro ?_ ?_ | refine hk _ ?_ | intro hg | omega | exact True.intro)
                    all_goals clear hk k
                    refine AW.retF (ow := []) (muts := []) ?_ (fun h => And.intro (.inr rfl) h)
                    first | (rw [procF_len' (by simpa using hc)]; simp [go_sem, Try.results74]; done) | (rw [procF_ok hR h1 h2 h3]; simp [go_sem, Try.results74]; done) | (have hty : tyF p i = typF x.cond 2 := (by rw [hxt]; grind); rw [procF_ty hR h1 h2 hlt hal3 (by rw [hty]; first | assumption | simpa using hc), hty]; simp [go_sem, Try.results74]; done) | (have hty : tyF p i = typF x.expr 1 := (by rw [hxt]; grind); rw [procF_ty hR h1 h2 hlt hal3 (by rw [hty]; first | assumption | simpa using hc), hty]; simp [go_sem, Try.results74]; done) | (rw [procF_shape' hR h1 (by first | assumption | simpa using hc)]; simp [go_sem, Try.results74]; done) | (rw [procF_one hR hlt hall (by first | assumption | simpa using hc)]; simp [go_sem, Try.results74])))))

end Go.AM

/-! ### H4 -/
set_option linter.unusedVariables false
set_option linter.unusedSimpArgs false
namespace Go.AM
open Go.Proofs

end Go.AM

/-! ### H5 -/
set_option linter.unusedVariables false
set_option linter.unusedSimpArgs false
namespace Go.AM
open Go.Proofs

end Go.AM

/-! ### K2 -/
set_option linter.unusedVariables false
set_option linter.unusedSimpArgs false
namespace Go.AM
open Go.Proofs

set_option maxHeartbeats 600000 in
set_option linter.unusedSimpArgs false in
set_option maxRecDepth 100000 in
/-- spec.l11Procs -/
theorem dc_spec_l11Procs (l : List TProc) (hl : l.length ≤ 9223372036854775807 ∧ ∀ e ∈ l, e.gok) : DC Try.prog 58 [.isl 1 (l.map TProc.ro)] (.int .i64 (procsF l)) [] := by
  obtain ⟨hl, hg⟩ := hl
  refine DC.intro tiOk Try.func58 rfl rfl rfl rfl rfl rfl rfl rfl [] ?_
  refine AW.reg tiOk (fun _ => []) [0] ?_
  intro k hk; simp -dsimp [go_sem, -decide_eq_true_eq, -decide_eq_false_iff_not]
  repeat' (first | refine And.intro ?_ ?_ | refine hk _ ?_ | intro hg | omega | exact True.intro)
  all_goals clear hk k
  refine AW.seq ?_
  refine AW.cut ⟨28, [(0, .isl 1 (l.map TProc.ro)), (12, .bool (decide (l.length < 1 ∨ 3 < l.length)))], []⟩ ?_ ?_
  · skip
    refine AW.regK tiOk (fun _ => []) ?_
    intro k hk; simp +contextual -dsimp (maxSteps := 2000000) [go_sem, -decide_eq_true_eq, -decide_eq_false_iff_not]
    repeat' (first | refine And.intro ?_ ?_ | refine hk _ ?_ | (intro hg; try simp only [decide_eq_true_eq, decide_eq_false_iff_not] at hg) | omega | exact True.intro)
    all_goals clear hk k
    all_goals (show St.Less _ _; exact Less.of rfl (by simp [go_sem, -Nat.lt_one_iff, -List.length_eq_zero_iff] <;> first | omega | grind) (by simp [go_sem]))
  · skip
    refine AW.cond rfl ?_ ?_
    · intro hc; try simp at hc
      all_goals (
        refine AW.reg tiOk (fun _ => []) [2] ?_
        intro k hk; simp -dsimp [go_sem, -decide_eq_true_eq, -decide_eq_false_iff_not]
        repeat' (first | refine And.intro ?_ ?_ | refine hk _ ?_ | intro hg | omega | exact True.intro)
        all_goals clear hk k
        refine AW.retF (ow := []) (muts := []) ?_ (fun h => And.intro (.inr rfl) h)
        first | (rw [procsF_ok hR (fun k hk => hall k (by omega))]; simp [go_sem, Try.results58]; done) | (rw [procsF_hit hR hlt hall (by rw [hxp]; first | assumption | simpa using hc), hxp]; simp [go_sem, Try.results58]; done) | (rw [procsF_len' (by simpa using hc)]; simp [go_sem, Try.results58]))
    · intro hc; try simp at hc
      all_goals (
        refine AW.skipN (fun _ h => h) ?_
        refine AW.seq ?_
        have hlen : 1 ≤ l.length ∧ l.length ≤ 3 := by obtain ⟨h8, h9⟩ := hc; have : l.length ≠ 0 := (fun h => h8 (List.length_eq_zero_iff.1 h)); omega
        have hR : inR l.length 1 3 = true := inR_iff.2 (by omega)
        refine AW.reg tiOk (fun _ => []) [0, 3] ?_
        intro k hk; simp -dsimp [go_sem, -decide_eq_true_eq, -decide_eq_false_iff_not]
        repeat' (first | refine And.intro ?_ ?_ | refine hk _ ?_ | intro hg | omega | exact True.intro)
        all_goals clear hk k
        refine AW.block ?_
        -- live at the loop's head: [0, 3]
        refine AW.loopI (fun i : Nat => ⟨28, [(0, .isl 1 (l.map TProc.ro)), (3, .int .i64 i)], []⟩) (fun i => i ≤ l.length ∧ ∀ k, k < i → procAt l k = 0) (fun i => l.length - i) (0) (by simp) (Less.of rfl (by simp [go_sem]) (by simp [go_sem])) ?_
        rintro i ⟨hi, hall⟩
        refine AW.seq ?_
        refine AW.reg tiOk (fun _ => []) [0, 3, 16] ?_
        intro k hk; simp -dsimp [go_sem, -decide_eq_true_eq, -decide_eq_false_iff_not]
        repeat' (first | refine And.intro ?_ ?_ | refine hk _ ?_ | intro hg | omega | exact True.intro)
        all_goals clear hk k
        refine AW.cond rfl ?_ ?_
        · intro hc; try simp at hc
          all_goals (
            have hlt : i < l.length := by assumption
            obtain ⟨x, hx⟩ := at_some hlt
            have hxp := procAt_at hx
            have gx : x.steps.length ≤ 9223372036854775807 ∧ ∀ e ∈ x.steps, e.gok := hg x (List.mem_of_getElem? hx)
            refine AW.skipN (fun _ h => h) ?_
            refine AW.seq ?_
            refine AW.block ?_
            refine AW.reg tiOk (fun _ => []) [0, 3, 4] ?_
            intro k hk; simp -dsimp (maxSteps := 2000000) [go_sem, -decide_eq_true_eq, -decide_eq_false_iff_not, hx]
            repeat' (first | refine And.intro ?_ ?_ | refine hk _ ?_ | intro hg | (refine CallK.intro (dc_spec_l4Fault x.steps gx.1 gx.2) ?_; simp -dsimp (maxSteps := 2000000) [go_sem, -decide_eq_true_eq, -decide_eq_false_iff_not, hx]) | omega | exact True.intro)
            all_goals clear hk k
            refine AW.reg tiOk (fun _ => []) [0, 3, 4, 26] ?_
            intro k hk; simp -dsimp [go_sem, -decide_eq_true_eq, -decide_eq_false_iff_not, hx]
            repeat' (first | refine And.intro ?_ ?_ | refine hk _ ?_ | intro hg | omega | exact True.intro)
            all_goals clear hk k
            refine AW.cond rfl ?_ ?_
            · intro hc; try simp at hc
              all_goals (
                refine AW.reg tiOk (fun _ => []) [2] ?_
                intro k hk; simp -dsimp [go_sem, -decide_eq_true_eq, -decide_eq_false_iff_not, hx]
                repeat' (first | refine And.intro ?_ ?_ | refine hk _ ?_ | intro hg | omega | exact True.intro)
                all_goals clear hk k
                refine AW.retF (ow := []) (muts := []) ?_ (fun h => And.intro (.inr rfl) h)
                first | (rw [procsF_ok hR (fun k hk => hall k (by omega))]; simp [go_sem, Try.results58]; done) | (rw [procsF_hit hR hlt hall (by rw [hxp]; first | assumption | simpa using hc), hxp]; simp [go_sem, Try.results58]; done) | (rw [procsF_len' (by simpa using hc)]; simp [go_sem, Try.results58]))
            · intro hc; try simp at hc
              all_goals (
                refine AW.skipN (fun _ h => h) ?_
                refine AW.regK tiOk (fun _ => []) ?_
                intro k hk; simp -dsimp [go_sem, -decide_eq_true_eq, -decide_eq_false_iff_not, hx]
                repeat' (first | refine And.intro ?_ ?_ | refine hk _ ?_ | intro hg | omega | exact True.intro)
                all_goals clear hk k
                show ∃ _, _
                have hw := wrapi hlt (by omega)
                refine ⟨i + 1, ⟨by omega, upto hall (by rw [hxp]; first | assumption | simpa using hc)⟩, by omega, Less.of rfl (by simp [go_sem, hw]) (by simp [go_sem])⟩))
        · intro hc; try simp at hc
          all_goals (
            refine AW.exitN (fun _ h => h) ?_
            refine AW.reg tiOk (fun _ => []) [2] ?_
            intro k hk; simp -dsimp [go_sem, -decide_eq_true_eq, -decide_eq_false_iff_not]
            repeat' (first | refine And.intro ?_ ?_ | refine hk _ ?_ | intro hg | omega | exact True.intro)
            all_goals clear hk k
            refine AW.retF (ow := []) (muts := []) ?_ (fun h => And.intro (.inr rfl) h)
            first | (rw [procsF_ok hR (fun k hk => hall k (by omega))]; simp [go_sem, Try.results58]; done) | (rw [procsF_hit hR hlt hall (by rw [hxp]; first | assumption | simpa using hc), hxp]; simp [go_sem, Try.results58]; done) | (rw [procsF_len' (by simpa using hc)]; simp [go_sem, Try.results58])))

end Go.AM

/-! ### Q9 -/
set_option linter.unusedVariables false
set_option linter.unusedSimpArgs false
namespace Go.AM
open Go.Proofs

set_option maxHeartbeats 600000 in
set_option linter.unusedSimpArgs false in
set_option maxRecDepth 100000 in
/-- spec.l11Bad -/
theorem dc_spec_l11Bad (c : Int) : DC Try.prog 59 [.int .i64 c] (.agg [.int .i64 c, .int .i64 0, .isl 1 [], .isl 6 [], .int .i64 0]) [] := by
  refine DC.intro tiOk Try.func59 rfl rfl rfl rfl rfl rfl rfl rfl [1000] ?_
  refine AW.reg tiOk (fun _ => []) [0, 2] ?_
  intro k hk; simp -dsimp [go_sem, -decide_eq_true_eq, -decide_eq_false_iff_not]
  repeat' (first | refine And.intro ?_ ?_ | refine hk _ ?_ | intro hg | omega | exact True.intro)
  all_goals clear hk k
  refine AW.reg tiOk (fun _ => []) [2] ?_
  intro k hk; simp -dsimp [go_sem, -decide_eq_true_eq, -decide_eq_false_iff_not]
  repeat' (first | refine And.intro ?_ ?_ | refine hk _ ?_ | intro hg | omega | exact True.intro)
  all_goals clear hk k
  refine AW.retF (ow := [1000]) (muts := []) ?_ (fun h => And.intro (.inr rfl) h)
  simp [go_sem, Try.results59]

set_option maxHeartbeats 600000 in
set_option linter.unusedSimpArgs false in
set_option maxRecDepth 100000 in
/-- impl.NewEngine -/
theorem dc_impl_NewEngine_bad (l : List TProc) (hg : l.length ≤ 9223372036854775807 ∧ ∀ e ∈ l, e.gok) (hb : l.length ≤ 1048576 ∧ ∀ e ∈ l, e.sz ≤ 1048576) (hl : procsF l ≠ 0) : DC Try.prog 25 [.isl 1 (l.map TProc.ro)] (.agg [.int .i64 (procsF l), .int .i64 0, .isl 1 [], .isl 6 [], .int .i64 0]) [] := by
  refine DC.intro tiOk Try.func25 rfl rfl rfl rfl rfl rfl rfl rfl [1000] ?_
  refine AW.reg tiOk (fun _ => []) [0, 2] ?_
  intro k hk; simp -dsimp [go_sem, -decide_eq_true_eq, -decide_eq_false_iff_not, hl]
  repeat' (first | refine And.intro ?_ ?_ | refine hk _ ?_ | intro hg | omega | exact True.intro)
  all_goals clear hk k
  refine AW.seq ?_
  refine AW.reg tiOk (fun _ => []) [0, 2, 3] ?_
  intro k hk; simp -dsimp (maxSteps := 2000000) [go_sem, -decide_eq_true_eq, -decide_eq_false_iff_not, hl]
  repeat' (first | refine And.intro ?_ ?_ | refine hk _ ?_ | intro hg | (refine CallK.intro (dc_impl_procsFault l hg) ?_; simp -dsimp (maxSteps := 2000000) [go_sem, -decide_eq_true_eq, -decide_eq_false_iff_not, hl]) | omega | exact True.intro)
  all_goals clear hk k
  refine AW.reg tiOk (fun _ => []) [0, 2, 3, 7] ?_
  intro k hk; simp -dsimp [go_sem, -decide_eq_true_eq, -decide_eq_false_iff_not, hl]
  repeat' (first | refine And.intro ?_ ?_ | refine hk _ ?_ | intro hg | omega | exact True.intro)
  all_goals clear hk k
  refine AW.cond rfl ?_ ?_
  · intro hc; try simp at hc
    all_goals try (exfalso; contradiction; done)
    all_goals (
      refine AW.reg tiOk (fun _ => []) [2] ?_
      intro k hk; simp -dsimp [go_sem, -decide_eq_true_eq, -decide_eq_false_iff_not, hl]
      repeat' (first | refine And.intro ?_ ?_ | refine hk _ ?_ | intro hg | omega | exact True.intro)
      all_goals clear hk k
      refine AW.retF (ow := [1000]) (muts := []) ?_ (fun h => And.intro (.inr rfl) h)
      simp [go_sem, Try.results25])
  · intro hc; try simp at hc
    all_goals try (exfalso; contradiction; done)
    all_goals (
      refine AW.skipN (fun _ h => h) ?_
      refine AW.reg tiOk (fun _ => []) [2] ?_
      intro k hk; simp -dsimp (maxSteps := 2000000) [go_sem, -decide_eq_true_eq, -decide_eq_false_iff_not, hl]
      repeat' (first | refine And.intro ?_ ?_ | refine hk _ ?_ | intro hg | (refine CallK.intro (dc_impl_cloneProcs l (pszs hb)) ?_; simp -dsimp (maxSteps := 2000000) [go_sem, -decide_eq_true_eq, -decide_eq_false_iff_not, hl]) | omega | exact True.intro)
      all_goals clear hk k
      refine AW.retF (ow := [1000]) (muts := []) ?_ (fun h => And.intro (.inr rfl) h)
      simp [go_sem, Try.results25])

set_option maxHeartbeats 600000 in
set_option linter.unusedSimpArgs false in
set_option maxRecDepth 100000 in
/-- impl.NewEngine -/
theorem dc_impl_NewEngine_ok (l : List TProc) (hg : l.length ≤ 9223372036854775807 ∧ ∀ e ∈ l, e.gok) (hb : l.length ≤ 1048576 ∧ ∀ e ∈ l, e.sz ≤ 1048576) (hl : procsF l = 0) : DC Try.prog 25 [.isl 1 (l.map TProc.ro)] (.agg [.int .i64 0, .int .i64 0, .osl 1 (l.map TProc.oc), .isl 6 [], .int .i64 0]) [] := by
  have hoc := cpP_oc (proc_ne hl)
  refine DC.intro tiOk Try.func25 rfl rfl rfl rfl rfl rfl rfl rfl [1000] ?_
  refine AW.reg tiOk (fun _ => []) [0, 2] ?_
  intro k hk; simp -dsimp [go_sem, -decide_eq_true_eq, -decide_eq_false_iff_not, hl, hoc]
  repeat' (first | refine And.intro ?_ ?_ | refine hk _ ?_ | intro hg | omega | exact True.intro)
  all_goals clear hk k
  refine AW.seq ?_
  refine AW.reg tiOk (fun _ => []) [0, 2, 3] ?_
  intro k hk; simp -dsimp (maxSteps := 2000000) [go_sem, -decide_eq_true_eq, -decide_eq_false_iff_not, hl, hoc]
  repeat' (first | refine And.intro ?_ ?_ | refine hk _ ?_ | intro hg | (refine CallK.intro (dc_impl_procsFault l hg) ?_; simp -dsimp (maxSteps := 2000000) [go_sem, -decide_eq_true_eq, -decide_eq_false_iff_not, hl, hoc]) | omega | exact True.intro)
  all_goals clear hk k
  refine AW.reg tiOk (fun _ => []) [0, 2, 3, 7] ?_
  intro k hk; simp -dsimp [go_sem, -decide_eq_true_eq, -decide_eq_false_iff_not, hl, hoc]
  repeat' (first | refine And.intro ?_ ?_ | refine hk _ ?_ | intro hg | omega | exact True.intro)
  all_goals clear hk k
  refine AW.cond rfl ?_ ?_
  · intro hc; try simp at hc
    all_goals try (exfalso; contradiction; done)
    all_goals (
      refine AW.reg tiOk (fun _ => []) [2] ?_
      intro k hk; simp -dsimp [go_sem, -decide_eq_true_eq, -decide_eq_false_iff_not, hl, hoc]
      repeat' (first | refine And.intro ?_ ?_ | refine hk _ ?_ | intro hg | omega | exact True.intro)
      all_goals clear hk k
      refine AW.retF (ow := [1000]) (muts := []) ?_ (fun h => And.intro (.inr rfl) h)
      simp [go_sem, Try.results25])
  · intro hc; try simp at hc
    all_goals try (exfalso; contradiction; done)
    all_goals (
      refine AW.skipN (fun _ h => h) ?_
      refine AW.reg tiOk (fun _ => []) [2] ?_
      intro k hk; simp -dsimp (maxSteps := 2000000) [go_sem, -decide_eq_true_eq, -decide_eq_false_iff_not, hl, hoc]
      repeat' (first | refine And.intro ?_ ?_ | refine hk _ ?_ | intro hg | (refine CallK.intro (dc_impl_cloneProcs l (pszs hb)) ?_; simp -dsimp (maxSteps := 2000000) [go_sem, -decide_eq_true_eq, -decide_eq_false_iff_not, hl, hoc]) | omega | exact True.intro)
      all_goals clear hk k
      refine AW.retF (ow := [1000]) (muts := []) ?_ (fun h => And.intro (.inr rfl) h)
      simp [go_sem, Try.results25])

set_option maxHeartbeats 600000 in
set_option linter.unusedSimpArgs false in
set_option maxRecDepth 100000 in
/-- spec.NewEngine -/
theorem dc_spec_NewEngine_bad (l : List TProc) (hg : l.length ≤ 9223372036854775807 ∧ ∀ e ∈ l, e.gok) (hb : l.length ≤ 1048576 ∧ ∀ e ∈ l, e.sz ≤ 1048576) (hl : procsF l ≠ 0) : DC Try.prog 23 [.isl 1 (l.map TProc.ro)] (.agg [.int .i64 (procsF l), .int .i64 0, .isl 1 [], .isl 6 [], .int .i64 0]) [] := by
  refine DC.intro tiOk Try.func23 rfl rfl rfl rfl rfl rfl rfl rfl [1000] ?_
  refine AW.reg tiOk (fun _ => []) [0, 2] ?_
  intro k hk; simp -dsimp [go_sem, -decide_eq_true_eq, -decide_eq_false_iff_not, hl]
  repeat' (first | refine And.intro ?_ ?_ | refine hk _ ?_ | intro hg | omega | exact True.intro)
  all_goals clear hk k
  refine AW.seq ?_
  refine AW.reg tiOk (fun _ => []) [0, 2, 3] ?_
  intro k hk; simp -dsimp (maxSteps := 2000000) [go_sem, -decide_eq_true_eq, -decide_eq_false_iff_not, hl]
  repeat' (first | refine And.intro ?_ ?_ | refine hk _ ?_ | intro hg | (refine CallK.intro (dc_spec_l11Procs l hg) ?_; simp -dsimp (maxSteps := 2000000) [go_sem, -decide_eq_true_eq, -decide_eq_false_iff_not, hl]) | omega | exact True.intro)
  all_goals clear hk k
  refine AW.reg tiOk (fun _ => []) [0, 2, 3, 7] ?_
  intro k hk; simp -dsimp [go_sem, -decide_eq_true_eq, -decide_eq_false_iff_not, hl]
  repeat' (first | refine And.intro ?_ ?_ | refine hk _ ?_ | intro hg | omega | exact True.intro)
  all_goals clear hk k
  refine AW.cond rfl ?_ ?_
  · intro hc; try simp at hc
    all_goals try (exfalso; contradiction; done)
    all_goals (
      refine AW.reg tiOk (fun _ => []) [2] ?_
      intro k hk; simp -dsimp (maxSteps := 2000000) [go_sem, -decide_eq_true_eq, -decide_eq_false_iff_not, hl]
      repeat' (first | refine And.intro ?_ ?_ | refine hk _ ?_ | intro hg | (refine CallK.intro (dc_spec_l11Bad _) ?_; simp -dsimp (maxSteps := 2000000) [go_sem, -decide_eq_true_eq, -decide_eq_false_iff_not, hl]) | omega | exact True.intro)
      all_goals clear hk k
      refine AW.retF (ow := [1000]) (muts := []) ?_ (fun h => And.intro (.inr rfl) h)
      simp [go_sem, Try.results23])
  · intro hc; try simp at hc
    all_goals try (exfalso; contradiction; done)
    all_goals (
      refine AW.skipN (fun _ h => h) ?_
      refine AW.reg tiOk (fun _ => []) [2] ?_
      intro k hk; simp -dsimp (maxSteps := 2000000) [go_sem, -decide_eq_true_eq, -decide_eq_false_iff_not, hl]
      repeat' (first | refine And.intro ?_ ?_ | refine hk _ ?_ | intro hg | (refine CallK.intro (dc_spec_l11Copies l (pszs hb)) ?_; simp -dsimp (maxSteps := 2000000) [go_sem, -decide_eq_true_eq, -decide_eq_false_iff_not, hl]) | omega | exact True.intro)
      all_goals clear hk k
      refine AW.retF (ow := [1000]) (muts := []) ?_ (fun h => And.intro (.inr rfl) h)
      simp [go_sem, Try.results23])

set_option maxHeartbeats 600000 in
set_option linter.unusedSimpArgs false in
set_option maxRecDepth 100000 in
/-- spec.NewEngine -/
theorem dc_spec_NewEngine_ok (l : List TProc) (hg : l.length ≤ 9223372036854775807 ∧ ∀ e ∈ l, e.gok) (hb : l.length ≤ 1048576 ∧ ∀ e ∈ l, e.sz ≤ 1048576) (hl : procsF l = 0) : DC Try.prog 23 [.isl 1 (l.map TProc.ro)] (.agg [.int .i64 0, .int .i64 0, .osl 1 (l.map TProc.oc), .isl 6 [], .int .i64 0]) [] := by
  have hoc := cpP_oc (proc_ne hl)
  refine DC.intro tiOk Try.func23 rfl rfl rfl rfl rfl rfl rfl rfl [1000] ?_
  refine AW.reg tiOk (fun _ => []) [0, 2] ?_
  intro k hk; simp -dsimp [go_sem, -decide_eq_true_eq, -decide_eq_false_iff_not, hl, hoc]
  repeat' (first | refine And.intro ?_ ?_ | refine hk _ ?_ | intro hg | omega | exact True.intro)
  all_goals clear hk k
  refine AW.seq ?_
  refine AW.reg tiOk (fun _ => []) [0, 2, 3] ?_
  intro k hk; simp -dsimp (maxSteps := 2000000) [go_sem, -decide_eq_true_eq, -decide_eq_false_iff_not, hl, hoc]
  repeat' (first | refine And.intro ?_ ?_ | refine hk _ ?_ | intro hg | (refine CallK.intro (dc_spec_l11Procs l hg) ?_; simp -dsimp (maxSteps := 2000000) [go_sem, -decide_eq_true_eq, -decide_eq_false_iff_not, hl, hoc]) | omega | exact True.intro)
  all_goals clear hk k
  refine AW.reg tiOk (fun _ => []) [0, 2, 3, 7] ?_
  intro k hk; simp -dsimp [go_sem, -decide_eq_true_eq, -decide_eq_false_iff_not, hl, hoc]
  repeat' (first | refine And.intro ?_ ?_ | refine hk _ ?_ | intro hg | omega | exact True.intro)
  all_goals clear hk k
  refine AW.cond rfl ?_ ?_
  · intro hc; try simp at hc
    all_goals try (exfalso; contradiction; done)
    all_goals (
      refine AW.reg tiOk (fun _ => []) [2] ?_
      intro k hk; simp -dsimp (maxSteps := 2000000) [go_sem, -decide_eq_true_eq, -decide_eq_false_iff_not, hl, hoc]
      repeat' (first | refine And.intro ?_ ?_ | refine hk _ ?_ | intro hg | (refine CallK.intro (dc_spec_l11Bad _) ?_; simp -dsimp (maxSteps := 2000000) [go_sem, -decide_eq_true_eq, -decide_eq_false_iff_not, hl, hoc]) | omega | exact True.intro)
      all_goals clear hk k
      refine AW.retF (ow := [1000]) (muts := []) ?_ (fun h => And.intro (.inr rfl) h)
      simp [go_sem, Try.results23])
  · intro hc; try simp at hc
    all_goals try (exfalso; contradiction; done)
    all_goals (
      refine AW.skipN (fun _ h => h) ?_
      refine AW.reg tiOk (fun _ => []) [2] ?_
      intro k hk; simp -dsimp (maxSteps := 2000000) [go_sem, -decide_eq_true_eq, -decide_eq_false_iff_not, hl, hoc]
      repeat' (first | refine And.intro ?_ ?_ | refine hk _ ?_ | intro hg | (refine CallK.intro (dc_spec_l11Copies l (pszs hb)) ?_; simp -dsimp (maxSteps := 2000000) [go_sem, -decide_eq_true_eq, -decide_eq_false_iff_not, hl, hoc]) | omega | exact True.intro)
      all_goals clear hk k
      refine AW.retF (ow := [1000]) (muts := []) ?_ (fun h => And.intro (.inr rfl) h)
      simp [go_sem, Try.results23])

end Go.AM

/-! ### T4 -/
set_option linter.unusedVariables false
set_option linter.unusedSimpArgs false
namespace Go.AM
open Go.Proofs

set_option maxHeartbeats 600000 in
set_option linter.unusedSimpArgs false in
set_option maxRecDepth 100000 in
/-- laws.toStep -/
theorem dc_laws_toStep (x : TStep) (hs : x.sz ≤ 1048576) : DC Try.prog 39 [.agg x.ro] (.agg [.int .i64 x.kind, .int .i64 x.par, .str x.name, .int .i64 x.arg, .osl 4 (x.cond.map TNode.ro), .osl 4 (x.expr.map TNode.ro)]) [] := by
  unfold TStep.sz at hs
  have h4 : x.cond.length ≤ 1048576 := by omega
  have h5 : x.expr.length ≤ 1048576 := by omega
  refine DC.intro tiOk Try.func39 rfl rfl rfl rfl rfl rfl rfl rfl [1000] ?_
  refine AW.reg tiOk (fun _ => []) [1, 2] ?_
  intro k hk; simp -dsimp [go_sem, -decide_eq_true_eq, -decide_eq_false_iff_not]
  repeat' (first | refine And.intro ?_ ?_ | refine hk _ ?_ | intro hg | omega | exact True.intro)
  all_goals clear hk k
  refine AW.reg tiOk (fun _ => []) [1, 2, 3] ?_
  intro k hk; simp -dsimp [go_sem, -decide_eq_true_eq, -decide_eq_false_iff_not]
  repeat' (first | refine And.intro ?_ ?_ | refine hk _ ?_ | intro hg | omega | exact True.intro)
  all_goals clear hk k
  refine AW.reg tiOk (fun _ => []) [1, 2, 3] ?_
  intro k hk; simp -dsimp [go_sem, -decide_eq_true_eq, -decide_eq_false_iff_not]
  repeat' (first | refine And.intro ?_ ?_ | refine hk _ ?_ | intro hg | omega | exact True.intro)
  all_goals clear hk k
  refine AW.reg tiOk (fun _ => []) [1, 2, 3] ?_
  intro k hk; simp -dsimp [go_sem, -decide_eq_true_eq, -decide_eq_false_iff_not]
  repeat' (first | refine And.intro ?_ ?_ | refine hk _ ?_ | intro hg | omega | exact True.intro)
  all_goals clear hk k
  refine AW.reg tiOk (fun _ => []) [1, 2, 3] ?_
  intro k hk; simp -dsimp [go_sem, -decide_eq_true_eq, -decide_eq_false_iff_not]
  repeat' (first | refine And.intro ?_ ?_ | refine hk _ ?_ | intro hg | omega | exact True.intro)
  all_goals clear hk k
  refine AW.reg tiOk (fun _ => []) [1, 2, 3] ?_
  intro k hk; simp -dsimp [go_sem, -decide_eq_true_eq, -decide_eq_false_iff_not]
  repeat' (first | refine And.intro ?_ ?_ | refine hk _ ?_ | intro hg | omega | exact True.intro)
  all_goals clear hk k
  refine AW.reg tiOk (fun _ => []) [1, 2, 3] ?_
  intro k hk; simp -dsimp (maxSteps := 2000000) [go_sem, -decide_eq_true_eq, -decide_eq_false_iff_not]
  repeat' (first | refine And.intro ?_ ?_ | refine hk _ ?_ | intro hg | (refine CallK.intro (dc_laws_toNodeS _ (by assumption)) ?_; simp -dsimp (maxSteps := 2000000) [go_sem, -decide_eq_true_eq, -decide_eq_false_iff_not]) | omega | exact True.intro)
  all_goals clear hk k
  refine AW.reg tiOk (fun _ => []) [2, 3] ?_
  intro k hk; simp -dsimp (maxSteps := 2000000) [go_sem, -decide_eq_true_eq, -decide_eq_false_iff_not]
  repeat' (first | refine And.intro ?_ ?_ | refine hk _ ?_ | intro hg | (refine CallK.intro (dc_laws_toNodeS _ (by assumption)) ?_; simp -dsimp (maxSteps := 2000000) [go_sem, -decide_eq_true_eq, -decide_eq_false_iff_not]) | omega | exact True.intro)
  all_goals clear hk k
  refine AW.reg tiOk (fun _ => []) [2] ?_
  intro k hk; simp -dsimp [go_sem, -decide_eq_true_eq, -decide_eq_false_iff_not]
  repeat' (first | refine And.intro ?_ ?_ | refine hk _ ?_ | intro hg | omega | exact True.intro)
  all_goals clear hk k
  refine AW.retF (ow := [1000]) (muts := []) ?_ (fun h => And.intro (.inr rfl) h)
  simp [go_sem, Try.results39]

set_option maxHeartbeats 600000 in
set_option linter.unusedSimpArgs false in
set_option maxRecDepth 100000 in
/-- laws.toStepS -/
theorem dc_laws_toStepS (l : List TStep) (hl : l.length ≤ 1048576 ∧ ∀ e ∈ l, e.sz ≤ 1048576) : DC Try.prog 10 [.isl 6 (l.map TStep.ro)] (.osl 6 (l.map TStep.oc)) [] := by
  obtain ⟨hl, hg⟩ := hl
  have idz : ∀ i, (fill TStep.oc [.int .i64 0, .int .i64 0, .str [], .int .i64 0, .nils, .nils] l i).flatMap idsL = [] := fun i => fill_ids (by intro x; simp [go_sem]) (by simp [go_sem])
  refine DC.intro tiOk Try.func10 rfl rfl rfl rfl rfl rfl rfl rfl [1000] ?_
  refine AW.reg tiOk (fun _ => []) [0] ?_
  intro k hk; simp -dsimp [go_sem, -decide_eq_true_eq, -decide_eq_false_iff_not]
  repeat' (first | refine And.intro ?_ ?_ | refine hk _ ?_ | intro hg | omega | exact True.intro | (show (_ : Nat) < _; simp [go_sem]; omega) | (show (_ : Nat) ≤ _; simp [go_sem]; done) | (show _ = _; simp [go_sem]; done) | (show _ ∧ _ ; simp [go_sem]; done))
  all_goals clear hk k
  refine AW.reg tiOk (fun _ => []) [0, 3] ?_
  intro k hk; simp -dsimp [go_sem, -decide_eq_true_eq, -decide_eq_false_iff_not]
  repeat' (first | refine And.intro ?_ ?_ | refine hk _ ?_ | intro hg | omega | exact True.intro | (show (_ : Nat) < _; simp [go_sem]; omega) | (show (_ : Nat) ≤ _; simp [go_sem]; done) | (show _ = _; simp [go_sem]; done) | (show _ ∧ _ ; simp [go_sem]; done))
  all_goals clear hk k
  refine AW.seq ?_
  refine AW.reg tiOk (fun _ => []) [0, 3, 4] ?_
  intro k hk; simp -dsimp [go_sem, -decide_eq_true_eq, -decide_eq_false_iff_not]
  repeat' (first | refine And.intro ?_ ?_ | refine hk _ ?_ | intro hg | omega | exact True.intro | (show (_ : Nat) < _; simp [go_sem]; omega) | (show (_ : Nat) ≤ _; simp [go_sem]; done) | (show _ = _; simp [go_sem]; done) | (show _ ∧ _ ; simp [go_sem]; done))
  all_goals clear hk k
  refine AW.block ?_
  -- live at the loop's head: [0, 3, 4]
  refine AW.loopI (fun i : Nat => ⟨23, [(0, .isl 6 (l.map TStep.ro)), (3, .sl 7 6 0 l.length), (4, .int .i64 i)], [(7, some ⟨6, fill TStep.oc [.int .i64 0, .int .i64 0, .str [], .int .i64 0, .nils, .nils] l i⟩)]⟩) (fun i => i ≤ l.length) (fun i => l.length - i) (0) (by simp) (Less.of rfl (by simp [go_sem]) (by simp [go_sem, fill_zero])) ?_
  rintro i hi
  refine AW.seq ?_
  refine AW.reg tiOk (fun _ => []) [0, 3, 4, 11] ?_
  intro k hk; simp -dsimp [go_sem, -decide_eq_true_eq, -decide_eq_false_iff_not]
  repeat' (first | refine And.intro ?_ ?_ | refine hk _ ?_ | intro hg | omega | exact True.intro | (show (_ : Nat) < _; simp [go_sem]; omega) | (show (_ : Nat) ≤ _; simp [go_sem]; done) | (show _ = _; simp [go_sem]; done) | (show _ ∧ _ ; simp [go_sem]; done))
  all_goals clear hk k
  refine AW.cond rfl ?_ ?_
  · intro hc; try simp at hc
    all_goals (
      have hlt : i < l.length := by assumption
      obtain ⟨x, hx⟩ := at_some hlt
      have hf := fill_len (f := TStep.oc) (z := [.int .i64 0, .int .i64 0, .str [], .int .i64 0, .nils, .nils]) hi
      have hf2 := fill_at (f := TStep.oc) (z := [.int .i64 0, .int .i64 0, .str [], .int .i64 0, .nils, .nils]) hlt
      refine AW.skipN (fun _ h => h) ?_
      refine AW.seq ?_
      refine AW.block ?_
      refine AW.regN0 tiOk (fun _ => []) [0, 3, 4] (fun _ h => h) ?_
      intro k hk; simp -dsimp (maxSteps := 2000000) [go_sem, -decide_eq_true_eq, -decide_eq_false_iff_not, hx, hf, hf2, idz]
      repeat' (first | refine And.intro ?_ ?_ | refine hk _ ?_ | intro hg | (refine CallK.intro (dc_laws_toStep x (hg x (List.mem_of_getElem? hx))) ?_; simp -dsimp (maxSteps := 2000000) [go_sem, -decide_eq_true_eq, -decide_eq_false_iff_not, hx, hf, hf2, idz]) | omega | exact True.intro | (show (_ : Nat) < _; simp [go_sem, hx, hf, hf2, idz]; omega) | (show (_ : Nat) ≤ _; simp [go_sem, hx, hf, hf2, idz]; done) | (show _ = _; simp [go_sem, hx, hf, hf2, idz]; done) | (show _ ∧ _ ; simp [go_sem, hx, hf, hf2, idz]; done))
      all_goals clear hk k
      refine AW.fold (nd := ?nd_1) (c := ?c_1) (l := ?l_1) (es := ?es_1) (n := ?n_1) 7 i 4 1020 ?h1_1 ?h2_1 ?h4_1 ?h3_1 ?hn_1 (by decide) ?h6_1 ?kk_1
      (case h1_1 => exact rfl)
      (case h2_1 => refine node_here ?_; (repeat rw [List.length_set]); omega)
      (case h4_1 => exact rfl)
      (case h3_1 => exact rfl)
      (case hn_1 => simp)
      (case h6_1 => simp [go_sem])
      refine AW.cellLe (nd := ?nd_2) (c := ?c_2) (x := ?x_2) 7 i 4 (owc 4 (x.cond.map TNode.ro)) ?h1_2 ?h2_2 ?h3_2 ?h4_2 ?kk_2
      (case h1_2 => exact rfl)
      (case h2_2 => refine node_here ?_; (repeat rw [List.length_set]); omega)
      (case h3_2 => exact rfl)
      (case h4_2 => simp [go_sem])
      refine AW.fold (nd := ?nd_3) (c := ?c_3) (l := ?l_3) (es := ?es_3) (n := ?n_3) 7 i 5 2020 ?h1_3 ?h2_3 ?h4_3 ?h3_3 ?hn_3 (by decide) ?h6_3 ?kk_3
      (case h1_3 => exact rfl)
      (case h2_3 => refine node_here ?_; (repeat rw [List.length_set]); omega)
      (case h4_3 => exact rfl)
      (case h3_3 => exact rfl)
      (case hn_3 => simp)
      (case h6_3 => simp [go_sem])
      refine AW.cellLe (nd := ?nd_4) (c := ?c_4) (x := ?x_4) 7 i 5 (owc 4 (x.expr.map TNode.ro)) ?h1_4 ?h2_4 ?h3_4 ?h4_4 ?kk_4
      (case h1_4 => exact rfl)
      (case h2_4 => refine node_here ?_; (repeat rw [List.length_set]); omega)
      (case h3_4 => exact rfl)
      (case h4_4 => simp [go_sem])
      refine AW.tidy (st' := ?stt_5)  [0, 3, 4] ?e_5 ?kk_5
      (case e_5 => simp -dsimp [go_sem, List.set_set, hx, hf, hf2, idz]; exact rfl)
      refine AW.regK tiOk (fun _ => []) ?_
      intro k hk; simp -dsimp [go_sem, -decide_eq_true_eq, -decide_eq_false_iff_not, hx, hf, hf2, idz]
      repeat' (first | refine And.intro ?_ ?_ | refine hk _ ?_ | intro hg | omega | exact True.intro | (show (_ : Nat) < _; simp [go_sem, hx, hf, hf2, idz]; omega) | (show (_ : Nat) ≤ _; simp [go_sem, hx, hf, hf2, idz]; done) | (show _ = _; simp [go_sem, hx, hf, hf2, idz]; done) | (show _ ∧ _ ; simp [go_sem, hx, hf, hf2, idz]; done))
      all_goals clear hk k
      show ∃ _, _
      have hw := wrapi hlt (by omega)
      have hs := fill_set (f := TStep.oc) (z := [.int .i64 0, .int .i64 0, .str [], .int .i64 0, .nils, .nils]) hx
      simp [go_sem] at hs
      refine ⟨i + 1, by omega, by omega, Less.of rfl (by simp [go_sem, hw]) (by simp [go_sem, List.set_set, ← hs])⟩)
  · intro hc; try simp at hc
    all_goals (
      refine AW.exitN (fun _ h => h) ?_
      refine AW.reg tiOk (fun _ => []) [2] ?_
      intro k hk; simp -dsimp [go_sem, -decide_eq_true_eq, -decide_eq_false_iff_not]
      repeat' (first | refine And.intro ?_ ?_ | refine hk _ ?_ | intro hg | omega | exact True.intro | (show (_ : Nat) < _; simp [go_sem]; omega) | (show (_ : Nat) ≤ _; simp [go_sem]; done) | (show _ = _; simp [go_sem]; done) | (show _ ∧ _ ; simp [go_sem]; done))
      all_goals clear hk k
      refine AW.retF (ow := [1000]) (muts := []) ?_ (fun h => And.intro (.inr rfl) h)
      have he := fill_end (f := TStep.oc) (z := [.int .i64 0, .int .i64 0, .str [], .int .i64 0, .nils, .nils]) (show l.length ≤ i by omega); simp [go_sem, Try.results10, he])

end Go.AM

/-! ### T5 -/
set_option linter.unusedVariables false
set_option linter.unusedSimpArgs false
namespace Go.AM
open Go.Proofs

set_option maxHeartbeats 600000 in
set_option linter.unusedSimpArgs false in
set_option maxRecDepth 100000 in
/-- laws.szProc -/
theorem dc_laws_szProc (x : TProc) (z : Int) (hz : 0 ≤ z ∧ z ≤ 1048576) (hg : x.gok) : DC Try.prog 57 [.agg x.ro, .int .i64 z] (.int .i64 (subz z x.sz)) [] := by
  have hg' := hg
  unfold TProc.gok at hg'
  have h0 := hg'
  refine DC.intro tiOk Try.func57 rfl rfl rfl rfl rfl rfl rfl rfl [] ?_
  refine AW.reg tiOk (fun _ => []) [1, 2] ?_
  intro k hk; simp -dsimp [go_sem, -decide_eq_true_eq, -decide_eq_false_iff_not]
  repeat' (first | refine And.intro ?_ ?_ | refine hk _ ?_ | intro hg | omega | exact True.intro)
  all_goals clear hk k
  refine AW.reg tiOk (fun _ => []) [1] ?_
  intro k hk; simp -dsimp (maxSteps := 2000000) [go_sem, -decide_eq_true_eq, -decide_eq_false_iff_not]
  repeat' (first | refine And.intro ?_ ?_ | refine hk _ ?_ | intro hg | (refine CallK.intro (dc_laws_szStepS _ _ (by constructor <;> first | omega | grind [subz]) (by first | assumption | (constructor <;> assumption))) ?_; simp -dsimp (maxSteps := 2000000) [go_sem, -decide_eq_true_eq, -decide_eq_false_iff_not]) | omega | exact True.intro)
  all_goals clear hk k
  refine AW.seq ?_
  refine AW.reg tiOk (fun _ => []) [1, 10] ?_
  intro k hk; simp -dsimp [go_sem, -decide_eq_true_eq, -decide_eq_false_iff_not]
  repeat' (first | refine And.intro ?_ ?_ | refine hk _ ?_ | intro hg | omega | exact True.intro)
  all_goals clear hk k
  refine AW.cond rfl ?_ ?_
  · intro hc; try simp [subz_neg, subz_nn] at hc
    all_goals (
      refine AW.reg tiOk (fun _ => []) [4] ?_
      intro k hk; simp -dsimp [go_sem, -decide_eq_true_eq, -decide_eq_false_iff_not]
      repeat' (first | refine And.intro ?_ ?_ | refine hk _ ?_ | intro hg | omega | exact True.intro)
      all_goals clear hk k
      refine AW.retF (ow := []) (muts := []) ?_ (fun h => And.intro (.inr rfl) h)
      simp [go_sem, Try.results57]; simp only [subz, TProc.sz] at * <;> grind)
  · intro hc; try simp [subz_neg, subz_nn] at hc
    all_goals (
      refine AW.skipN (fun _ h => h) ?_
      refine AW.reg tiOk (fun _ => []) [4] ?_
      intro k hk; simp -dsimp [go_sem, -decide_eq_true_eq, -decide_eq_false_iff_not]
      repeat' (first | refine And.intro ?_ ?_ | refine hk _ ?_ | intro hg | omega | exact True.intro)
      all_goals clear hk k
      refine AW.retF (ow := []) (muts := []) ?_ (fun h => And.intro (.inr rfl) h)
      simp [go_sem, Try.results57]; simp only [subz, TProc.sz] at * <;> grind)

set_option maxHeartbeats 600000 in
set_option linter.unusedSimpArgs false in
set_option maxRecDepth 100000 in
/-- laws.szProcS -/
theorem dc_laws_szProcS (l : List TProc) (z : Int) (hz : 0 ≤ z ∧ z ≤ 1048576) (hl : l.length ≤ 9223372036854775807 ∧ ∀ e ∈ l, e.gok) : DC Try.prog 22 [.isl 1 (l.map TProc.ro), .int .i64 z] (.int .i64 (subz z (l.length + (l.map TProc.sz).sum))) [] := by
  obtain ⟨hl, hg⟩ := hl
  have hw : IntKind.wrap .i64 (z - (l.length : Int)) = z - (l.length : Int) := wrap64 (by omega) (by omega)
  refine DC.intro tiOk Try.func22 rfl rfl rfl rfl rfl rfl rfl rfl [] ?_
  refine AW.reg tiOk (fun _ => []) [0, 1] ?_
  intro k hk; simp -dsimp [go_sem, -decide_eq_true_eq, -decide_eq_false_iff_not, hw]
  repeat' (first | refine And.intro ?_ ?_ | refine hk _ ?_ | intro hg | omega | exact True.intro)
  all_goals clear hk k
  refine AW.reg tiOk (fun _ => []) [0, 1] ?_
  intro k hk; simp -dsimp [go_sem, -decide_eq_true_eq, -decide_eq_false_iff_not, hw]
  repeat' (first | refine And.intro ?_ ?_ | refine hk _ ?_ | intro hg | omega | exact True.intro)
  all_goals clear hk k
  refine AW.seq ?_
  refine AW.reg tiOk (fun _ => []) [0, 1, 11] ?_
  intro k hk; simp -dsimp [go_sem, -decide_eq_true_eq, -decide_eq_false_iff_not, hw]
  repeat' (first | refine And.intro ?_ ?_ | refine hk _ ?_ | intro hg | omega | exact True.intro)
  all_goals clear hk k
  refine AW.cond rfl ?_ ?_
  · intro hc; try simp [subz_neg, subz_nn] at hc
    all_goals (
      refine AW.reg tiOk (fun _ => []) [4] ?_
      intro k hk; simp -dsimp [go_sem, -decide_eq_true_eq, -decide_eq_false_iff_not, hw]
      repeat' (first | refine And.intro ?_ ?_ | refine hk _ ?_ | intro hg | omega | exact True.intro)
      all_goals clear hk k
      refine AW.retF (ow := []) (muts := []) ?_ (fun h => And.intro (.inr rfl) h)
      have hle := fun i => sum_le (f := TProc.sz) (l := l) (i := i); first | (rw [subz_no (by have := hle (i + 1); simp at *; omega)]; simp [go_sem, Try.results22]; done) | (rw [subz_no (by simp at *; omega)]; simp [go_sem, Try.results22]; done) | (rw [List.take_of_length_le (show (l.map TProc.sz).length ≤ i by simp; omega)] at *; rw [subz_ok (by simp at *; omega)]; simp [go_sem, Try.results22]; omega))
  · intro hc; try simp [subz_neg, subz_nn] at hc
    all_goals (
      refine AW.skipN (fun _ h => h) ?_
      refine AW.seq ?_
      refine AW.reg tiOk (fun _ => []) [0, 1, 5] ?_
      intro k hk; simp -dsimp [go_sem, -decide_eq_true_eq, -decide_eq_false_iff_not, hw]
      repeat' (first | refine And.intro ?_ ?_ | refine hk _ ?_ | intro hg | omega | exact True.intro)
      all_goals clear hk k
      refine AW.block ?_
      -- live at the loop's head: [0, 1, 5]
      refine AW.loopI (fun i : Nat => ⟨27, [(0, .isl 1 (l.map TProc.ro)), (1, .int .i64 (z - (l.length : Int) - (((l.map TProc.sz).take i).sum : Int))), (5, .int .i64 i)], []⟩) (fun i => i ≤ l.length ∧ (l.length : Int) + (((l.map TProc.sz).take i).sum : Nat) ≤ z) (fun i => l.length - i) (0) (by refine ⟨Nat.zero_le _, ?_⟩; simp; omega) (Less.of rfl (by simp [go_sem]) (by simp [go_sem])) ?_
      rintro i ⟨hi, hinv⟩
      refine AW.seq ?_
      refine AW.reg tiOk (fun _ => []) [0, 1, 5, 15] ?_
      intro k hk; simp -dsimp [go_sem, -decide_eq_true_eq, -decide_eq_false_iff_not, hw]
      repeat' (first | refine And.intro ?_ ?_ | refine hk _ ?_ | intro hg | omega | exact True.intro)
      all_goals clear hk k
      refine AW.cond rfl ?_ ?_
      · intro hc; try simp [subz_neg, subz_nn] at hc
        all_goals (
          have hlt : i < l.length := by assumption
          obtain ⟨x, hx⟩ := at_some hlt
          have hst := sum_take (f := TProc.sz) hx
          refine AW.skipN (fun _ h => h) ?_
          refine AW.seq ?_
          refine AW.block ?_
          refine AW.reg tiOk (fun _ => []) [0, 1, 5] ?_
          intro k hk; simp -dsimp (maxSteps := 2000000) [go_sem, -decide_eq_true_eq, -decide_eq_false_iff_not, hw, hx]
          repeat' (first | refine And.intro ?_ ?_ | refine hk _ ?_ | intro hg | (refine CallK.intro (dc_laws_szProc x _ (by omega) (hg x (List.mem_of_getElem? hx))) ?_; simp -dsimp (maxSteps := 2000000) [go_sem, -decide_eq_true_eq, -decide_eq_false_iff_not, hw, hx]) | omega | exact True.intro)
          all_goals clear hk k
          refine AW.reg tiOk (fun _ => []) [0, 1, 5, 25] ?_
          intro k hk; simp -dsimp [go_sem, -decide_eq_true_eq, -decide_eq_false_iff_not, hw, hx]
          repeat' (first | refine And.intro ?_ ?_ | refine hk _ ?_ | intro hg | omega | exact True.intro)
          all_goals clear hk k
          refine AW.cond rfl ?_ ?_
          · intro hc; try simp [subz_neg, subz_nn] at hc
            all_goals (
              refine AW.reg tiOk (fun _ => []) [4] ?_
              intro k hk; simp -dsimp [go_sem, -decide_eq_true_eq, -decide_eq_false_iff_not, hw, hx]
              repeat' (first | refine And.intro ?_ ?_ | refine hk _ ?_ | intro hg | omega | exact True.intro)
              all_goals clear hk k
              refine AW.retF (ow := []) (muts := []) ?_ (fun h => And.intro (.inr rfl) h)
              have hle := fun i => sum_le (f := TProc.sz) (l := l) (i := i); first | (rw [subz_no (by have := hle (i + 1); simp at *; omega)]; simp [go_sem, Try.results22]; done) | (rw [subz_no (by simp at *; omega)]; simp [go_sem, Try.results22]; done) | (rw [List.take_of_length_le (show (l.map TProc.sz).length ≤ i by simp; omega)] at *; rw [subz_ok (by simp at *; omega)]; simp [go_sem, Try.results22]; omega))
          · intro hc; try simp [subz_neg, subz_nn] at hc
            all_goals (
              refine AW.skipN (fun _ h => h) ?_
              refine AW.regK tiOk (fun _ => []) ?_
              intro k hk; simp -dsimp [go_sem, -decide_eq_true_eq, -decide_eq_false_iff_not, hw, hx]
              repeat' (first | refine And.intro ?_ ?_ | refine hk _ ?_ | intro hg | omega | exact True.intro)
              all_goals clear hk k
              show ∃ _, _
              have hw2 := wrapi hlt hl
              have hb : (TProc.sz x : Int) ≤ z - (l.length : Int) - (((l.map TProc.sz).take i).sum : Int) := by first | exact subz_nn.1 (by assumption) | omega
              refine ⟨i + 1, ⟨by omega, by omega⟩, by omega, Less.of rfl (by simp [go_sem, hw2, subz_ok hb, hst]; omega) (by simp [go_sem])⟩))
      · intro hc; try simp [subz_neg, subz_nn] at hc
        all_goals (
          refine AW.exitN (fun _ h => h) ?_
          refine AW.reg tiOk (fun _ => []) [4] ?_
          intro k hk; simp -dsimp [go_sem, -decide_eq_true_eq, -decide_eq_false_iff_not, hw]
          repeat' (first | refine And.intro ?_ ?_ | refine hk _ ?_ | intro hg | omega | exact True.intro)
          all_goals clear hk k
          refine AW.retF (ow := []) (muts := []) ?_ (fun h => And.intro (.inr rfl) h)
          have hle := fun i => sum_le (f := TProc.sz) (l := l) (i := i); first | (rw [subz_no (by have := hle (i + 1); simp at *; omega)]; simp [go_sem, Try.results22]; done) | (rw [subz_no (by simp at *; omega)]; simp [go_sem, Try.results22]; done) | (rw [List.take_of_length_le (show (l.map TProc.sz).length ≤ i by simp; omega)] at *; rw [subz_ok (by simp at *; omega)]; simp [go_sem, Try.results22]; omega)))

set_option maxHeartbeats 600000 in
set_option linter.unusedSimpArgs false in
set_option maxRecDepth 100000 in
/-- laws.eqProc -/
theorem dc_laws_eqProc (a b : TProc) (hg : a.gok) : DC Try.prog 64 [.agg a.ro, .agg b.ro] (.bool (decide (a = b))) [] := by
  have h0 := hg
  unfold TProc.gok at h0
  refine DC.intro tiOk Try.func64 rfl rfl rfl rfl rfl rfl rfl rfl [] ?_
  refine AW.reg tiOk (fun _ => []) [2, 3] ?_
  intro k hk; simp -dsimp [go_sem, -decide_eq_true_eq, -decide_eq_false_iff_not]
  repeat' (first | refine And.intro ?_ ?_ | refine hk _ ?_ | intro hg | omega | exact True.intro)
  all_goals clear hk k
  refine AW.seq ?_
  refine AW.reg tiOk (fun _ => []) [10] ?_
  intro k hk; simp -dsimp (maxSteps := 2000000) [go_sem, -decide_eq_true_eq, -decide_eq_false_iff_not]
  repeat' (first | refine And.intro ?_ ?_ | refine hk _ ?_ | intro hg | (refine CallK.intro (dc_laws_eqStepS _ _ (by assumption)) ?_; simp -dsimp (maxSteps := 2000000) [go_sem, -decide_eq_true_eq, -decide_eq_false_iff_not]) | omega | exact True.intro)
  all_goals clear hk k
  refine AW.cond rfl ?_ ?_
  · intro hc; try simp at hc
    all_goals (
      refine AW.reg tiOk (fun _ => []) [4] ?_
      intro k hk; simp -dsimp [go_sem, -decide_eq_true_eq, -decide_eq_false_iff_not]
      repeat' (first | refine And.intro ?_ ?_ | refine hk _ ?_ | intro hg | omega | exact True.intro)
      all_goals clear hk k
      refine AW.retF (ow := []) (muts := []) ?_ (fun h => And.intro (.inr rfl) h)
      cases a; cases b; simp [go_sem, Try.results64] at *; simp [*])
  · intro hc; try simp at hc
    all_goals (
      refine AW.skipN (fun _ h => h) ?_
      refine AW.reg tiOk (fun _ => []) [4] ?_
      intro k hk; simp -dsimp [go_sem, -decide_eq_true_eq, -decide_eq_false_iff_not]
      repeat' (first | refine And.intro ?_ ?_ | refine hk _ ?_ | intro hg | omega | exact True.intro)
      all_goals clear hk k
      refine AW.retF (ow := []) (muts := []) ?_ (fun h => And.intro (.inr rfl) h)
      cases a; cases b; simp [go_sem, Try.results64] at *; simp [*])

set_option maxHeartbeats 600000 in
set_option linter.unusedSimpArgs false in
set_option maxRecDepth 100000 in
/-- laws.eqProcS -/
theorem dc_laws_eqProcS (a b : List TProc) (ha : a.length ≤ 9223372036854775807 ∧ ∀ e ∈ a, e.gok) : DC Try.prog 27 [.isl 1 (a.map TProc.ro), .isl 1 (b.map TProc.ro)] (.bool (decide (a = b))) [] := by
  obtain ⟨ha, hg⟩ := ha
  refine DC.intro tiOk Try.func27 rfl rfl rfl rfl rfl rfl rfl rfl [] ?_
  refine AW.reg tiOk (fun _ => []) [0, 1] ?_
  intro k hk; simp -dsimp [go_sem, -decide_eq_true_eq, -decide_eq_false_iff_not]
  repeat' (first | refine And.intro ?_ ?_ | refine hk _ ?_ | intro hg | omega | exact True.intro)
  all_goals clear hk k
  refine AW.seq ?_
  refine AW.reg tiOk (fun _ => []) [0, 1, 10] ?_
  intro k hk; simp -dsimp [go_sem, -decide_eq_true_eq, -decide_eq_false_iff_not]
  repeat' (first | refine And.intro ?_ ?_ | refine hk _ ?_ | intro hg | omega | exact True.intro)
  all_goals clear hk k
  refine AW.cond rfl ?_ ?_
  · intro hc; try simp at hc
    all_goals (
      refine AW.reg tiOk (fun _ => []) [4] ?_
      intro k hk; simp -dsimp [go_sem, -decide_eq_true_eq, -decide_eq_false_iff_not]
      repeat' (first | refine And.intro ?_ ?_ | refine hk _ ?_ | intro hg | omega | exact True.intro)
      all_goals clear hk k
      refine AW.retF (ow := []) (muts := []) ?_ (fun h => And.intro (.inr rfl) h)
      first | (rw [eq_ne_at hx hy (by first | assumption | (intro e; subst e; omega))]; simp [go_sem, Try.results27]; done) | (rw [eq_end (by omega) hinv (by omega)]; simp [go_sem, Try.results27]; done) | (rw [eq_ne_len (by omega)]; simp [go_sem, Try.results27]))
  · intro hc; try simp at hc
    all_goals (
      refine AW.skipN (fun _ h => h) ?_
      refine AW.seq ?_
      refine AW.reg tiOk (fun _ => []) [0, 1, 5] ?_
      intro k hk; simp -dsimp [go_sem, -decide_eq_true_eq, -decide_eq_false_iff_not]
      repeat' (first | refine And.intro ?_ ?_ | refine hk _ ?_ | intro hg | omega | exact True.intro)
      all_goals clear hk k
      refine AW.block ?_
      -- live at the loop's head: [0, 1, 5]
      refine AW.loopI (fun i : Nat => ⟨27, [(0, .isl 1 (a.map TProc.ro)), (1, .isl 1 (b.map TProc.ro)), (5, .int .i64 i)], []⟩) (fun i => i ≤ a.length ∧ a.take i = b.take i) (fun i => a.length - i) (0) (by simp) (Less.of rfl (by simp [go_sem]) (by simp [go_sem])) ?_
      rintro i ⟨hi, hinv⟩
      refine AW.seq ?_
      refine AW.reg tiOk (fun _ => []) [0, 1, 5, 14] ?_
      intro k hk; simp -dsimp [go_sem, -decide_eq_true_eq, -decide_eq_false_iff_not]
      repeat' (first | refine And.intro ?_ ?_ | refine hk _ ?_ | intro hg | omega | exact True.intro)
      all_goals clear hk k
      refine AW.cond rfl ?_ ?_
      · intro hc; try simp at hc
        all_goals (
          have hlt : i < a.length := by assumption
          obtain ⟨x, hx⟩ := at_some hlt
          obtain ⟨y, hy⟩ := at_some (l := b) (show i < b.length by omega)
          have hla := at_lt hy
          refine AW.skipN (fun _ h => h) ?_
          refine AW.seq ?_
          refine AW.block ?_
          refine AW.reg tiOk (fun _ => []) [0, 1, 5, 26] ?_
          intro k hk; simp -dsimp (maxSteps := 2000000) [go_sem, -decide_eq_true_eq, -decide_eq_false_iff_not, hx, hy]
          repeat' (first | refine And.intro ?_ ?_ | (refine Chk.keys ?_; simp only [go_sem, List.map_cons, List.map_nil, List.flatMap_cons, List.flatMap_nil, List.flatMap_append, List.append_nil, List.nil_append, List.cons_append]; decide +kernel) | refine hk _ ?_ | intro hg | (refine CallK.intro (dc_laws_eqProc x y (hg x (List.mem_of_getElem? hx))) ?_; simp -dsimp (maxSteps := 2000000) [go_sem, -decide_eq_true_eq, -decide_eq_false_iff_not, hx, hy]) | omega | exact True.intro)
          all_goals clear hk k
          refine AW.cond rfl ?_ ?_
          · intro hc; try simp at hc
            all_goals (
              refine AW.reg tiOk (fun _ => []) [4] ?_
              intro k hk; simp -dsimp [go_sem, -decide_eq_true_eq, -decide_eq_false_iff_not, hx, hy]
              repeat' (first | refine And.intro ?_ ?_ | refine hk _ ?_ | intro hg | omega | exact True.intro)
              all_goals clear hk k
              refine AW.retF (ow := []) (muts := []) ?_ (fun h => And.intro (.inr rfl) h)
              first | (rw [eq_ne_at hx hy (by first | assumption | (intro e; subst e; omega))]; simp [go_sem, Try.results27]; done) | (rw [eq_end (by omega) hinv (by omega)]; simp [go_sem, Try.results27]; done) | (rw [eq_ne_len (by omega)]; simp [go_sem, Try.results27]))
          · intro hc; try simp at hc
            all_goals (
              refine AW.skipN (fun _ h => h) ?_
              refine AW.regK tiOk (fun _ => []) ?_
              intro k hk; simp -dsimp [go_sem, -decide_eq_true_eq, -decide_eq_false_iff_not, hx, hy]
              repeat' (first | refine And.intro ?_ ?_ | refine hk _ ?_ | intro hg | omega | exact True.intro)
              all_goals clear hk k
              show ∃ _, _
              have hw := wrapi hlt (by omega)
              refine ⟨i + 1, ⟨by omega, take_step hx hy (by first | assumption | (apply UInt8.toNat_inj.1; omega)) hinv⟩, by omega, Less.of rfl (by simp [go_sem, hw]) (by simp [go_sem])⟩))
      · intro hc; try simp at hc
        all_goals (
          refine AW.exitN (fun _ h => h) ?_
          refine AW.reg tiOk (fun _ => []) [4] ?_
          intro k hk; simp -dsimp [go_sem, -decide_eq_true_eq, -decide_eq_false_iff_not]
          repeat' (first | refine And.intro ?_ ?_ | refine hk _ ?_ | intro hg | omega | exact True.intro)
          all_goals clear hk k
          refine AW.retF (ow := []) (muts := []) ?_ (fun h => And.intro (.inr rfl) h)
          first | (rw [eq_ne_at hx hy (by first | assumption | (intro e; subst e; omega))]; simp [go_sem, Try.results27]; done) | (rw [eq_end (by omega) hinv (by omega)]; simp [go_sem, Try.results27]; done) | (rw [eq_ne_len (by omega)]; simp [go_sem, Try.results27])))

set_option maxHeartbeats 600000 in
set_option linter.unusedSimpArgs false in
set_option maxRecDepth 100000 in
/-- laws.toProc -/
theorem dc_laws_toProc (x : TProc) (hs : x.sz ≤ 1048576) : DC Try.prog 61 [.agg x.ro] (.agg [.osl 6 (x.steps.map TStep.oc)]) [] := by
  unfold TProc.sz at hs
  have h0 : x.steps.length ≤ 1048576 ∧ ∀ e ∈ x.steps, e.sz ≤ 1048576 := ⟨by omega, fun e he => by have := sum_mem (f := TStep.sz) he; omega⟩
  refine DC.intro tiOk Try.func61 rfl rfl rfl rfl rfl rfl rfl rfl [1000] ?_
  refine AW.reg tiOk (fun _ => []) [1, 2] ?_
  intro k hk; simp -dsimp [go_sem, -decide_eq_true_eq, -decide_eq_false_iff_not]
  repeat' (first | refine And.intro ?_ ?_ | refine hk _ ?_ | intro hg | omega | exact True.intro)
  all_goals clear hk k
  refine AW.reg tiOk (fun _ => []) [1, 2, 3] ?_
  intro k hk; simp -dsimp [go_sem, -decide_eq_true_eq, -decide_eq_false_iff_not]
  repeat' (first | refine And.intro ?_ ?_ | refine hk _ ?_ | intro hg | omega | exact True.intro)
  all_goals clear hk k
  refine AW.reg tiOk (fun _ => []) [2, 3] ?_
  intro k hk; simp -dsimp (maxSteps := 2000000) [go_sem, -decide_eq_true_eq, -decide_eq_false_iff_not]
  repeat' (first | refine And.intro ?_ ?_ | refine hk _ ?_ | intro hg | (refine CallK.intro (dc_laws_toStepS _ (by assumption)) ?_; simp -dsimp (maxSteps := 2000000) [go_sem, -decide_eq_true_eq, -decide_eq_false_iff_not]) | omega | exact True.intro)
  all_goals clear hk k
  refine AW.reg tiOk (fun _ => []) [2] ?_
  intro k hk; simp -dsimp [go_sem, -decide_eq_true_eq, -decide_eq_false_iff_not]
  repeat' (first | refine And.intro ?_ ?_ | refine hk _ ?_ | intro hg | omega | exact True.intro)
  all_goals clear hk k
  refine AW.retF (ow := [1000]) (muts := []) ?_ (fun h => And.intro (.inr rfl) h)
  simp [go_sem, Try.results61]

set_option maxHeartbeats 600000 in
set_option linter.unusedSimpArgs false in
set_option maxRecDepth 100000 in
/-- laws.toProcS -/
theorem dc_laws_toProcS (l : List TProc) (hl : l.length ≤ 1048576 ∧ ∀ e ∈ l, e.sz ≤ 1048576) : DC Try.prog 24 [.isl 1 (l.map TProc.ro)] (.osl 1 (l.map TProc.oc)) [] := by
  obtain ⟨hl, hg⟩ := hl
  have idz : ∀ i, (fill TProc.oc [.nils] l i).flatMap idsL = [] := fun i => fill_ids (by intro x; simp [go_sem]) (by simp [go_sem])
  refine DC.intro tiOk Try.func24 rfl rfl rfl rfl rfl rfl rfl rfl [1000] ?_
  refine AW.reg tiOk (fun _ => []) [0] ?_
  intro k hk; simp -dsimp [go_sem, -decide_eq_true_eq, -decide_eq_false_iff_not]
  repeat' (first | refine And.intro ?_ ?_ | refine hk _ ?_ | intro hg | omega | exact True.intro | (show (_ : Nat) < _; simp [go_sem]; omega) | (show (_ : Nat) ≤ _; simp [go_sem]; done) | (show _ = _; simp [go_sem]; done) | (show _ ∧ _ ; simp [go_sem]; done))
  all_goals clear hk k
  refine AW.reg tiOk (fun _ => []) [0, 3] ?_
  intro k hk; simp -dsimp [go_sem, -decide_eq_true_eq, -decide_eq_false_iff_not]
  repeat' (first | refine And.intro ?_ ?_ | refine hk _ ?_ | intro hg | omega | exact True.intro | (show (_ : Nat) < _; simp [go_sem]; omega) | (show (_ : Nat) ≤ _; simp [go_sem]; done) | (show _ = _; simp [go_sem]; done) | (show _ ∧ _ ; simp [go_sem]; done))
  all_goals clear hk k
  refine AW.seq ?_
  refine AW.reg tiOk (fun _ => []) [0, 3, 4] ?_
  intro k hk; simp -dsimp [go_sem, -decide_eq_true_eq, -decide_eq_false_iff_not]
  repeat' (first | refine And.intro ?_ ?_ | refine hk _ ?_ | intro hg | omega | exact True.intro | (show (_ : Nat) < _; simp [go_sem]; omega) | (show (_ : Nat) ≤ _; simp [go_sem]; done) | (show _ = _; simp [go_sem]; done) | (show _ ∧ _ ; simp [go_sem]; done))
  all_goals clear hk k
  refine AW.block ?_
  -- live at the loop's head: [0, 3, 4]
  refine AW.loopI (fun i : Nat => ⟨23, [(0, .isl 1 (l.map TProc.ro)), (3, .sl 7 1 0 l.length), (4, .int .i64 i)], [(7, some ⟨1, fill TProc.oc [.nils] l i⟩)]⟩) (fun i => i ≤ l.length) (fun i => l.length - i) (0) (by simp) (Less.of rfl (by simp [go_sem]) (by simp [go_sem, fill_zero])) ?_
  rintro i hi
  refine AW.seq ?_
  refine AW.reg tiOk (fun _ => []) [0, 3, 4, 11] ?_
  intro k hk; simp -dsimp [go_sem, -decide_eq_true_eq, -decide_eq_false_iff_not]
  repeat' (first | refine And.intro ?_ ?_ | refine hk _ ?_ | intro hg | omega | exact True.intro | (show (_ : Nat) < _; simp [go_sem]; omega) | (show (_ : Nat) ≤ _; simp [go_sem]; done) | (show _ = _; simp [go_sem]; done) | (show _ ∧ _ ; simp [go_sem]; done))
  all_goals clear hk k
  refine AW.cond rfl ?_ ?_
  · intro hc; try simp at hc
    all_goals (
      have hlt : i < l.length := by assumption
      obtain ⟨x, hx⟩ := at_some hlt
      have hf := fill_len (f := TProc.oc) (z := [.nils]) hi
      have hf2 := fill_at (f := TProc.oc) (z := [.nils]) hlt
      refine AW.skipN (fun _ h => h) ?_
      refine AW.seq ?_
      refine AW.block ?_
      refine AW.regN0 tiOk (fun _ => []) [0, 3, 4] (fun _ h => h) ?_
      intro k hk; simp -dsimp (maxSteps := 2000000) [go_sem, -decide_eq_true_eq, -decide_eq_false_iff_not, hx, hf, hf2, idz]
      repeat' (first | refine And.intro ?_ ?_ | refine hk _ ?_ | intro hg | (refine CallK.intro (dc_laws_toProc x (hg x (List.mem_of_getElem? hx))) ?_; simp -dsimp (maxSteps := 2000000) [go_sem, -decide_eq_true_eq, -decide_eq_false_iff_not, hx, hf, hf2, idz]) | omega | exact True.intro | (show (_ : Nat) < _; simp [go_sem, hx, hf, hf2, idz]; omega) | (show (_ : Nat) ≤ _; simp [go_sem, hx, hf, hf2, idz]; done) | (show _ = _; simp [go_sem, hx, hf, hf2, idz]; done) | (show _ ∧ _ ; simp [go_sem, hx, hf, hf2, idz]; done))
      all_goals clear hk k
      refine AW.fold (nd := ?nd_1) (c := ?c_1) (l := ?l_1) (es := ?es_1) (n := ?n_1) 7 i 0 1020 ?h1_1 ?h2_1 ?h4_1 ?h3_1 ?hn_1 (by decide) ?h6_1 ?kk_1
      (case h1_1 => exact rfl)
      (case h2_1 => refine node_here ?_; (repeat rw [List.length_set]); omega)
      (case h4_1 => exact rfl)
      (case h3_1 => exact rfl)
      (case hn_1 => simp)
      (case h6_1 => simp [go_sem])
      refine AW.cellLe (nd := ?nd_2) (c := ?c_2) (x := ?x_2) 7 i 0 (owc 6 (x.steps.map TStep.oc)) ?h1_2 ?h2_2 ?h3_2 ?h4_2 ?kk_2
      (case h1_2 => exact rfl)
      (case h2_2 => refine node_here ?_; (repeat rw [List.length_set]); omega)
      (case h3_2 => exact rfl)
      (case h4_2 => simp [go_sem])
      refine AW.tidy (st' := ?stt_3)  [0, 3, 4] ?e_3 ?kk_3
      (case e_3 => simp -dsimp [go_sem, List.set_set, hx, hf, hf2, idz]; exact rfl)
      refine AW.regK tiOk (fun _ => []) ?_
      intro k hk; simp -dsimp [go_sem, -decide_eq_true_eq, -decide_eq_false_iff_not, hx, hf, hf2, idz]
      repeat' (first | refine And.intro ?_ ?_ | refine hk _ ?_ | intro hg | omega | exact True.intro | (show (_ : Nat) < _; simp [go_sem, hx, hf, hf2, idz]; omega) | (show (_ : Nat) ≤ _; simp [go_sem, hx, hf, hf2, idz]; done) | (show _ = _; simp [go_sem, hx, hf, hf2, idz]; done) | (show _ ∧ _ ; simp [go_sem, hx, hf, hf2, idz]; done))
      all_goals clear hk k
      show ∃ _, _
      have hw := wrapi hlt (by omega)
      have hs := fill_set (f := TProc.oc) (z := [.nils]) hx
      simp [go_sem] at hs
      refine ⟨i + 1, by omega, by omega, Less.of rfl (by simp [go_sem, hw]) (by simp [go_sem, List.set_set, ← hs])⟩)
  · intro hc; try simp at hc
    all_goals (
      refine AW.exitN (fun _ h => h) ?_
      refine AW.reg tiOk (fun _ => []) [2] ?_
      intro k hk; simp -dsimp [go_sem, -decide_eq_true_eq, -decide_eq_false_iff_not]
      repeat' (first | refine And.intro ?_ ?_ | refine hk _ ?_ | intro hg | omega | exact True.intro | (show (_ : Nat) < _; simp [go_sem]; omega) | (show (_ : Nat) ≤ _; simp [go_sem]; done) | (show _ = _; simp [go_sem]; done) | (show _ ∧ _ ; simp [go_sem]; done))
      all_goals clear hk k
      refine AW.retF (ow := [1000]) (muts := []) ?_ (fun h => And.intro (.inr rfl) h)
      have he := fill_end (f := TProc.oc) (z := [.nils]) (show l.length ≤ i by omega); simp [go_sem, Try.results24, he])

end Go.AM

/-! ### T6 -/
set_option linter.unusedVariables false
set_option linter.unusedSimpArgs false
namespace Go.AM
open Go.Proofs

set_option maxHeartbeats 600000 in
set_option linter.unusedSimpArgs false in
set_option maxRecDepth 100000 in
/-- laws.eqInst -/
theorem dc_laws_eqInst (a b : TInst) (hg : a.gok) : DC Try.prog 97 [.agg a.ro, .agg b.ro] (.bool (decide (a = b))) [] := by
  have h0 := hg
  unfold TInst.gok at h0
  refine DC.intro tiOk Try.func97 rfl rfl rfl rfl rfl rfl rfl rfl [] ?_
  refine AW.reg tiOk (fun _ => []) [2, 3] ?_
  intro k hk; simp -dsimp [go_sem, -decide_eq_true_eq, -decide_eq_false_iff_not]
  repeat' (first | refine And.intro ?_ ?_ | refine hk _ ?_ | intro hg | omega | exact True.intro)
  all_goals clear hk k
  refine AW.seq ?_
  refine AW.reg tiOk (fun _ => []) [2, 3, 9] ?_
  intro k hk; simp -dsimp [go_sem, -decide_eq_true_eq, -decide_eq_false_iff_not]
  repeat' (first | refine And.intro ?_ ?_ | refine hk _ ?_ | intro hg | omega | exact True.intro)
  all_goals clear hk k
  refine AW.cond rfl ?_ ?_
  · intro hc; try simp at hc
    all_goals (
      refine AW.reg tiOk (fun _ => []) [4] ?_
      intro k hk; simp -dsimp [go_sem, -decide_eq_true_eq, -decide_eq_false_iff_not]
      repeat' (first | refine And.intro ?_ ?_ | refine hk _ ?_ | intro hg | omega | exact True.intro)
      all_goals clear hk k
      refine AW.retF (ow := []) (muts := []) ?_ (fun h => And.intro (.inr rfl) h)
      cases a; cases b; simp [go_sem, Try.results97] at *; simp [*])
  · intro hc; try simp at hc
    all_goals (
      refine AW.skipN (fun _ h => h) ?_
      refine AW.seq ?_
      refine AW.reg tiOk (fun _ => []) [15] ?_
      intro k hk; simp -dsimp (maxSteps := 2000000) [go_sem, -decide_eq_true_eq, -decide_eq_false_iff_not]
      repeat' (first | refine And.intro ?_ ?_ | refine hk _ ?_ | intro hg | (refine CallK.intro (dc_laws_eqChart _ _ (by assumption)) ?_; simp -dsimp (maxSteps := 2000000) [go_sem, -decide_eq_true_eq, -decide_eq_false_iff_not]) | omega | exact True.intro)
      all_goals clear hk k
      refine AW.cond rfl ?_ ?_
      · intro hc; try simp at hc
        all_goals (
          refine AW.reg tiOk (fun _ => []) [4] ?_
          intro k hk; simp -dsimp [go_sem, -decide_eq_true_eq, -decide_eq_false_iff_not]
          repeat' (first | refine And.intro ?_ ?_ | refine hk _ ?_ | intro hg | omega | exact True.intro)
          all_goals clear hk k
          refine AW.retF (ow := []) (muts := []) ?_ (fun h => And.intro (.inr rfl) h)
          cases a; cases b; simp [go_sem, Try.results97] at *; simp [*])
      · intro hc; try simp at hc
        all_goals (
          refine AW.skipN (fun _ h => h) ?_
          refine AW.reg tiOk (fun _ => []) [4] ?_
          intro k hk; simp -dsimp [go_sem, -decide_eq_true_eq, -decide_eq_false_iff_not]
          repeat' (first | refine And.intro ?_ ?_ | refine hk _ ?_ | intro hg | omega | exact True.intro)
          all_goals clear hk k
          refine AW.retF (ow := []) (muts := []) ?_ (fun h => And.intro (.inr rfl) h)
          cases a; cases b; simp [go_sem, Try.results97] at *; simp [*]))

set_option maxHeartbeats 600000 in
set_option linter.unusedSimpArgs false in
set_option maxRecDepth 100000 in
/-- laws.eqInstS -/
theorem dc_laws_eqInstS (a b : List TInst) (ha : a.length ≤ 9223372036854775807 ∧ ∀ e ∈ a, e.gok) : DC Try.prog 72 [.isl 6 (a.map TInst.ro), .isl 6 (b.map TInst.ro)] (.bool (decide (a = b))) [] := by
  obtain ⟨ha, hg⟩ := ha
  refine DC.intro tiOk Try.func72 rfl rfl rfl rfl rfl rfl rfl rfl [] ?_
  refine AW.reg tiOk (fun _ => []) [0, 1] ?_
  intro k hk; simp -dsimp [go_sem, -decide_eq_true_eq, -decide_eq_false_iff_not]
  repeat' (first | refine And.intro ?_ ?_ | refine hk _ ?_ | intro hg | omega | exact True.intro)
  all_goals clear hk k
  refine AW.seq ?_
  refine AW.reg tiOk (fun _ => []) [0, 1, 10] ?_
  intro k hk; simp -dsimp [go_sem, -decide_eq_true_eq, -decide_eq_false_iff_not]
  repeat' (first | refine And.intro ?_ ?_ | refine hk _ ?_ | intro hg | omega | exact True.intro)
  all_goals clear hk k
  refine AW.cond rfl ?_ ?_
  · intro hc; try simp at hc
    all_goals (
      refine AW.reg tiOk (fun _ => []) [4] ?_
      intro k hk; simp -dsimp [go_sem, -decide_eq_true_eq, -decide_eq_false_iff_not]
      repeat' (first | refine And.intro ?_ ?_ | refine hk _ ?_ | intro hg | omega | exact True.intro)
      all_goals clear hk k
      refine AW.retF (ow := []) (muts := []) ?_ (fun h => And.intro (.inr rfl) h)
      first | (rw [eq_ne_at hx hy (by first | assumption | (intro e; subst e; omega))]; simp [go_sem, Try.results72]; done) | (rw [eq_end (by omega) hinv (by omega)]; simp [go_sem, Try.results72]; done) | (rw [eq_ne_len (by omega)]; simp [go_sem, Try.results72]))
  · intro hc; try simp at hc
    all_goals (
      refine AW.skipN (fun _ h => h) ?_
      refine AW.seq ?_
      refine AW.reg tiOk (fun _ => []) [0, 1, 5] ?_
      intro k hk; simp -dsimp [go_sem, -decide_eq_true_eq, -decide_eq_false_iff_not]
      repeat' (first | refine And.intro ?_ ?_ | refine hk _ ?_ | intro hg | omega | exact True.intro)
      all_goals clear hk k
      refine AW.block ?_
      -- live at the loop's head: [0, 1, 5]
      refine AW.loopI (fun i : Nat => ⟨27, [(0, .isl 6 (a.map TInst.ro)), (1, .isl 6 (b.map TInst.ro)), (5, .int .i64 i)], []⟩) (fun i => i ≤ a.length ∧ a.take i = b.take i) (fun i => a.length - i) (0) (by simp) (Less.of rfl (by simp [go_sem]) (by simp [go_sem])) ?_
      rintro i ⟨hi, hinv⟩
      refine AW.seq ?_
      refine AW.reg tiOk (fun _ => []) [0, 1, 5, 14] ?_
      intro k hk; simp -dsimp [go_sem, -decide_eq_true_eq, -decide_eq_false_iff_not]
      repeat' (first | refine And.intro ?_ ?_ | refine hk _ ?_ | intro hg | omega | exact True.intro)
      all_goals clear hk k
      refine AW.cond rfl ?_ ?_
      · intro hc; try simp at hc
        all_goals (
          have hlt : i < a.length := by assumption
          obtain ⟨x, hx⟩ := at_some hlt
          obtain ⟨y, hy⟩ := at_some (l := b) (show i < b.length by omega)
          have hla := at_lt hy
          refine AW.skipN (fun _ h => h) ?_
          refine AW.seq ?_
          refine AW.block ?_
          refine AW.reg tiOk (fun _ => []) [0, 1, 5, 26] ?_
          intro k hk; simp -dsimp (maxSteps := 2000000) [go_sem, -decide_eq_true_eq, -decide_eq_false_iff_not, hx, hy]
          repeat' (first | refine And.intro ?_ ?_ | (refine Chk.keys ?_; simp only [go_sem, List.map_cons, List.map_nil, List.flatMap_cons, List.flatMap_nil, List.flatMap_append, List.append_nil, List.nil_append, List.cons_append]; decide +kernel) | refine hk _ ?_ | intro hg | (refine CallK.intro (dc_laws_eqInst x y (hg x (List.mem_of_getElem? hx))) ?_; simp -dsimp (maxSteps := 2000000) [go_sem, -decide_eq_true_eq, -decide_eq_false_iff_not, hx, hy]) | omega | exact True.intro)
          all_goals clear hk k
          refine AW.cond rfl ?_ ?_
          · intro hc; try simp at hc
            all_goals (
              refine AW.reg tiOk (fun _ => []) [4] ?_
              intro k hk; simp -dsimp [go_sem, -decide_eq_true_eq, -decide_eq_false_iff_not, hx, hy]
              repeat' (first | refine And.intro ?_ ?_ | refine hk _ ?_ | intro hg | omega | exact True.intro)
              all_goals clear hk k
              refine AW.retF (ow := []) (muts := []) ?_ (fun h => And.intro (.inr rfl) h)
              first | (rw [eq_ne_at hx hy (by first | assumption | (intro e; subst e; omega))]; simp [go_sem, Try.results72]; done) | (rw [eq_end (by omega) hinv (by omega)]; simp [go_sem, Try.results72]; done) | (rw [eq_ne_len (by omega)]; simp [go_sem, Try.results72]))
          · intro hc; try simp at hc
            all_goals (
              refine AW.skipN (fun _ h => h) ?_
              refine AW.regK tiOk (fun _ => []) ?_
              intro k hk; simp -dsimp [go_sem, -decide_eq_true_eq, -decide_eq_false_iff_not, hx, hy]
              repeat' (first | refine And.intro ?_ ?_ | refine hk _ ?_ | intro hg | omega | exact True.intro)
              all_goals clear hk k
              show ∃ _, _
              have hw := wrapi hlt (by omega)
              refine ⟨i + 1, ⟨by omega, take_step hx hy (by first | assumption | (apply UInt8.toNat_inj.1; omega)) hinv⟩, by omega, Less.of rfl (by simp [go_sem, hw]) (by simp [go_sem])⟩))
      · intro hc; try simp at hc
        all_goals (
          refine AW.exitN (fun _ h => h) ?_
          refine AW.reg tiOk (fun _ => []) [4] ?_
          intro k hk; simp -dsimp [go_sem, -decide_eq_true_eq, -decide_eq_false_iff_not]
          repeat' (first | refine And.intro ?_ ?_ | refine hk _ ?_ | intro hg | omega | exact True.intro)
          all_goals clear hk k
          refine AW.retF (ow := []) (muts := []) ?_ (fun h => And.intro (.inr rfl) h)
          first | (rw [eq_ne_at hx hy (by first | assumption | (intro e; subst e; omega))]; simp [go_sem, Try.results72]; done) | (rw [eq_end (by omega) hinv (by omega)]; simp [go_sem, Try.results72]; done) | (rw [eq_ne_len (by omega)]; simp [go_sem, Try.results72])))

set_option maxHeartbeats 600000 in
set_option linter.unusedSimpArgs false in
set_option maxRecDepth 100000 in
/-- laws.eqEngine -/
theorem dc_laws_eqEngine (a b : TEngine) (hg : a.gok) : DC Try.prog 35 [.agg a.ro, .agg b.ro] (.bool (decide (a = b))) [] := by
  obtain ⟨h0, h1⟩ := hg
  refine DC.intro tiOk Try.func35 rfl rfl rfl rfl rfl rfl rfl rfl [] ?_
  refine AW.reg tiOk (fun _ => []) [2, 3] ?_
  intro k hk; simp -dsimp [go_sem, -decide_eq_true_eq, -decide_eq_false_iff_not]
  repeat' (first | refine And.intro ?_ ?_ | refine hk _ ?_ | intro hg | omega | exact True.intro)
  all_goals clear hk k
  refine AW.seq ?_
  refine AW.reg tiOk (fun _ => []) [2, 3, 10] ?_
  intro k hk; simp -dsimp (maxSteps := 2000000) [go_sem, -decide_eq_true_eq, -decide_eq_false_iff_not]
  repeat' (first | refine And.intro ?_ ?_ | refine hk _ ?_ | intro hg | (refine CallK.intro (dc_laws_eqProcS _ _ (by assumption)) ?_; simp -dsimp (maxSteps := 2000000) [go_sem, -decide_eq_true_eq, -decide_eq_false_iff_not]) | omega | exact True.intro)
  all_goals clear hk k
  refine AW.cond rfl ?_ ?_
  · intro hc; try simp at hc
    all_goals (
      refine AW.reg tiOk (fun _ => []) [4] ?_
      intro k hk; simp -dsimp [go_sem, -decide_eq_true_eq, -decide_eq_false_iff_not]
      repeat' (first | refine And.intro ?_ ?_ | refine hk _ ?_ | intro hg | omega | exact True.intro)
      all_goals clear hk k
      refine AW.retF (ow := []) (muts := []) ?_ (fun h => And.intro (.inr rfl) h)
      cases a; cases b; simp [go_sem, Try.results35] at *; simp [*])
  · intro hc; try simp at hc
    all_goals (
      refine AW.skipN (fun _ h => h) ?_
      refine AW.seq ?_
      refine AW.reg tiOk (fun _ => []) [2, 3, 16] ?_
      intro k hk; simp -dsimp (maxSteps := 2000000) [go_sem, -decide_eq_true_eq, -decide_eq_false_iff_not]
      repeat' (first | refine And.intro ?_ ?_ | refine hk _ ?_ | intro hg | (refine CallK.intro (dc_laws_eqInstS _ _ (by assumption)) ?_; simp -dsimp (maxSteps := 2000000) [go_sem, -decide_eq_true_eq, -decide_eq_false_iff_not]) | omega | exact True.intro)
      all_goals clear hk k
      refine AW.cond rfl ?_ ?_
      · intro hc; try simp at hc
        all_goals (
          refine AW.reg tiOk (fun _ => []) [4] ?_
          intro k hk; simp -dsimp [go_sem, -decide_eq_true_eq, -decide_eq_false_iff_not]
          repeat' (first | refine And.intro ?_ ?_ | refine hk _ ?_ | intro hg | omega | exact True.intro)
          all_goals clear hk k
          refine AW.retF (ow := []) (muts := []) ?_ (fun h => And.intro (.inr rfl) h)
          cases a; cases b; simp [go_sem, Try.results35] at *; simp [*])
      · intro hc; try simp at hc
        all_goals (
          refine AW.skipN (fun _ h => h) ?_
          refine AW.seq ?_
          refine AW.reg tiOk (fun _ => []) [21] ?_
          intro k hk; simp -dsimp [go_sem, -decide_eq_true_eq, -decide_eq_false_iff_not]
          repeat' (first | refine And.intro ?_ ?_ | refine hk _ ?_ | intro hg | omega | exact True.intro)
          all_goals clear hk k
          refine AW.cond rfl ?_ ?_
          · intro hc; try simp at hc
            all_goals (
              refine AW.reg tiOk (fun _ => []) [4] ?_
              intro k hk; simp -dsimp [go_sem, -decide_eq_true_eq, -decide_eq_false_iff_not]
              repeat' (first | refine And.intro ?_ ?_ | refine hk _ ?_ | intro hg | omega | exact True.intro)
              all_goals clear hk k
              refine AW.retF (ow := []) (muts := []) ?_ (fun h => And.intro (.inr rfl) h)
              cases a; cases b; simp [go_sem, Try.results35] at *; simp [*])
          · intro hc; try simp at hc
            all_goals (
              refine AW.skipN (fun _ h => h) ?_
              refine AW.reg tiOk (fun _ => []) [4] ?_
              intro k hk; simp -dsimp [go_sem, -decide_eq_true_eq, -decide_eq_false_iff_not]
              repeat' (first | refine And.intro ?_ ?_ | refine hk _ ?_ | intro hg | omega | exact True.intro)
              all_goals clear hk k
              refine AW.retF (ow := []) (muts := []) ?_ (fun h => And.intro (.inr rfl) h)
              cases a; cases b; simp [go_sem, Try.results35] at *; simp [*])))

end Go.AM

/-! ### Qa -/
set_option linter.unusedVariables false
set_option linter.unusedSimpArgs false
namespace Go.AM
open Go.Proofs

set_option maxHeartbeats 600000 in
set_option linter.unusedSimpArgs false in
set_option maxRecDepth 100000 in
/-- laws.eqEngineResult -/
theorem dc_laws_eqEngineResult (a b : TEngineResult) (hg : a.gok) : DC Try.prog 26 [.agg a.ro, .agg b.ro] (.bool (decide (a = b))) [] := by
  have h0 := hg
  unfold TEngineResult.gok at h0
  refine DC.intro tiOk Try.func26 rfl rfl rfl rfl rfl rfl rfl rfl [] ?_
  refine AW.reg tiOk (fun _ => []) [2, 3] ?_
  intro k hk; simp -dsimp [go_sem, -decide_eq_true_eq, -decide_eq_false_iff_not]
  repeat' (first | refine And.intro ?_ ?_ | refine hk _ ?_ | intro hg | omega | exact True.intro)
  all_goals clear hk k
  refine AW.seq ?_
  refine AW.reg tiOk (fun _ => []) [2, 3, 9] ?_
  intro k hk; simp -dsimp [go_sem, -decide_eq_true_eq, -decide_eq_false_iff_not]
  repeat' (first | refine And.intro ?_ ?_ | refine hk _ ?_ | intro hg | omega | exact True.intro)
  all_goals clear hk k
  refine AW.cond rfl ?_ ?_
  · intro hc; try simp at hc
    all_goals (
      refine AW.reg tiOk (fun _ => []) [4] ?_
      intro k hk; simp -dsimp [go_sem, -decide_eq_true_eq, -decide_eq_false_iff_not]
      repeat' (first | refine And.intro ?_ ?_ | refine hk _ ?_ | intro hg | omega | exact True.intro)
      all_goals clear hk k
      refine AW.retF (ow := []) (muts := []) ?_ (fun h => And.intro (.inr rfl) h)
      cases a; cases b; simp [go_sem, Try.results26] at *; simp [*])
  · intro hc; try simp at hc
    all_goals (
      refine AW.skipN (fun _ h => h) ?_
      refine AW.seq ?_
      refine AW.reg tiOk (fun _ => []) [2, 3, 14] ?_
      intro k hk; simp -dsimp [go_sem, -decide_eq_true_eq, -decide_eq_false_iff_not]
      repeat' (first | refine And.intro ?_ ?_ | refine hk _ ?_ | intro hg | omega | exact True.intro)
      all_goals clear hk k
      refine AW.cond rfl ?_ ?_
      · intro hc; try simp at hc
        all_goals (
          refine AW.reg tiOk (fun _ => []) [4] ?_
          intro k hk; simp -dsimp [go_sem, -decide_eq_true_eq, -decide_eq_false_iff_not]
          repeat' (first | refine And.intro ?_ ?_ | refine hk _ ?_ | intro hg | omega | exact True.intro)
          all_goals clear hk k
          refine AW.retF (ow := []) (muts := []) ?_ (fun h => And.intro (.inr rfl) h)
          cases a; cases b; simp [go_sem, Try.results26] at *; simp [*])
      · intro hc; try simp at hc
        all_goals (
          refine AW.skipN (fun _ h => h) ?_
          refine AW.seq ?_
          refine AW.reg tiOk (fun _ => []) [20] ?_
          intro k hk; simp -dsimp (maxSteps := 2000000) [go_sem, -decide_eq_true_eq, -decide_eq_false_iff_not]
          repeat' (first | refine And.intro ?_ ?_ | refine hk _ ?_ | intro hg | (refine CallK.intro (dc_laws_eqEngine _ _ (by assumption)) ?_; simp -dsimp (maxSteps := 2000000) [go_sem, -decide_eq_true_eq, -decide_eq_false_iff_not]) | omega | exact True.intro)
          all_goals clear hk k
          refine AW.cond rfl ?_ ?_
          · intro hc; try simp at hc
            all_goals (
              refine AW.reg tiOk (fun _ => []) [4] ?_
              intro k hk; simp -dsimp [go_sem, -decide_eq_true_eq, -decide_eq_false_iff_not]
              repeat' (first | refine And.intro ?_ ?_ | refine hk _ ?_ | intro hg | omega | exact True.intro)
              all_goals clear hk k
              refine AW.retF (ow := []) (muts := []) ?_ (fun h => And.intro (.inr rfl) h)
              cases a; cases b; simp [go_sem, Try.results26] at *; simp [*])
          · intro hc; try simp at hc
            all_goals (
              refine AW.skipN (fun _ h => h) ?_
              refine AW.reg tiOk (fun _ => []) [4] ?_
              intro k hk; simp -dsimp [go_sem, -decide_eq_true_eq, -decide_eq_false_iff_not]
              repeat' (first | refine And.intro ?_ ?_ | refine hk _ ?_ | intro hg | omega | exact True.intro)
              all_goals clear hk k
              refine AW.retF (ow := []) (muts := []) ?_ (fun h => And.intro (.inr rfl) h)
              cases a; cases b; simp [go_sem, Try.results26] at *; simp [*])))

end Go.AM

/-! ### Ps -/
set_option linter.unusedVariables false
set_option linter.unusedSimpArgs false
namespace Go.AM
@[go_sem ↓ high] theorem TNode_cells (x y : TNode) : ([x.kind, x.val, x.left, x.right] = ([y.kind, y.val, y.left, y.right] : List Int)) ↔ x = y := by
  cases x; cases y; simp
@[go_sem ↓ high] theorem TClaim_cells (x y : TClaim) : ([x.inst, x.step, x.user] = ([y.inst, y.step, y.user] : List Int)) ↔ x = y := by
  cases x; cases y; simp
theorem eng_end {a b : TEngine} {i j : Nat} (hp : a.procs.take i = b.procs.take i) (h1 : a.procs.length ≤ i) (h2 : b.procs.length ≤ i) (hq : a.insts.take j = b.insts.take j) (h3 : a.insts.length ≤ j) (h4 : b.insts.length ≤ j) (hn : a.now = b.now) : a = b := by
  rw [List.take_of_length_le h1, List.take_of_length_le h2] at hp
  rw [List.take_of_length_le h3, List.take_of_length_le h4] at hq
  cases a; cases b; simp_all
theorem desk_end {a b : TDesk} {i : Nat} (he : a.engine = b.engine) (hp : a.claims.take i = b.claims.take i) (h1 : a.claims.length ≤ i) (h2 : b.claims.length ≤ i) : a = b := by
  rw [List.take_of_length_le h1, List.take_of_length_le h2] at hp
  cases a; cases b; simp_all
end Go.AM

/-! ### Pq -/
set_option linter.unusedVariables false
set_option linter.unusedSimpArgs false
namespace Go.AM
@[go_sem high] theorem TStep_unC (l : List TStep) : List.map ((fun x => List.map unown x) ∘ TStep.oc) l = l.map TStep.ro := by rw [← TStep_oc_unM, List.map_map]
@[go_sem high] theorem TProc_unC (l : List TProc) : List.map ((fun x => List.map unown x) ∘ TProc.oc) l = l.map TProc.ro := by rw [← TProc_oc_unM, List.map_map]
@[go_sem high] theorem TInst_unC (l : List TInst) : List.map ((fun x => List.map unown x) ∘ TInst.oc) l = l.map TInst.ro := by rw [← TInst_oc_unM, List.map_map]
end Go.AM

