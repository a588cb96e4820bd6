/- LineFault: both sides. -/
import Derived.Test.YtefkpiameojpoaaTy
namespace Go.AM
open Go.Proofs

def isP (c : UInt8) : Bool := decide (32 ≤ (c.toNat : Int)) && decide ((c.toNat : Int) ≤ 126)

theorem wrap64 {n : Int} (h1 : -9223372036854775808 ≤ n) (h2 : n ≤ 9223372036854775807) : IntKind.wrap .i64 n = n := by
  simp [IntKind.wrap, IntKind.bits, IntKind.signed]
  omega

theorem all_take {s : List UInt8} {p : UInt8 → Bool} {i : Nat} (hi : i < s.length) (h : (s.take i).all p = true) : (s.take (i + 1)).all p = p (s[i]?.getD 0) := by
  rw [List.take_add_one, List.all_append, h]
  simp [hi]

theorem all_not {s : List UInt8} {p : UInt8 → Bool} {i : Nat} (hi : i < s.length) (h : p (s[i]?.getD 0) = false) : s.all p = false := by
  rw [List.all_eq_false]
  exact ⟨s[i], List.getElem_mem hi, by simpa [hi] using h⟩

set_option maxRecDepth 100000 in
theorem dc81 (b : Bool) (n : Int) : DC Try.prog 81 [.bool b, .int .i64 n] (.int .i64 (if b then n else 0)) [] := by
  refine DC.intro tiOk Try.func81 rfl rfl rfl rfl rfl rfl rfl [] ?_
  refine AW.reg tiOk (fun _ => []) [0, 1] ?_
  intro k hk; simp (config := {contextual := true, dsimp := false}) [go_sem, -decide_eq_true_eq, -decide_eq_false_iff_not]
  repeat' (first | refine And.intro ?_ ?_ | refine hk _ ?_ | intro hg | omega)
  all_goals clear hk k
  refine AW.seq ?_
  refine AW.reg tiOk (fun _ => []) [1, 5] ?_
  intro k hk; simp (config := {contextual := true, dsimp := false}) [go_sem, -decide_eq_true_eq, -decide_eq_false_iff_not]
  repeat' (first | refine And.intro ?_ ?_ | refine hk _ ?_ | intro hg | omega)
  all_goals clear hk k
  refine AW.cond rfl ?_ ?_
  · intro hc; try simp at hc
    all_goals (
      refine AW.reg tiOk (fun _ => []) [4] ?_
      intro k hk; simp (config := {contextual := true, dsimp := false}) [go_sem, -decide_eq_true_eq, -decide_eq_false_iff_not]
      repeat' (first | refine And.intro ?_ ?_ | refine hk _ ?_ | intro hg | omega)
      all_goals clear hk k
      refine AW.retF (ow := []) ?_ (fun h => And.intro (.inr rfl) h)
      simp [go_sem, *, Try.results81])
  · intro hc; try simp at hc
    all_goals (
      refine AW.skipN (fun _ h => h) ?_
      refine AW.reg tiOk (fun _ => []) [4] ?_
      intro k hk; simp (config := {contextual := true, dsimp := false}) [go_sem, -decide_eq_true_eq, -decide_eq_false_iff_not]
      repeat' (first | refine And.intro ?_ ?_ | refine hk _ ?_ | intro hg | omega)
      all_goals clear hk k
      refine AW.retF (ow := []) ?_ (fun h => And.intro (.inr rfl) h)
      simp [go_sem, *, Try.results81])

set_option maxRecDepth 100000 in
theorem dc82 (n lo hi : Int) : DC Try.prog 82 [.int .i64 n, .int .i64 lo, .int .i64 hi] (.bool (decide (lo ≤ n) && decide (n ≤ hi))) [] := by
  refine DC.intro tiOk Try.func82 rfl rfl rfl rfl rfl rfl rfl [] ?_
  refine AW.reg tiOk (fun _ => []) [0, 1, 2, 11, 12, 13] ?_
  intro k hk; simp (config := {contextual := true, dsimp := false}) [go_sem, -decide_eq_true_eq, -decide_eq_false_iff_not]
  repeat' (first | refine And.intro ?_ ?_ | refine hk _ ?_ | intro hg | omega)
  all_goals clear hk k
  refine AW.reg tiOk (fun _ => []) [6] ?_
  intro k hk; simp (config := {contextual := true, dsimp := false}) [go_sem, -decide_eq_true_eq, -decide_eq_false_iff_not]
  repeat' (first | refine And.intro ?_ ?_ | refine hk _ ?_ | intro hg | omega)
  all_goals clear hk k
  all_goals (
    refine AW.retF (ow := []) ?_ (fun h => And.intro (.inr rfl) h)
    simp [go_sem, *, Try.results82, -decide_eq_true_eq, -decide_eq_false_iff_not])

set_option maxRecDepth 100000 in
theorem dc84 (c : UInt8) : DC Try.prog 84 [.int .u8 c.toNat] (.bool (isP c)) [] := by
  refine DC.intro tiOk Try.func84 rfl rfl rfl rfl rfl rfl rfl [] ?_
  refine AW.reg tiOk (fun _ => []) [0, 6, 7] ?_
  intro k hk; simp (config := {contextual := true, dsimp := false}) [go_sem, -decide_eq_true_eq, -decide_eq_false_iff_not]
  repeat' (first | refine And.intro ?_ ?_ | refine hk _ ?_ | intro hg | omega)
  all_goals clear hk k
  refine AW.reg tiOk (fun _ => []) [2] ?_
  intro k hk; simp (config := {contextual := true, dsimp := false}) [go_sem, -decide_eq_true_eq, -decide_eq_false_iff_not]
  repeat' (first | refine And.intro ?_ ?_ | refine hk _ ?_ | intro hg | omega)
  all_goals clear hk k
  all_goals (
    refine AW.retF (ow := []) ?_ (fun h => And.intro (.inr rfl) h)
    simp [go_sem, *, isP, Try.results84, -decide_eq_true_eq, -decide_eq_false_iff_not])

set_option maxRecDepth 100000 in
theorem dc79 (c : UInt8) : DC Try.prog 79 [.int .u8 c.toNat] (.bool (isP c)) [] := by
  refine DC.intro tiOk Try.func79 rfl rfl rfl rfl rfl rfl rfl [] ?_
  refine AW.reg tiOk (fun _ => []) [0, 6, 7] ?_
  intro k hk; simp (config := {contextual := true, dsimp := false}) [go_sem, -decide_eq_true_eq, -decide_eq_false_iff_not]
  repeat' (first | refine And.intro ?_ ?_ | refine hk _ ?_ | intro hg | omega)
  all_goals clear hk k
  refine AW.reg tiOk (fun _ => []) [2] ?_
  intro k hk; simp (config := {contextual := true, dsimp := false}) [go_sem, -decide_eq_true_eq, -decide_eq_false_iff_not]
  repeat' (first | refine And.intro ?_ ?_ | refine hk _ ?_ | intro hg | omega)
  all_goals clear hk k
  all_goals (
    refine AW.retF (ow := []) ?_ (fun h => And.intro (.inr rfl) h)
    simp [go_sem, *, isP, Try.results79, -decide_eq_true_eq, -decide_eq_false_iff_not])

set_option maxRecDepth 100000 in
theorem dc83 (s : List UInt8) (hs : s.length < 9223372036854775807) : DC Try.prog 83 [.str s, .fn 84 []] (.bool (s.all isP)) [] := by
  refine DC.intro tiOk Try.func83 rfl rfl rfl rfl rfl rfl rfl [] ?_
  refine AW.reg tiOk (fun _ => []) [0, 1] ?_
  intro k hk; simp (config := {contextual := true, dsimp := false}) [go_sem, -decide_eq_true_eq, -decide_eq_false_iff_not]
  repeat' (first | refine And.intro ?_ ?_ | refine hk _ ?_ | intro hg | omega)
  all_goals clear hk k
  refine AW.seq ?_
  refine AW.reg tiOk (fun _ => []) [0, 1, 7, 8] ?_
  intro k hk; simp (config := {contextual := true, dsimp := false}) [go_sem, -decide_eq_true_eq, -decide_eq_false_iff_not]
  repeat' (first | refine And.intro ?_ ?_ | refine hk _ ?_ | intro hg | omega)
  all_goals clear hk k
  refine AW.block ?_
  -- live at the loop's head: [0, 1, 7, 8]
  refine AW.loopI (fun i : Nat => ⟨18, [(0, .str s), (1, .fn 84 []), (7, .int .i64 s.length), (8, .int .i64 i)], []⟩) (fun i => i ≤ s.length ∧ (s.take i).all isP = true) (fun i => s.length - i) (0) (by simp) (Less.of rfl (by simp [go_sem]) (by simp [go_sem])) ?_
  rintro i ⟨hi, hall⟩
  refine AW.reg tiOk (fun _ => []) [0, 1, 7, 8, 9] ?_
  intro k hk; simp (config := {contextual := true, dsimp := false}) [go_sem, -decide_eq_true_eq, -decide_eq_false_iff_not]
  repeat' (first | refine And.intro ?_ ?_ | refine hk _ ?_ | intro hg | omega)
  all_goals clear hk k
  refine AW.seq ?_
  refine AW.cond rfl ?_ ?_
  · intro hc; try simp at hc
    all_goals (
      refine AW.skipN (fun _ h => h) ?_
      refine AW.seq ?_
      refine AW.block ?_
      refine AW.reg tiOk (fun _ => []) [0, 1, 5, 7, 8] ?_
      intro k hk; simp (config := {contextual := true, dsimp := false}) [go_sem, -decide_eq_true_eq, -decide_eq_false_iff_not]
      repeat' (first | refine And.intro ?_ ?_ | refine hk _ ?_ | intro hg | omega)
      all_goals clear hk k
      refine AW.reg tiOk (fun _ => []) [0, 1, 7, 8, 16] ?_
      intro k hk; simp (config := {contextual := true, dsimp := false}) [go_sem, -decide_eq_true_eq, -decide_eq_false_iff_not]
      repeat' (first | refine And.intro ?_ ?_ | refine hk _ ?_ | intro hg | (refine CallK.intro (dc84 _) ?_; simp (config := {contextual := true, dsimp := false}) [go_sem, -decide_eq_true_eq, -decide_eq_false_iff_not]) | omega)
      all_goals clear hk k
      refine AW.cond rfl ?_ ?_
      · intro hc; try simp at hc
        all_goals (
          refine AW.reg tiOk (fun _ => []) [4] ?_
          intro k hk; simp (config := {contextual := true, dsimp := false}) [go_sem, -decide_eq_true_eq, -decide_eq_false_iff_not]
          repeat' (first | refine And.intro ?_ ?_ | refine hk _ ?_ | intro hg | omega)
          all_goals clear hk k
          refine AW.retF (ow := []) ?_ (fun h => And.intro (.inr rfl) h)
          first | (have hr := all_not (p := isP) (show i < s.length by assumption) (by assumption); simp [go_sem, Try.results83, hr]) | (simp only [List.take_of_length_le (show s.length ≤ i by omega)] at hall; simp [go_sem, Try.results83, hall]))
      · intro hc; try simp at hc
        all_goals (
          refine AW.skipN (fun _ h => h) ?_
          refine AW.regK tiOk (fun _ => []) ?_
          intro k hk; simp (config := {contextual := true, dsimp := false}) [go_sem, -decide_eq_true_eq, -decide_eq_false_iff_not]
          repeat' (first | refine And.intro ?_ ?_ | refine hk _ ?_ | intro hg | omega)
          all_goals clear hk k
          show ∃ _, _
          have hlt : i < s.length := by assumption
          have hw : IntKind.wrap .i64 ((i : Int) + 1) = (i : Int) + 1 := wrap64 (by omega) (by omega)
          refine ⟨i + 1, ⟨by omega, ?_⟩, by omega, Less.of rfl (by simp [go_sem, hw]) (by simp [go_sem])⟩
          rw [all_take hlt hall]; assumption))
  · intro hc; try simp at hc
    all_goals (
      refine AW.exitN (fun _ h => h) ?_
      refine AW.reg tiOk (fun _ => []) [4] ?_
      intro k hk; simp (config := {contextual := true, dsimp := false}) [go_sem, -decide_eq_true_eq, -decide_eq_false_iff_not]
      repeat' (first | refine And.intro ?_ ?_ | refine hk _ ?_ | intro hg | omega)
      all_goals clear hk k
      refine AW.retF (ow := []) ?_ (fun h => And.intro (.inr rfl) h)
      first | (have hr := all_not (p := isP) (show i < s.length by assumption) (by assumption); simp [go_sem, Try.results83, hr]) | (simp only [List.take_of_length_le (show s.length ≤ i by omega)] at hall; simp [go_sem, Try.results83, hall]))


def firstC (l : List Int) : Int := (l.find? (fun n => decide (n ≠ 0))).getD 0
theorem firstC_step {l : List Int} {i : Nat} {x : Int} (h : l[i]? = some x) : firstC (l.drop i) = if x = 0 then firstC (l.drop (i + 1)) else x := by
  obtain ⟨hi, hx⟩ := List.getElem?_eq_some_iff.1 h
  rw [List.drop_eq_getElem_cons hi, hx]
  unfold firstC
  by_cases h0 : x = 0
  · simp [h0]
  · simp [h0]
theorem firstC_end {l : List Int} {i : Nat} (h : l.length ≤ i) : firstC (l.drop i) = 0 := by
  rw [List.drop_eq_nil_of_le h]; rfl

set_option maxRecDepth 100000 in
theorem dc80 (l : List Int) (hl : l.length < 9223372036854775807) : DC Try.prog 80 [.isl 1 (l.map fun n => [.int .i64 n])] (.int .i64 (firstC l)) [] := by
  refine DC.intro tiOk Try.func80 rfl rfl rfl rfl rfl rfl rfl [] ?_
  refine AW.reg tiOk (fun _ => []) [0] ?_
  intro k hk; simp (config := {contextual := true, dsimp := false}) [go_sem, -decide_eq_true_eq, -decide_eq_false_iff_not]
  repeat' (first | refine And.intro ?_ ?_ | refine hk _ ?_ | intro hg | omega)
  all_goals clear hk k
  refine AW.seq ?_
  refine AW.reg tiOk (fun _ => []) [5, 6, 7] ?_
  intro k hk; simp (config := {contextual := true, dsimp := false}) [go_sem, -decide_eq_true_eq, -decide_eq_false_iff_not]
  repeat' (first | refine And.intro ?_ ?_ | refine hk _ ?_ | intro hg | omega)
  all_goals clear hk k
  refine AW.block ?_
  -- live at the loop's head: [5, 6, 7]
  refine AW.loopI (fun i : Nat => ⟨15, [(5, .isl 1 (l.map fun n => [.int .i64 n])), (6, .int .i64 l.length), (7, .int .i64 i)], []⟩) (fun i => i ≤ l.length ∧ firstC l = firstC (l.drop i)) (fun i => l.length - i) (0) (by simp) (Less.of rfl (by simp [go_sem]) (by simp [go_sem])) ?_
  rintro i ⟨hi, hinv⟩
  refine AW.reg tiOk (fun _ => []) [5, 6, 7, 8] ?_
  intro k hk; simp (config := {contextual := true, dsimp := false}) [go_sem, -decide_eq_true_eq, -decide_eq_false_iff_not]
  repeat' (first | refine And.intro ?_ ?_ | refine hk _ ?_ | intro hg | omega)
  all_goals clear hk k
  refine AW.seq ?_
  refine AW.cond rfl ?_ ?_
  · intro hc; try simp at hc
    all_goals (
      refine AW.skipN (fun _ h => h) ?_
      refine AW.seq ?_
      refine AW.block ?_
      obtain ⟨x, hx⟩ : ∃ x, l[i]? = some x := ⟨l[i], List.getElem?_eq_getElem (by assumption)⟩
      refine AW.reg tiOk (fun _ => []) [4, 5, 6, 7] ?_
      intro k hk; simp (config := {contextual := true, dsimp := false}) [go_sem, -decide_eq_true_eq, -decide_eq_false_iff_not, hx]
      repeat' (first | refine And.intro ?_ ?_ | refine hk _ ?_ | intro hg | omega)
      all_goals clear hk k
      refine AW.reg tiOk (fun _ => []) [4, 5, 6, 7, 12] ?_
      intro k hk; simp (config := {contextual := true, dsimp := false}) [go_sem, -decide_eq_true_eq, -decide_eq_false_iff_not]
      repeat' (first | refine And.intro ?_ ?_ | refine hk _ ?_ | intro hg | omega)
      all_goals clear hk k
      refine AW.cond rfl ?_ ?_
      · intro hc; try simp at hc
        all_goals (
          refine AW.reg tiOk (fun _ => []) [2] ?_
          intro k hk; simp (config := {contextual := true, dsimp := false}) [go_sem, -decide_eq_true_eq, -decide_eq_false_iff_not]
          repeat' (first | refine And.intro ?_ ?_ | refine hk _ ?_ | intro hg | omega)
          all_goals clear hk k
          refine AW.retF (ow := []) ?_ (fun h => And.intro (.inr rfl) h)
          first | (simp [go_sem, Try.results80, hinv, firstC_step hx, *]; done) | (simp [go_sem, Try.results80, hinv, firstC_end (show l.length ≤ i by omega)]))
      · intro hc; try simp at hc
        all_goals (
          refine AW.skipN (fun _ h => h) ?_
          refine AW.regK tiOk (fun _ => []) ?_
          intro k hk; simp (config := {contextual := true, dsimp := false}) [go_sem, -decide_eq_true_eq, -decide_eq_false_iff_not]
          repeat' (first | refine And.intro ?_ ?_ | refine hk _ ?_ | intro hg | omega)
          all_goals clear hk k
          show ∃ _, _
          have hlt : i < l.length := by assumption
          have hw : IntKind.wrap .i64 ((i : Int) + 1) = (i : Int) + 1 := wrap64 (by omega) (by omega)
          refine ⟨i + 1, ⟨by omega, ?_⟩, by omega, Less.of rfl (by simp [go_sem, hw]) (by simp [go_sem])⟩
          rw [hinv, firstC_step hx, if_pos (by assumption)]))
  · intro hc; try simp at hc
    all_goals (
      refine AW.exitN (fun _ h => h) ?_
      refine AW.reg tiOk (fun _ => []) [2] ?_
      intro k hk; simp (config := {contextual := true, dsimp := false}) [go_sem, -decide_eq_true_eq, -decide_eq_false_iff_not]
      repeat' (first | refine And.intro ?_ ?_ | refine hk _ ?_ | intro hg | omega)
      all_goals clear hk k
      refine AW.retF (ow := []) ?_ (fun h => And.intro (.inr rfl) h)
      first | (simp [go_sem, Try.results80, hinv, firstC_step hx, *]; done) | (simp [go_sem, Try.results80, hinv, firstC_end (show l.length ≤ i by omega)]))


def lineF (s : List UInt8) : Int := if s.length < 1 ∨ 40 < s.length then 2 else if s.all isP then 0 else 5
theorem lineF_eq (s : List UInt8) : firstC [if (!(decide ((1 : Int) ≤ s.length) && decide ((s.length : Int) ≤ 40))) = true then 2 else 0, if (!s.all isP) = true then 5 else 0] = lineF s := by
  unfold firstC lineF
  by_cases h : s.length < 1 ∨ 40 < s.length
  · have : (decide ((1 : Int) ≤ s.length) && decide ((s.length : Int) ≤ 40)) = false := by
      rw [Bool.and_eq_false_iff]; simp; omega
    rw [if_pos h, this]
    simp
  · have : (decide ((1 : Int) ≤ s.length) && decide ((s.length : Int) ≤ 40)) = true := by
      rw [Bool.and_eq_true]; simp; omega
    rw [if_neg h, this]
    cases s.all isP <;> simp

set_option maxRecDepth 100000 in
theorem dc19 (s : List UInt8) (hs : s.length < 9223372036854775807) : DC Try.prog 19 [.str s] (.int .i64 (lineF s)) [] := by
  refine DC.intro tiOk Try.func19 rfl rfl rfl rfl rfl rfl rfl [] ?_
  refine AW.reg tiOk (fun _ => []) [0] ?_
  intro k hk; simp (config := {contextual := true, dsimp := false}) [go_sem, -decide_eq_true_eq, -decide_eq_false_iff_not]
  repeat' (first | refine And.intro ?_ ?_ | refine hk _ ?_ | intro hg | omega)
  all_goals clear hk k
  refine AW.reg tiOk (fun _ => []) [2] ?_
  intro k hk; simp (config := {contextual := true, dsimp := false}) [go_sem, -decide_eq_true_eq, -decide_eq_false_iff_not]
  repeat' (first | refine And.intro ?_ ?_ | refine hk _ ?_ | intro hg | (refine CallK.intro (dc82 _ _ _) ?_; simp (config := {contextual := true, dsimp := false}) [go_sem, -decide_eq_true_eq, -decide_eq_false_iff_not]) | (refine CallK.intro (dc81 _ _) ?_; simp (config := {contextual := true, dsimp := false}) [go_sem, -decide_eq_true_eq, -decide_eq_false_iff_not]) | (refine CallK.intro (dc83 _ (by assumption)) ?_; simp (config := {contextual := true, dsimp := false}) [go_sem, -decide_eq_true_eq, -decide_eq_false_iff_not]) | (refine CallK.intro (dc80 [_, _] (by simp)) ?_; simp (config := {contextual := true, dsimp := false}) [go_sem, -decide_eq_true_eq, -decide_eq_false_iff_not]) | omega)
  all_goals clear hk k
  refine AW.retF (ow := []) ?_ (fun h => And.intro (.inr rfl) h)
  rw [← lineF_eq]; simp [go_sem, Try.results19]


theorem lineF_bad {s : List UInt8} (h : s.length < 1 ∨ 40 < s.length) : lineF s = 2 := by rw [lineF, if_pos h]
theorem lineF_good {s : List UInt8} {b : Bool} (h : ¬ (s.length < 1 ∨ 40 < s.length)) (hb : s.all isP = b) : lineF s = if b then 0 else 5 := by rw [lineF, if_neg h, hb]

set_option maxRecDepth 100000 in
theorem dc18 (s : List UInt8) : DC Try.prog 18 [.str s] (.int .i64 (lineF s)) [] := by
  refine DC.intro tiOk Try.func18 rfl rfl rfl rfl rfl rfl rfl [] ?_
  refine AW.reg tiOk (fun _ => []) [0, 8, 9, 10] ?_
  intro k hk; simp (config := {contextual := true, dsimp := false}) [go_sem, -decide_eq_true_eq, -decide_eq_false_iff_not]
  repeat' (first | refine And.intro ?_ ?_ | refine hk _ ?_ | intro hg | omega)
  all_goals clear hk k
  refine AW.seq ?_
  refine AW.reg tiOk (fun _ => []) [0, 11] ?_
  intro k hk; simp (config := {contextual := true, dsimp := false}) [go_sem, -decide_eq_true_eq, -decide_eq_false_iff_not]
  repeat' (first | refine And.intro ?_ ?_ | refine hk _ ?_ | intro hg | omega)
  all_goals clear hk k
  all_goals (
    refine AW.cond rfl ?_ ?_
    · intro hc; try simp at hc
      all_goals (
        refine AW.reg tiOk (fun _ => []) [2] ?_
        intro k hk; simp (config := {contextual := true, dsimp := false}) [go_sem, -decide_eq_true_eq, -decide_eq_false_iff_not]
        repeat' (first | refine And.intro ?_ ?_ | refine hk _ ?_ | intro hg | omega)
        all_goals clear hk k
        refine AW.retF (ow := []) ?_ (fun h => And.intro (.inr rfl) h)
        simp only [decide_eq_true_eq, decide_eq_false_iff_not] at hg; first | (rw [lineF_bad (by omega)]; simp [go_sem, Try.results18]; done) | (rw [lineF_good (by omega) (all_not (by assumption) (by assumption))]; simp [go_sem, Try.results18]; done) | (rw [lineF_good (b := true) (by omega) (by rw [← hall, List.take_of_length_le (by omega)])]; simp [go_sem, Try.results18]))
    · intro hc; try simp at hc
      all_goals (
        refine AW.skipN (fun _ h => h) ?_
        refine AW.seq ?_
        refine AW.reg tiOk (fun _ => []) [0, 3] ?_
        intro k hk; simp (config := {contextual := true, dsimp := false}) [go_sem, -decide_eq_true_eq, -decide_eq_false_iff_not]
        repeat' (first | refine And.intro ?_ ?_ | refine hk _ ?_ | intro hg | omega)
        all_goals clear hk k
        refine AW.block ?_
        -- live at the loop's head: [0, 3]
        refine AW.loopI (fun i : Nat => ⟨23, [(0, .str s), (3, .int .i64 i)], []⟩) (fun i => i ≤ s.length ∧ (s.take i).all isP = true) (fun i => s.length - i) (0) (by simp) (Less.of rfl (by simp [go_sem]) (by simp [go_sem])) ?_
        rintro i ⟨hi, hall⟩
        refine AW.seq ?_
        refine AW.reg tiOk (fun _ => []) [0, 3, 15] ?_
        intro k hk; simp (config := {contextual := true, dsimp := false}) [go_sem, -decide_eq_true_eq, -decide_eq_false_iff_not]
        repeat' (first | refine And.intro ?_ ?_ | refine hk _ ?_ | intro hg | omega)
        all_goals clear hk k
        refine AW.cond rfl ?_ ?_
        · intro hc; try simp at hc
          all_goals (
            refine AW.skipN (fun _ h => h) ?_
            refine AW.seq ?_
            refine AW.block ?_
            refine AW.reg tiOk (fun _ => []) [0, 3, 22] ?_
            intro k hk; simp (config := {contextual := true, dsimp := false}) [go_sem, -decide_eq_true_eq, -decide_eq_false_iff_not]
            repeat' (first | refine And.intro ?_ ?_ | refine hk _ ?_ | intro hg | (refine CallK.intro (dc79 _) ?_; simp (config := {contextual := true, dsimp := false}) [go_sem, -decide_eq_true_eq, -decide_eq_false_iff_not]) | omega)
            all_goals clear hk k
            refine AW.cond rfl ?_ ?_
            · intro hc; try simp at hc
              all_goals (
                refine AW.reg tiOk (fun _ => []) [2] ?_
                intro k hk; simp (config := {contextual := true, dsimp := false}) [go_sem, -decide_eq_true_eq, -decide_eq_false_iff_not]
                repeat' (first | refine And.intro ?_ ?_ | refine hk _ ?_ | intro hg | omega)
                all_goals clear hk k
                refine AW.retF (ow := []) ?_ (fun h => And.intro (.inr rfl) h)
                simp only [decide_eq_true_eq, decide_eq_false_iff_not] at hg; first | (rw [lineF_bad (by omega)]; simp [go_sem, Try.results18]; done) | (rw [lineF_good (by omega) (all_not (by assumption) (by assumption))]; simp [go_sem, Try.results18]; done) | (rw [lineF_good (b := true) (by omega) (by rw [← hall, List.take_of_length_le (by omega)])]; simp [go_sem, Try.results18]))
            · intro hc; try simp at hc
              all_goals (
                refine AW.skipN (fun _ h => h) ?_
                refine AW.regK tiOk (fun _ => []) ?_
                intro k hk; simp (config := {contextual := true, dsimp := false}) [go_sem, -decide_eq_true_eq, -decide_eq_false_iff_not]
                repeat' (first | refine And.intro ?_ ?_ | refine hk _ ?_ | intro hg | omega)
                all_goals clear hk k
                show ∃ _, _
                have hlt : i < s.length := by assumption
                have hw : IntKind.wrap .i64 ((i : Int) + 1) = (i : Int) + 1 := wrap64 (by omega) (by omega)
                refine ⟨i + 1, ⟨by omega, ?_⟩, by omega, Less.of rfl (by simp [go_sem, hw]) (by simp [go_sem])⟩
                rw [all_take hlt hall]; assumption))
        · intro hc; try simp at hc
          all_goals (
            refine AW.exitN (fun _ h => h) ?_
            refine AW.reg tiOk (fun _ => []) [2] ?_
            intro k hk; simp (config := {contextual := true, dsimp := false}) [go_sem, -decide_eq_true_eq, -decide_eq_false_iff_not]
            repeat' (first | refine And.intro ?_ ?_ | refine hk _ ?_ | intro hg | omega)
            all_goals clear hk k
            refine AW.retF (ow := []) ?_ (fun h => And.intro (.inr rfl) h)
            simp only [decide_eq_true_eq, decide_eq_false_iff_not] at hg; first | (rw [lineF_bad (by omega)]; simp [go_sem, Try.results18]; done) | (rw [lineF_good (by omega) (all_not (by assumption) (by assumption))]; simp [go_sem, Try.results18]; done) | (rw [lineF_good (b := true) (by omega) (by rw [← hall, List.take_of_length_le (by omega)])]; simp [go_sem, Try.results18]))))

set_option maxRecDepth 100000 in
theorem dc3 (s : List UInt8) : DC Try.prog 3 [.str s] (.bool true) [] := by
  refine DC.intro tiOk Try.func3 rfl rfl rfl rfl rfl rfl rfl [] ?_
  refine AW.reg tiOk (fun _ => []) [0] ?_
  intro k hk; simp (config := {contextual := true, dsimp := false}) [go_sem, -decide_eq_true_eq, -decide_eq_false_iff_not]
  repeat' (first | refine And.intro ?_ ?_ | refine hk _ ?_ | intro hg | omega)
  all_goals clear hk k
  refine AW.seq ?_
  refine AW.reg tiOk (fun _ => []) [0, 7] ?_
  intro k hk; simp (config := {contextual := true, dsimp := false}) [go_sem, -decide_eq_true_eq, -decide_eq_false_iff_not]
  repeat' (first | refine And.intro ?_ ?_ | refine hk _ ?_ | intro hg | omega)
  all_goals clear hk k
  refine AW.cond rfl ?_ ?_
  · intro hc; try simp at hc
    all_goals (
      refine AW.reg tiOk (fun _ => []) [2] ?_
      intro k hk; simp (config := {contextual := true, dsimp := false}) [go_sem, -decide_eq_true_eq, -decide_eq_false_iff_not]
      repeat' (first | refine And.intro ?_ ?_ | refine hk _ ?_ | intro hg | omega)
      all_goals clear hk k
      refine AW.retF (ow := []) ?_ (fun h => And.intro (.inr rfl) h)
      simp [go_sem, Try.results3])
  · intro hc; try simp at hc
    all_goals (
      refine AW.skipN (fun _ h => h) ?_
      refine AW.reg tiOk (fun _ => []) [0, 3] ?_
      intro k hk; simp (config := {contextual := true, dsimp := false}) [go_sem, -decide_eq_true_eq, -decide_eq_false_iff_not]
      repeat' (first | refine And.intro ?_ ?_ | refine hk _ ?_ | intro hg | (refine CallK.intro (dc18 _) ?_; simp (config := {contextual := true, dsimp := false}) [go_sem, -decide_eq_true_eq, -decide_eq_false_iff_not]) | omega)
      all_goals clear hk k
      refine AW.reg tiOk (fun _ => []) [3, 4] ?_
      intro k hk; simp (config := {contextual := true, dsimp := false}) [go_sem, -decide_eq_true_eq, -decide_eq_false_iff_not]
      repeat' (first | refine And.intro ?_ ?_ | refine hk _ ?_ | intro hg | (refine CallK.intro (dc19 _ (by omega)) ?_; simp (config := {contextual := true, dsimp := false}) [go_sem, -decide_eq_true_eq, -decide_eq_false_iff_not]) | omega)
      all_goals clear hk k
      refine AW.seq ?_
      refine AW.reg tiOk (fun _ => []) [14] ?_
      intro k hk; simp (config := {contextual := true, dsimp := false}) [go_sem, -decide_eq_true_eq, -decide_eq_false_iff_not]
      repeat' (first | refine And.intro ?_ ?_ | refine hk _ ?_ | intro hg | omega)
      all_goals clear hk k
      refine AW.cond rfl ?_ ?_
      · intro hc; try simp at hc
        all_goals (
          refine AW.reg tiOk (fun _ => []) [2] ?_
          intro k hk; simp (config := {contextual := true, dsimp := false}) [go_sem, -decide_eq_true_eq, -decide_eq_false_iff_not]
          repeat' (first | refine And.intro ?_ ?_ | refine hk _ ?_ | intro hg | omega)
          all_goals clear hk k
          refine AW.retF (ow := []) ?_ (fun h => And.intro (.inr rfl) h)
          simp [go_sem, Try.results3])
      · intro hc; try simp at hc
        all_goals (
          refine AW.skipN (fun _ h => h) ?_
          refine AW.reg tiOk (fun _ => []) [2] ?_
          intro k hk; simp (config := {contextual := true, dsimp := false}) [go_sem, -decide_eq_true_eq, -decide_eq_false_iff_not]
          repeat' (first | refine And.intro ?_ ?_ | refine hk _ ?_ | intro hg | omega)
          all_goals clear hk k
          refine AW.retF (ow := []) ?_ (fun h => And.intro (.inr rfl) h)
          simp [go_sem, Try.results3]))

end Go.AM
