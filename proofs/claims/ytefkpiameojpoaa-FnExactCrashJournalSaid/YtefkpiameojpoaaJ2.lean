/- Walks. -/
import Derived.Test.YtefkpiameojpoaaJ1
set_option linter.unusedVariables false
set_option linter.unusedSimpArgs false
namespace Go.AM
open Go.Proofs

set_option maxHeartbeats 600000 in
set_option linter.unusedSimpArgs false in
set_option maxRecDepth 100000 in
/-- bytes.Equal -/
theorem dc_bytes_Equal (a b : List UInt8) : DC Try.prog 153 [.isl 1 (a.map B1), .isl 1 (b.map B1)] (.bool (decide (a = b))) [] := by
  refine DC.intro tiOk Try.func153 rfl rfl rfl rfl rfl rfl rfl rfl [] ?_
  refine AW.reg tiOk (fun _ => []) [0, 1] ?_
  intro k hk; simp -dsimp [go_sem, -decide_eq_true_eq, -decide_eq_false_iff_not]
  repeat' (first | refine And.intro ?_ ?_ | refine hk _ ?_ | intro hg | omega | exact True.intro)
  all_goals clear hk k
  refine AW.reg tiOk (fun _ => []) [4] ?_
  intro k hk; simp -dsimp [go_sem, -decide_eq_true_eq, -decide_eq_false_iff_not]
  repeat' (first | refine And.intro ?_ ?_ | refine hk _ ?_ | intro hg | omega | exact True.intro)
  all_goals clear hk k
  refine AW.retF (ow := []) (muts := []) ?_ (fun h => And.intro (.inr rfl) h)
  simp [go_sem, Try.results153]
theorem dc_bytes_Equal_t (a b : List UInt8) (n : Nat) : DC Try.prog 153 [.isl 1 (List.take n (a.map B1)), .isl 1 (b.map B1)] (.bool (decide (a.take n = b))) [] := by
  have := dc_bytes_Equal (a.take n) b
  rwa [List.map_take] at this

set_option maxHeartbeats 600000 in
set_option linter.unusedSimpArgs false in
set_option maxRecDepth 100000 in
/-- bytes.HasPrefix -/
theorem dc_bytes_HasPrefix (d p : List UInt8) : DC Try.prog 136 [.isl 1 (d.map B1), .isl 1 (p.map B1)] (.bool (hasP d p)) [] := by
  refine DC.intro tiOk Try.func136 rfl rfl rfl rfl rfl rfl rfl rfl [] ?_
  refine AW.reg tiOk (fun _ => []) [0, 1] ?_
  intro k hk; simp -dsimp [go_sem, -decide_eq_true_eq, -decide_eq_false_iff_not]
  repeat' (first | refine And.intro ?_ ?_ | refine hk _ ?_ | intro hg | omega | exact True.intro)
  all_goals clear hk k
  refine AW.reg tiOk (fun _ => []) [4] ?_
  intro k hk; simp +contextual -dsimp (maxSteps := 2000000) [go_sem, -decide_eq_true_eq, -decide_eq_false_iff_not]
  repeat' (first | refine And.intro ?_ ?_ | refine hk _ ?_ | (intro hg; try simp only [decide_eq_true_eq, decide_eq_false_iff_not] at hg) | (refine CallK.intro (dc_bytes_Equal_t d p p.length) ?_; simp +contextual -dsimp (maxSteps := 2000000) [go_sem, -decide_eq_true_eq, -decide_eq_false_iff_not]) | omega | exact True.intro)
  all_goals clear hk k
  all_goals (
    refine AW.retF (ow := []) (muts := []) ?_ (fun h => And.intro (.inr rfl) h)
    first | (simp [go_sem, Try.results136, hasP, *]; done) | (simp [go_sem, Try.results136, hasP] at *; simp [*]; done) | (simp [go_sem, Try.results136, hasP] at *; omega))

set_option maxHeartbeats 600000 in
set_option linter.unusedSimpArgs false in
set_option maxRecDepth 100000 in
/-- impl.lineAt -/
theorem dc_impl_lineAt_nil  : DC Try.prog 102 [.isl 1 []] (.tup [.str [], .bool false]) [] := by
  refine DC.intro tiOk Try.func102 rfl rfl rfl rfl rfl rfl rfl rfl [] ?_
  refine AW.reg tiOk (fun _ => []) [0] ?_
  intro k hk; simp -dsimp [go_sem, -decide_eq_true_eq, -decide_eq_false_iff_not]
  repeat' (first | refine And.intro ?_ ?_ | refine hk _ ?_ | intro hg | omega | exact True.intro)
  all_goals clear hk k
  refine AW.seq ?_
  refine AW.reg tiOk (fun _ => []) [0, 18] ?_
  intro k hk; simp +contextual -dsimp (maxSteps := 2000000) [go_sem, -decide_eq_true_eq, -decide_eq_false_iff_not]
  repeat' (first | refine And.intro ?_ ?_ | refine hk _ ?_ | (intro hg; try simp only [decide_eq_true_eq, decide_eq_false_iff_not] at hg) | omega | exact True.intro)
  all_goals clear hk k
  all_goals (
    refine AW.cond rfl ?_ ?_
    · intro hc; try simp at hc
      all_goals try (exfalso; simp at hc; done)
      all_goals (
        refine AW.reg tiOk (fun _ => []) [2, 3] ?_
        intro k hk; simp -dsimp [go_sem, -decide_eq_true_eq, -decide_eq_false_iff_not]
        repeat' (first | refine And.intro ?_ ?_ | refine hk _ ?_ | intro hg | omega | exact True.intro)
        all_goals clear hk k
        refine AW.retF (ow := []) (muts := []) ?_ (fun h => And.intro (.inr rfl) h)
        simp [go_sem, Try.results102])
    · intro hc; try simp at hc
      all_goals try (exfalso; simp at hc; done)
      all_goals (
        refine AW.skipN (fun _ h => h) ?_
        refine AW.reg tiOk (fun _ => []) [0, 4] ?_
        intro k hk; simp -dsimp (maxSteps := 2000000) [go_sem, -decide_eq_true_eq, -decide_eq_false_iff_not]
        repeat' (first | refine And.intro ?_ ?_ | refine hk _ ?_ | intro hg | omega | exact True.intro)
        all_goals clear hk k
        refine AW.reg tiOk (fun _ => []) [2, 3] ?_
        intro k hk; simp +contextual -dsimp (maxSteps := 2000000) [go_sem, -decide_eq_true_eq, -decide_eq_false_iff_not]
        repeat' (first | refine And.intro ?_ ?_ | refine hk _ ?_ | (intro hg; try simp only [decide_eq_true_eq, decide_eq_false_iff_not] at hg) | (refine CallK.intro (dc_impl_LineFault _ (by first | assumption | omega)) ?_; simp +contextual -dsimp (maxSteps := 2000000) [go_sem, -decide_eq_true_eq, -decide_eq_false_iff_not]) | (refine CallK.intro (dc_impl_pack _ (by omega)) ?_; simp +contextual -dsimp (maxSteps := 2000000) [go_sem, -decide_eq_true_eq, -decide_eq_false_iff_not]) | (refine CallK.intro (dc_bytes_HasPrefix _) ?_; simp +contextual -dsimp (maxSteps := 2000000) [go_sem, -decide_eq_true_eq, -decide_eq_false_iff_not]) | omega | exact True.intro)
        all_goals clear hk k
        all_goals (
          refine AW.retF (ow := []) (muts := []) ?_ (fun h => And.intro (.inr rfl) h)
          simp [go_sem, Try.results102])))

set_option maxHeartbeats 600000 in
set_option linter.unusedSimpArgs false in
set_option maxRecDepth 100000 in
/-- impl.lineAt -/
theorem dc_impl_lineAt_cons (x : UInt8) (r : List UInt8) (hd : r.length + 1 ≤ 9223372036854775807) : DC Try.prog 102 [.isl 1 ((x :: r).map B1)] (.tup [.str (lnA (x :: r)), .bool (isL (x :: r))]) [] := by
  have hxt := x.toNat_lt
  have hwa : IntKind.wrap .i64 (1 + (x.toNat : Int)) = 1 + (x.toNat : Int) := wrap64 (by omega) (by omega)
  have hwb : IntKind.wrap .i64 (1 + (x.toNat : Int) + 2) = 1 + (x.toNat : Int) + 2 := wrap64 (by omega) (by omega)
  have hwt : (1 + (x.toNat : Int)).toNat = x.toNat + 1 := by omega
  have hll : (r.take x.toNat).length ≤ 255 := by simp; omega
  refine DC.intro tiOk Try.func102 rfl rfl rfl rfl rfl rfl rfl rfl [] ?_
  refine AW.reg tiOk (fun _ => []) [0] ?_
  intro k hk; simp -dsimp [go_sem, -decide_eq_true_eq, -decide_eq_false_iff_not, hwa, hwb, hwt]
  repeat' (first | refine And.intro ?_ ?_ | refine hk _ ?_ | intro hg | omega | exact True.intro)
  all_goals clear hk k
  refine AW.seq ?_
  refine AW.reg tiOk (fun _ => []) [0, 18] ?_
  intro k hk; simp +contextual -dsimp (maxSteps := 2000000) [go_sem, -decide_eq_true_eq, -decide_eq_false_iff_not, hwa, hwb, hwt]
  repeat' (first | refine And.intro ?_ ?_ | refine hk _ ?_ | (intro hg; try simp only [decide_eq_true_eq, decide_eq_false_iff_not] at hg) | omega | exact True.intro)
  all_goals clear hk k
  all_goals (
    refine AW.cond rfl ?_ ?_
    · intro hc; try simp at hc
      all_goals (
        refine AW.reg tiOk (fun _ => []) [2, 3] ?_
        intro k hk; simp -dsimp [go_sem, -decide_eq_true_eq, -decide_eq_false_iff_not, hwa, hwb, hwt]
        repeat' (first | refine And.intro ?_ ?_ | refine hk _ ?_ | intro hg | omega | exact True.intro)
        all_goals clear hk k
        refine AW.retF (ow := []) (muts := []) ?_ (fun h => And.intro (.inr rfl) h)
        first | (have hs : ¬ x.toNat + 2 ≤ r.length := (by omega); simp [go_sem, Try.results102, lnA_cons, isL_cons, hs]; done) | (have hs : x.toNat + 2 ≤ r.length := (by omega); simp [go_sem, Try.results102, lnA_cons, isL_cons, hs, hasP_pk hs, *]; done))
    · intro hc; try simp at hc
      all_goals (
        refine AW.skipN (fun _ h => h) ?_
        refine AW.reg tiOk (fun _ => []) [0, 4] ?_
        intro k hk; simp -dsimp (maxSteps := 2000000) [go_sem, -decide_eq_true_eq, -decide_eq_false_iff_not, hwa, hwb, hwt]
        repeat' (first | refine And.intro ?_ ?_ | refine hk _ ?_ | intro hg | omega | exact True.intro)
        all_goals clear hk k
        refine AW.reg tiOk (fun _ => []) [2, 3] ?_
        intro k hk; simp +contextual -dsimp (maxSteps := 2000000) [go_sem, -decide_eq_true_eq, -decide_eq_false_iff_not, hwa, hwb, hwt]
        repeat' (first | refine And.intro ?_ ?_ | refine hk _ ?_ | (intro hg; try simp only [decide_eq_true_eq, decide_eq_false_iff_not] at hg) | (refine CallK.intro (dc_impl_LineFault _ (by omega)) ?_; simp +contextual -dsimp (maxSteps := 2000000) [go_sem, -decide_eq_true_eq, -decide_eq_false_iff_not, hwa, hwb, hwt]) | (refine CallK.intro (dc_impl_pack _ (by omega)) ?_; simp +contextual -dsimp (maxSteps := 2000000) [go_sem, -decide_eq_true_eq, -decide_eq_false_iff_not, hwa, hwb, hwt]) | (refine CallK.intro (dc_bytes_HasPrefix (x :: r) (pk (r.take x.toNat))) ?_; simp +contextual -dsimp (maxSteps := 2000000) [go_sem, -decide_eq_true_eq, -decide_eq_false_iff_not, hwa, hwb, hwt]) | omega | exact True.intro)
        all_goals clear hk k
        all_goals (
          refine AW.retF (ow := []) (muts := []) ?_ (fun h => And.intro (.inr rfl) h)
          first | (have hs : ¬ x.toNat + 2 ≤ r.length := (by omega); simp [go_sem, Try.results102, lnA_cons, isL_cons, hs]; done) | (have hs : x.toNat + 2 ≤ r.length := (by omega); simp [go_sem, Try.results102, lnA_cons, isL_cons, hs, hasP_pk hs, *]; done))))
theorem dc_impl_lineAt (d : List UInt8) (hd : d.length ≤ 9223372036854775807) : DC Try.prog 102 [.isl 1 (d.map B1)] (.tup [.str (lnA d), .bool (isL d)]) [] := by
  cases d with
  | nil => exact dc_impl_lineAt_nil
  | cons x r => exact dc_impl_lineAt_cons x r hd
theorem dc_impl_lineAt_d (d : List UInt8) (k : Nat) (hd : d.length ≤ 9223372036854775807) : DC Try.prog 102 [.isl 1 (List.drop k (d.map B1))] (.tup [.str (lnA (d.drop k)), .bool (isL (d.drop k))]) [] := by
  have := dc_impl_lineAt (d.drop k) (by simp; omega)
  rwa [List.map_drop] at this

set_option maxHeartbeats 600000 in
set_option linter.unusedSimpArgs false in
set_option maxRecDepth 100000 in
/-- spec.l13One -/
theorem dc_spec_l13One_nil  : DC Try.prog 100 [.isl 1 []] (.tup [.str (if isL [] then lnT [] else []), .int .i64 (if isL [] then ((n0 [] + 3 : Nat) : Int) else 0)]) [] := by
  refine DC.intro tiOk Try.func100 rfl rfl rfl rfl rfl rfl rfl rfl [] ?_
  refine AW.reg tiOk (fun _ => []) [0] ?_
  intro k hk; simp -dsimp [go_sem, -decide_eq_true_eq, -decide_eq_false_iff_not]
  repeat' (first | refine And.intro ?_ ?_ | refine hk _ ?_ | intro hg | omega | exact True.intro)
  all_goals clear hk k
  refine AW.seq ?_
  refine AW.reg tiOk (fun _ => []) [0, 8] ?_
  intro k hk; simp -dsimp [go_sem, -decide_eq_true_eq, -decide_eq_false_iff_not]
  repeat' (first | refine And.intro ?_ ?_ | refine hk _ ?_ | intro hg | omega | exact True.intro)
  all_goals clear hk k
  refine AW.cond rfl ?_ ?_
  · intro hc; try simp at hc
    all_goals try (exfalso; simp at hc; done)
    all_goals (
      refine AW.reg tiOk (fun _ => []) [2, 3] ?_
      intro k hk; simp -dsimp [go_sem, -decide_eq_true_eq, -decide_eq_false_iff_not]
      repeat' (first | refine And.intro ?_ ?_ | refine hk _ ?_ | intro hg | omega | exact True.intro)
      all_goals clear hk k
      refine AW.retF (ow := []) (muts := []) ?_ (fun h => And.intro (.inr rfl) h)
      simp [go_sem, Try.results100, isL_nil])
  · intro hc; try simp at hc
    all_goals try (exfalso; simp at hc; done)
    all_goals (
      refine AW.skipN (fun _ h => h) ?_
      refine AW.reg tiOk (fun _ => []) [0, 4] ?_
      intro k hk; simp -dsimp [go_sem, -decide_eq_true_eq, -decide_eq_false_iff_not]
      repeat' (first | refine And.intro ?_ ?_ | refine hk _ ?_ | intro hg | omega | exact True.intro)
      all_goals clear hk k
      refine AW.seq ?_
      refine AW.reg tiOk (fun _ => []) [0, 4, 21] ?_
      intro k hk; simp +contextual -dsimp (maxSteps := 2000000) [go_sem, -decide_eq_true_eq, -decide_eq_false_iff_not]
      repeat' (first | refine And.intro ?_ ?_ | refine hk _ ?_ | (intro hg; try simp only [decide_eq_true_eq, decide_eq_false_iff_not] at hg) | omega | exact True.intro)
      all_goals clear hk k
      all_goals (
        refine AW.cond rfl ?_ ?_
        · intro hc; try simp at hc
          all_goals try (exfalso; simp at hc; done)
          all_goals (
            refine AW.reg tiOk (fun _ => []) [2, 3] ?_
            intro k hk; simp -dsimp [go_sem, -decide_eq_true_eq, -decide_eq_false_iff_not]
            repeat' (first | refine And.intro ?_ ?_ | refine hk _ ?_ | intro hg | omega | exact True.intro)
            all_goals clear hk k
            refine AW.retF (ow := []) (muts := []) ?_ (fun h => And.intro (.inr rfl) h)
            simp [go_sem, Try.results100, isL_nil])
        · intro hc; try simp at hc
          all_goals try (exfalso; simp at hc; done)
          all_goals (
            refine AW.skipN (fun _ h => h) ?_
            refine AW.reg tiOk (fun _ => []) [0, 4, 5] ?_
            intro k hk; simp -dsimp [go_sem, -decide_eq_true_eq, -decide_eq_false_iff_not]
            repeat' (first | refine And.intro ?_ ?_ | refine hk _ ?_ | intro hg | omega | exact True.intro)
            all_goals clear hk k
            refine AW.seq ?_
            refine AW.reg tiOk (fun _ => []) [4, 5, 39] ?_
            intro k hk; simp +contextual -dsimp (maxSteps := 2000000) [go_sem, -decide_eq_true_eq, -decide_eq_false_iff_not]
            repeat' (first | refine And.intro ?_ ?_ | (refine Chk.keys ?_; simp only [go_sem, List.map_cons, List.map_nil, List.flatMap_cons, List.flatMap_nil, List.flatMap_append, List.append_nil, List.nil_append, List.cons_append]; decide +kernel) | refine hk _ ?_ | (intro hg; try simp only [decide_eq_true_eq, decide_eq_false_iff_not] at hg) | (refine CallK.intro (dc_spec_LineFault _ (by first | assumption | omega)) ?_; simp +contextual -dsimp (maxSteps := 2000000) [go_sem, -decide_eq_true_eq, -decide_eq_false_iff_not]) | (refine CallK.intro (dc_spec_l13Pack _ (by omega)) ?_; simp +contextual -dsimp (maxSteps := 2000000) [go_sem, -decide_eq_true_eq, -decide_eq_false_iff_not]) | omega | exact True.intro)
            all_goals clear hk k
            all_goals (
              refine AW.cond rfl ?_ ?_
              · intro hc; try simp at hc
                all_goals try (exfalso; simp at hc; done)
                all_goals (
                  refine AW.reg tiOk (fun _ => []) [2, 3] ?_
                  intro k hk; simp -dsimp [go_sem, -decide_eq_true_eq, -decide_eq_false_iff_not]
                  repeat' (first | refine And.intro ?_ ?_ | refine hk _ ?_ | intro hg | omega | exact True.intro)
                  all_goals clear hk k
                  refine AW.retF (ow := []) (muts := []) ?_ (fun h => And.intro (.inr rfl) h)
                  simp [go_sem, Try.results100, isL_nil])
              · intro hc; try simp at hc
                all_goals try (exfalso; simp at hc; done)
                all_goals (
                  refine AW.skipN (fun _ h => h) ?_
                  refine AW.reg tiOk (fun _ => []) [2, 3] ?_
                  intro k hk; simp -dsimp [go_sem, -decide_eq_true_eq, -decide_eq_false_iff_not]
                  repeat' (first | refine And.intro ?_ ?_ | refine hk _ ?_ | intro hg | omega | exact True.intro)
                  all_goals clear hk k
                  refine AW.retF (ow := []) (muts := []) ?_ (fun h => And.intro (.inr rfl) h)
                  simp [go_sem, Try.results100, isL_nil])))))

set_option maxHeartbeats 600000 in
set_option linter.unusedSimpArgs false in
set_option maxRecDepth 100000 in
/-- spec.l13One -/
theorem dc_spec_l13One_cons (x : UInt8) (r : List UInt8) (hd : r.length + 1 ≤ 9223372036854775807) : DC Try.prog 100 [.isl 1 ((x :: r).map B1)] (.tup [.str (if isL (x :: r) then lnT (x :: r) else []), .int .i64 (if isL (x :: r) then ((n0 (x :: r) + 3 : Nat) : Int) else 0)]) [] := by
  have hxt := x.toNat_lt
  have hwa : IntKind.wrap .i64 ((x.toNat : Int) + 3) = (x.toNat : Int) + 3 := wrap64 (by omega) (by omega)
  have hwb : IntKind.wrap .i64 ((x.toNat : Int) + 3 - 2) = (x.toNat : Int) + 3 - 2 := wrap64 (by omega) (by omega)
  have hwt : ((x.toNat : Int) + 3 - 2).toNat = x.toNat + 1 := by omega
  have hwu : ((x.toNat : Int) + 3).toNat = x.toNat + 3 := by omega
  have hll : (r.take x.toNat).length ≤ 255 := by simp; omega
  refine DC.intro tiOk Try.func100 rfl rfl rfl rfl rfl rfl rfl rfl [] ?_
  refine AW.reg tiOk (fun _ => []) [0] ?_
  intro k hk; simp -dsimp [go_sem, -decide_eq_true_eq, -decide_eq_false_iff_not, hwa, hwb, hwt, hwu]
  repeat' (first | refine And.intro ?_ ?_ | refine hk _ ?_ | intro hg | omega | exact True.intro)
  all_goals clear hk k
  refine AW.seq ?_
  refine AW.reg tiOk (fun _ => []) [0, 8] ?_
  intro k hk; simp -dsimp [go_sem, -decide_eq_true_eq, -decide_eq_false_iff_not, hwa, hwb, hwt, hwu]
  repeat' (first | refine And.intro ?_ ?_ | refine hk _ ?_ | intro hg | omega | exact True.intro)
  all_goals clear hk k
  refine AW.cond rfl ?_ ?_
  · intro hc; try simp at hc
    all_goals (
      refine AW.reg tiOk (fun _ => []) [2, 3] ?_
      intro k hk; simp -dsimp [go_sem, -decide_eq_true_eq, -decide_eq_false_iff_not, hwa, hwb, hwt, hwu]
      repeat' (first | refine And.intro ?_ ?_ | refine hk _ ?_ | intro hg | omega | exact True.intro)
      all_goals clear hk k
      refine AW.retF (ow := []) (muts := []) ?_ (fun h => And.intro (.inr rfl) h)
      first | (have hL : isL (x :: r) = false := (isL_not fun h1 h2 h3 h4 => (by first | omega | contradiction | (simp_all; done))); simp [go_sem, Try.results100, hL]; done) | (have hL : isL (x :: r) = true := (isL_iff.2 ⟨by omega, by assumption, by first | assumption | (simp_all; done)⟩); simp [go_sem, Try.results100, hL, lnT_cons, n0_cons]; done))
  · intro hc; try simp at hc
    all_goals (
      refine AW.skipN (fun _ h => h) ?_
      refine AW.reg tiOk (fun _ => []) [0, 4] ?_
      intro k hk; simp -dsimp [go_sem, -decide_eq_true_eq, -decide_eq_false_iff_not, hwa, hwb, hwt, hwu]
      repeat' (first | refine And.intro ?_ ?_ | refine hk _ ?_ | intro hg | omega | exact True.intro)
      all_goals clear hk k
      refine AW.seq ?_
      refine AW.reg tiOk (fun _ => []) [0, 4, 21] ?_
      intro k hk; simp +contextual -dsimp (maxSteps := 2000000) [go_sem, -decide_eq_true_eq, -decide_eq_false_iff_not, hwa, hwb, hwt, hwu]
      repeat' (first | refine And.intro ?_ ?_ | refine hk _ ?_ | (intro hg; try simp only [decide_eq_true_eq, decide_eq_false_iff_not] at hg) | omega | exact True.intro)
      all_goals clear hk k
      all_goals (
        refine AW.cond rfl ?_ ?_
        · intro hc; try simp at hc
          all_goals (
            refine AW.reg tiOk (fun _ => []) [2, 3] ?_
            intro k hk; simp -dsimp [go_sem, -decide_eq_true_eq, -decide_eq_false_iff_not, hwa, hwb, hwt, hwu]
            repeat' (first | refine And.intro ?_ ?_ | refine hk _ ?_ | intro hg | omega | exact True.intro)
            all_goals clear hk k
            refine AW.retF (ow := []) (muts := []) ?_ (fun h => And.intro (.inr rfl) h)
            first | (have hL : isL (x :: r) = false := (isL_not fun h1 h2 h3 h4 => (by first | omega | contradiction | (simp_all; done))); simp [go_sem, Try.results100, hL]; done) | (have hL : isL (x :: r) = true := (isL_iff.2 ⟨by omega, by assumption, by first | assumption | (simp_all; done)⟩); simp [go_sem, Try.results100, hL, lnT_cons, n0_cons]; done))
        · intro hc; try simp at hc
          all_goals (
            refine AW.skipN (fun _ h => h) ?_
            refine AW.reg tiOk (fun _ => []) [0, 4, 5] ?_
            intro k hk; simp -dsimp [go_sem, -decide_eq_true_eq, -decide_eq_false_iff_not, hwa, hwb, hwt, hwu]
            repeat' (first | refine And.intro ?_ ?_ | refine hk _ ?_ | intro hg | omega | exact True.intro)
            all_goals clear hk k
            refine AW.seq ?_
            refine AW.reg tiOk (fun _ => []) [4, 5, 39] ?_
            intro k hk; simp +contextual -dsimp (maxSteps := 2000000) [go_sem, -decide_eq_true_eq, -decide_eq_false_iff_not, hwa, hwb, hwt, hwu]
            repeat' (first | refine And.intro ?_ ?_ | (refine Chk.keys ?_; simp only [go_sem, List.map_cons, List.map_nil, List.flatMap_cons, List.flatMap_nil, List.flatMap_append, List.append_nil, List.nil_append, List.cons_append]; decide +kernel) | refine hk _ ?_ | (intro hg; try simp only [decide_eq_true_eq, decide_eq_false_iff_not] at hg) | (refine CallK.intro (dc_spec_LineFault _ (by omega)) ?_; simp +contextual -dsimp (maxSteps := 2000000) [go_sem, -decide_eq_true_eq, -decide_eq_false_iff_not, hwa, hwb, hwt, hwu]) | (refine CallK.intro (dc_spec_l13Pack _ (by omega)) ?_; simp +contextual -dsimp (maxSteps := 2000000) [go_sem, -decide_eq_true_eq, -decide_eq_false_iff_not, hwa, hwb, hwt, hwu]) | omega | exact True.intro)
            all_goals clear hk k
            all_goals (
              refine AW.cond rfl ?_ ?_
              · intro hc; try simp at hc
                all_goals (
                  refine AW.reg tiOk (fun _ => []) [2, 3] ?_
                  intro k hk; simp -dsimp [go_sem, -decide_eq_true_eq, -decide_eq_false_iff_not, hwa, hwb, hwt, hwu]
                  repeat' (first | refine And.intro ?_ ?_ | refine hk _ ?_ | intro hg | omega | exact True.intro)
                  all_goals clear hk k
                  refine AW.retF (ow := []) (muts := []) ?_ (fun h => And.intro (.inr rfl) h)
                  first | (have hL : isL (x :: r) = false := (isL_not fun h1 h2 h3 h4 => (by first | omega | contradiction | (simp_all; done))); simp [go_sem, Try.results100, hL]; done) | (have hL : isL (x :: r) = true := (isL_iff.2 ⟨by omega, by assumption, by first | assumption | (simp_all; done)⟩); simp [go_sem, Try.results100, hL, lnT_cons, n0_cons]; done))
              · intro hc; try simp at hc
                all_goals (
                  refine AW.skipN (fun _ h => h) ?_
                  refine AW.reg tiOk (fun _ => []) [2, 3] ?_
                  intro k hk; simp -dsimp [go_sem, -decide_eq_true_eq, -decide_eq_false_iff_not, hwa, hwb, hwt, hwu]
                  repeat' (first | refine And.intro ?_ ?_ | refine hk _ ?_ | intro hg | omega | exact True.intro)
                  all_goals clear hk k
                  refine AW.retF (ow := []) (muts := []) ?_ (fun h => And.intro (.inr rfl) h)
                  first | (have hL : isL (x :: r) = false := (isL_not fun h1 h2 h3 h4 => (by first | omega | contradiction | (simp_all; done))); simp [go_sem, Try.results100, hL]; done) | (have hL : isL (x :: r) = true := (isL_iff.2 ⟨by omega, by assumption, by first | assumption | (simp_all; done)⟩); simp [go_sem, Try.results100, hL, lnT_cons, n0_cons]; done))))))
theorem dc_spec_l13One (d : List UInt8) (hd : d.length ≤ 9223372036854775807) : DC Try.prog 100 [.isl 1 (d.map B1)] (.tup [.str (if isL d then lnT d else []), .int .i64 (if isL d then ((n0 d + 3 : Nat) : Int) else 0)]) [] := by
  cases d with
  | nil => exact dc_spec_l13One_nil
  | cons x r => exact dc_spec_l13One_cons x r hd
theorem dc_spec_l13One_d (d : List UInt8) (k : Nat) (hd : d.length ≤ 9223372036854775807) : DC Try.prog 100 [.isl 1 (List.drop k (d.map B1))] (.tup [.str (if isL (d.drop k) then lnT (d.drop k) else []), .int .i64 (if isL (d.drop k) then ((n0 (d.drop k) + 3 : Nat) : Int) else 0)]) [] := by
  have := dc_spec_l13One (d.drop k) (by simp; omega)
  rwa [List.map_drop] at this

end Go.AM
