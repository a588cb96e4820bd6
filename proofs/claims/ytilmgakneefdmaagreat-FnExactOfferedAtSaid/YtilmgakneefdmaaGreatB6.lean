/- Joined texts: H4 H5 K2 Pi D1 D2 D3 Pt7 X1 X2 X3 Am27 X5. -/
import Derived.Test.YtilmgakneefdmaaGreatB1
import Derived.Test.YtilmgakneefdmaaGreatB2
import Derived.Test.YtilmgakneefdmaaGreatB3
import Derived.Test.YtilmgakneefdmaaGreatB4
import Derived.Test.YtilmgakneefdmaaGreatB5
set_option linter.unusedVariables false
set_option linter.unusedSimpArgs false
/-! ### H4 -/
set_option linter.unusedVariables false
set_option linter.unusedSimpArgs false
set_option maxHeartbeats 600000
set_option maxRecDepth 100000
namespace Go.AM
open Go.Proofs

set_option maxHeartbeats 4000000 in
/-- spec.l9Wrong -/
theorem dc_spec_l9Wrong (p : List TStep) (c : TChart) (ho : StepsOk p) (hla : c.acts.length = p.length) (hld : c.dues.length = p.length) (i : Nat) (hi : i < p.length) : DC Tryz.prog 150 [.isl 6 (p.map TStep.ro), .ip c.ro, .int .i64 (i : Nat)] (.bool (wrong9 p c (i : Int))) [] := by
 have hlen := ho.len
 obtain ⟨x, hx⟩ := at_some hi
 have hxS := nS_at hx
 have haa := actN_at (c := c) (show i < c.acts.length by omega)
 have hdd := dueN_at (c := c) (show i < c.dues.length by omega)
 have hkl := kids_len p (i : Int)
 have hkb : ∀ k ∈ (kids p (i : Int)), 0 ≤ k ∧ k.toNat < c.acts.length := fun k hk => by have := kids_bd hk; omega
 have hc1 := cnt_le c 1 (kids p (i : Int))
 have hc2 := cnt_le c 2 (kids p (i : Int))
 have hwn : IntKind.wrap .i64 (cnt c 1 (kids p (i : Int)) + cnt c 2 (kids p (i : Int))) = cnt c 1 (kids p (i : Int)) + cnt c 2 (kids p (i : Int)) := wrap64 (by omega) (by omega)
 refine DC.intro tiOk Tryz.func150 rfl rfl rfl rfl rfl rfl rfl rfl [] ?_
 refine rg [0,1,2] ?_
 intro k hk; simp -dsimp [go_sem, -decide_eq_true_eq, -decide_eq_false_iff_not, hx, haa, hdd]
 repeat' first | apply And.intro | refine hk _ ?_ | intro hg | omega | exact True.intro | (refine And.elim (fun h8 h9 => ?_) (hho ?_) <;> first | assumption | omega) | fail
 all_goals clear hk k
 refine rg [0,1,2,7] ?_
 intro k hk; simp -dsimp (maxSteps := 2000000) [go_sem, -decide_eq_true_eq, -decide_eq_false_iff_not, hx, haa, hdd]
 repeat' first | apply And.intro | refine hk _ ?_ | intro hg | (refine CallK.intro (dc_spec_l4Kids p (i : Int) (by omega) (by rw [ho.par0]; omega)) ?_; simp -dsimp (maxSteps := 2000000) [go_sem, -decide_eq_true_eq, -decide_eq_false_iff_not, hx, haa, hdd]) | omega | exact True.intro | (refine And.elim (fun h8 h9 => ?_) (hho ?_) <;> first | assumption | omega) | fail
 all_goals clear hk k
 refine rg [0,1,2,7,8] ?_
 intro k hk; simp -dsimp [go_sem, -decide_eq_true_eq, -decide_eq_false_iff_not, hx, haa, hdd]
 repeat' first | apply And.intro | refine hk _ ?_ | intro hg | omega | exact True.intro | (refine And.elim (fun h8 h9 => ?_) (hho ?_) <;> first | assumption | omega) | fail
 all_goals clear hk k
 refine rg [0,1,2,7,8,9] ?_
 intro k hk; simp -dsimp [go_sem, -decide_eq_true_eq, -decide_eq_false_iff_not, hx, haa, hdd]
 repeat' first | apply And.intro | refine hk _ ?_ | intro hg | omega | exact True.intro | (refine And.elim (fun h8 h9 => ?_) (hho ?_) <;> first | assumption | omega) | fail
 all_goals clear hk k
 refine AW.seq ?_
 refine rg [0,1,2,7,8,9,10] ?_
 intro k hk; simp -dsimp [go_sem, -decide_eq_true_eq, -decide_eq_false_iff_not, hx, haa, hdd]
 repeat' first | apply And.intro | refine hk _ ?_ | intro hg | omega | exact True.intro | (refine And.elim (fun h8 h9 => ?_) (hho ?_) <;> first | assumption | omega) | fail
 all_goals clear hk k
 refine AW.block ?_
 refine AW.loopI (fun j : Nat => ⟨130, [(0, .isl 6 (p.map TStep.ro)), (1, .ip c.ro), (2, .int .i64 (i : Nat)), (7, .sl 1014 1 0 (kids p (i : Int)).length), (8, .int .i64 (cnt c 1 ((kids p (i : Int)).take j))), (9, .int .i64 (cnt c 2 ((kids p (i : Int)).take j))), (10, .int .i64 j)], [(1014, some ⟨1, (kids p (i : Int)).map I1⟩)]⟩) (fun j => j ≤ (kids p (i : Int)).length) (fun j => (kids p (i : Int)).length - j) (0) (by simp) (Less.of rfl (by simp [go_sem, cnt]) (by simp [go_sem])) ?_
 rintro j hj
 refine AW.seq ?_
 refine rg [0,1,2,7,8,9,10,18] ?_
 intro k hk; simp -dsimp [go_sem, -decide_eq_true_eq, -decide_eq_false_iff_not, hx, haa, hdd]
 repeat' first | apply And.intro | refine hk _ ?_ | intro hg | omega | exact True.intro | (refine And.elim (fun h8 h9 => ?_) (hho ?_) <;> first | assumption | omega) | fail
 all_goals clear hk k
 refine AW.cond rfl ?_ ?_
 ·intro hc; try simp at hc
  all_goals try (exfalso; omega; done)
  all_goals (
   have hlt : j < (kids p (i : Int)).length := by assumption
   obtain ⟨y, hy⟩ := at_some hlt
   obtain ⟨hy0, hy1⟩ := hkb y (List.mem_of_getElem? hy)
   have hya := actA_at hy1
   have hs1 := cnt_step (c := c) (a := 1) hy
   have hs2 := cnt_step (c := c) (a := 2) hy
   have hcl1 := cnt_le c 1 ((kids p (i : Int)).take j)
   have hcl2 := cnt_le c 2 ((kids p (i : Int)).take j)
   have hcl3 : ((kids p (i : Int)).take j).length ≤ 24 := by rw [List.length_take]; omega
   have hwc1 : IntKind.wrap .i64 (cnt c 1 ((kids p (i : Int)).take j) + 1) = cnt c 1 ((kids p (i : Int)).take j) + 1 := wrap64 (by omega) (by omega)
   have hwc2 : IntKind.wrap .i64 (cnt c 2 ((kids p (i : Int)).take j) + 1) = cnt c 2 ((kids p (i : Int)).take j) + 1 := wrap64 (by omega) (by omega)
   refine AW.skipN (fun _ h => h) ?_
   refine AW.seq ?_
   refine AW.block ?_
   refine rg [0,1,2,7,8,9,10,30] ?_
   intro k hk; simp -dsimp (maxSteps := 2000000) [go_sem, -decide_eq_true_eq, -decide_eq_false_iff_not, hx, haa, hdd, hy, hya, hwc1, hwc2]
   repeat' first | apply And.intro | (refine Chk.keys ?_; simp only [go_sem, List.map_cons, List.map_nil, List.flatMap_cons, List.flatMap_nil, List.flatMap_append, List.append_nil, List.nil_append, List.cons_append]; decide +kernel) | refine hk _ ?_ | intro hg | omega | exact True.intro | (refine And.elim (fun h8 h9 => ?_) (hho ?_) <;> first | assumption | omega) | fail
   all_goals clear hk k
   refine AW.block ?_
   refine rg [0,1,2,7,8,9,10,30,31] ?_
   intro k hk; simp -dsimp [go_sem, -decide_eq_true_eq, -decide_eq_false_iff_not, hx, haa, hdd, hy, hya, hwc1, hwc2]
   repeat' first | apply And.intro | refine hk _ ?_ | intro hg | omega | exact True.intro | (refine And.elim (fun h8 h9 => ?_) (hho ?_) <;> first | assumption | omega) | fail
   all_goals clear hk k
   refine AW.cond rfl ?_ ?_
   ·intro hc; try simp at hc
    all_goals try (exfalso; omega; done)
    all_goals (
     refine rgN [0,1,2,7,8,9,10] (fun _ h => h) ?_
     intro k hk; simp -dsimp [go_sem, -decide_eq_true_eq, -decide_eq_false_iff_not, hx, haa, hdd, hy, hya, hwc1, hwc2]
     repeat' first | apply And.intro | refine hk _ ?_ | intro hg | omega | exact True.intro | (refine And.elim (fun h8 h9 => ?_) (hho ?_) <;> first | assumption | omega) | fail
     all_goals clear hk k
     refine rgK ?_
     intro k hk; simp -dsimp [go_sem, -decide_eq_true_eq, -decide_eq_false_iff_not, hx, haa, hdd, hy, hya, hwc1, hwc2]
     repeat' first | apply And.intro | refine hk _ ?_ | intro hg | omega | exact True.intro | (refine And.elim (fun h8 h9 => ?_) (hho ?_) <;> first | assumption | omega) | fail
     all_goals clear hk k
     show ∃ _, _
     have hw := wrapi hlt (by omega)
     refine ⟨j + 1, by omega, by omega, Less.of rfl (by simp [go_sem, hw, hs1, hs2] <;> grind) (by simp [go_sem])⟩)
   ·intro hc; try simp at hc
    all_goals try (exfalso; omega; done)
    all_goals (
     refine rg [0,1,2,7,8,9,10,35] ?_
     intro k hk; simp -dsimp [go_sem, -decide_eq_true_eq, -decide_eq_false_iff_not, hx, haa, hdd, hy, hya, hwc1, hwc2]
     repeat' first | apply And.intro | refine hk _ ?_ | intro hg | omega | exact True.intro | (refine And.elim (fun h8 h9 => ?_) (hho ?_) <;> first | assumption | omega) | fail
     all_goals clear hk k
     refine AW.cond rfl ?_ ?_
     ·intro hc; try simp at hc
      all_goals try (exfalso; omega; done)
      all_goals (
       refine rgN [0,1,2,7,8,9,10] (fun _ h => h) ?_
       intro k hk; simp -dsimp [go_sem, -decide_eq_true_eq, -decide_eq_false_iff_not, hx, haa, hdd, hy, hya, hwc1, hwc2]
       repeat' first | apply And.intro | refine hk _ ?_ | intro hg | omega | exact True.intro | (refine And.elim (fun h8 h9 => ?_) (hho ?_) <;> first | assumption | omega) | fail
       all_goals clear hk k
       refine rgK ?_
       intro k hk; simp -dsimp [go_sem, -decide_eq_true_eq, -decide_eq_false_iff_not, hx, haa, hdd, hy, hya, hwc1, hwc2]
       repeat' first | apply And.intro | refine hk _ ?_ | intro hg | omega | exact True.intro | (refine And.elim (fun h8 h9 => ?_) (hho ?_) <;> first | assumption | omega) | fail
       all_goals clear hk k
       show ∃ _, _
       have hw := wrapi hlt (by omega)
       refine ⟨j + 1, by omega, by omega, Less.of rfl (by simp [go_sem, hw, hs1, hs2] <;> grind) (by simp [go_sem])⟩)
     ·intro hc; try simp at hc
      all_goals try (exfalso; omega; done)
      all_goals (
       refine AW.skipN (fun _ h => h) ?_
       refine rgK ?_
       intro k hk; simp -dsimp [go_sem, -decide_eq_true_eq, -decide_eq_false_iff_not, hx, haa, hdd, hy, hya, hwc1, hwc2]
       repeat' first | apply And.intro | refine hk _ ?_ | intro hg | omega | exact True.intro | (refine And.elim (fun h8 h9 => ?_) (hho ?_) <;> first | assumption | omega) | fail
       all_goals clear hk k
       show ∃ _, _
       have hw := wrapi hlt (by omega)
       refine ⟨j + 1, by omega, by omega, Less.of rfl (by simp [go_sem, hw, hs1, hs2] <;> grind) (by simp [go_sem])⟩)))
 ·intro hc; try simp at hc
  all_goals try (exfalso; omega; done)
  all_goals (
   refine AW.exitN (fun _ h => h) ?_
   refine AW.seq ?_
   have htk : ((kids p (i : Int)).take j) = (kids p (i : Int)) := List.take_of_length_le (by omega)
   rw [htk]
   refine rg [0,1,2,7,8,9,46] ?_
   intro k hk; simp -dsimp (maxSteps := 2000000) [go_sem, -decide_eq_true_eq, -decide_eq_false_iff_not, hx, haa, hdd]
   repeat' first | apply And.intro | refine hk _ ?_ | intro hg | omega | exact True.intro | (refine And.elim (fun h8 h9 => ?_) (hho ?_) <;> first | assumption | omega) | fail
   all_goals clear hk k
   refine AW.cond rfl ?_ ?_
   ·intro hc; try simp at hc
    all_goals try (exfalso; omega; done)
    all_goals (
     refine rg [6] ?_
     intro k hk; simp +contextual -dsimp (maxSteps := 2000000) [go_sem, -decide_eq_true_eq, -decide_eq_false_iff_not, hx, haa, hdd, hwn]
     repeat' first | apply And.intro | refine hk _ ?_ | (intro hg; try simp only [decide_eq_true_eq, decide_eq_false_iff_not] at hg) | omega | exact True.intro | (refine And.elim (fun h8 h9 => ?_) (hho ?_) <;> first | assumption | omega) | fail
     all_goals clear hk k
     all_goals (
      refine rt ?_
      rw [wrong9_at hx]
      simp [go_sem, Tryz.results150] at * <;> grind))
   ·intro hc; try simp at hc
    all_goals try (exfalso; omega; done)
    all_goals (
     refine AW.skipN (fun _ h => h) ?_
     refine rg [0,1,2,7,8,9,11] ?_
     intro k hk; simp -dsimp (maxSteps := 2000000) [go_sem, -decide_eq_true_eq, -decide_eq_false_iff_not, hx, haa, hdd]
     repeat' first | apply And.intro | refine hk _ ?_ | intro hg | omega | exact True.intro | (refine And.elim (fun h8 h9 => ?_) (hho ?_) <;> first | assumption | omega) | fail
     all_goals clear hk k
     refine AW.seq ?_
     refine rg [1,7,8,9,11,73] ?_
     intro k hk; simp -dsimp [go_sem, -decide_eq_true_eq, -decide_eq_false_iff_not, hx, haa, hdd]
     repeat' first | apply And.intro | refine hk _ ?_ | intro hg | omega | exact True.intro | (refine And.elim (fun h8 h9 => ?_) (hho ?_) <;> first | assumption | omega) | fail
     all_goals clear hk k
     refine AW.block ?_
     refine AW.seq ?_
     refine rg [1,7,8,9,11,73,74] ?_
     intro k hk; simp -dsimp [go_sem, -decide_eq_true_eq, -decide_eq_false_iff_not, hx, haa, hdd]
     repeat' first | apply And.intro | refine hk _ ?_ | intro hg | omega | exact True.intro | (refine And.elim (fun h8 h9 => ?_) (hho ?_) <;> first | assumption | omega) | fail
     all_goals clear hk k
     refine AW.cond rfl ?_ ?_
     ·intro hc; try simp at hc
      all_goals try (exfalso; omega; done)
      all_goals (
       refine AW.skipN (fun _ h => h) ?_
       refine AW.cond rfl ?_ ?_
       ·intro hc; try simp at hc
        all_goals try (exfalso; omega; done)
        all_goals (
         refine rg [6] ?_
         intro k hk; simp +contextual -dsimp (maxSteps := 2000000) [go_sem, -decide_eq_true_eq, -decide_eq_false_iff_not, hx, haa, hdd]
         repeat' first | apply And.intro | refine hk _ ?_ | (intro hg; try simp only [decide_eq_true_eq, decide_eq_false_iff_not] at hg) | omega | exact True.intro | (refine And.elim (fun h8 h9 => ?_) (hho ?_) <;> first | assumption | omega) | fail
         all_goals clear hk k
         all_goals (
          refine rt ?_
          rw [wrong9_at hx]
          simp [go_sem, Tryz.results150] at * <;> grind))
       ·intro hc; try simp at hc
        all_goals try (exfalso; omega; done)
        all_goals (
         refine rg [1,7,8,9,11,73,86] ?_
         intro k hk; simp -dsimp [go_sem, -decide_eq_true_eq, -decide_eq_false_iff_not, hx, haa, hdd]
         repeat' first | apply And.intro | refine hk _ ?_ | intro hg | omega | exact True.intro | (refine And.elim (fun h8 h9 => ?_) (hho ?_) <;> first | assumption | omega) | fail
         all_goals clear hk k
         refine AW.cond rfl ?_ ?_
         ·intro hc; try simp at hc
          all_goals try (exfalso; omega; done)
          all_goals (
           refine rg [6] ?_
           intro k hk; simp +contextual -dsimp (maxSteps := 2000000) [go_sem, -decide_eq_true_eq, -decide_eq_false_iff_not, hx, haa, hdd, hwn]
           repeat' first | apply And.intro | refine hk _ ?_ | (intro hg; try simp only [decide_eq_true_eq, decide_eq_false_iff_not] at hg) | omega | exact True.intro | (refine And.elim (fun h8 h9 => ?_) (hho ?_) <;> first | assumption | omega) | fail
           all_goals clear hk k
           all_goals (
            refine rt ?_
            rw [wrong9_at hx]
            simp [go_sem, Tryz.results150] at * <;> grind))
         ·intro hc; try simp at hc
          all_goals try (exfalso; omega; done)
          all_goals (
           refine rg [1,7,8,9,11,73,101] ?_
           intro k hk; simp -dsimp [go_sem, -decide_eq_true_eq, -decide_eq_false_iff_not, hx, haa, hdd]
           repeat' first | apply And.intro | refine hk _ ?_ | intro hg | omega | exact True.intro | (refine And.elim (fun h8 h9 => ?_) (hho ?_) <;> first | assumption | omega) | fail
           all_goals clear hk k
           refine AW.cond rfl ?_ ?_
           ·intro hc; try simp at hc
            all_goals try (exfalso; omega; done)
            all_goals (
             have hh0 : cnt c 1 (kids p (i : Int)) = 1 → (kids p (i : Int)) ≠ [] := fun h => cnt_kids (show 0 < cnt c 1 (kids p (i : Int)) by omega)
             have hho : cnt c 1 (kids p (i : Int)) = 1 → 0 ≤ headI (kids p (i : Int)) ∧ (headI (kids p (i : Int))).toNat < c.acts.length := fun h => hkb _ (List.mem_of_getElem? (head_at (hh0 h)))
             have hhd : decide (cnt c 1 (kids p (i : Int)) = 1) = true → (kids p (i : Int))[0]? = some (headI (kids p (i : Int))) := fun h => head_at (hh0 (by simpa using h))
             have hha : decide (cnt c 1 (kids p (i : Int)) = 1) = true → c.acts[(headI (kids p (i : Int))).toNat]? = some (actA c (headI (kids p (i : Int)))) := fun h => actA_at (hho (by simpa using h)).2
             refine rg [6] ?_
             intro k hk; simp +contextual -dsimp (maxSteps := 2000000) [go_sem, -decide_eq_true_eq, -decide_eq_false_iff_not, hx, haa, hdd, hhd, hha]
             repeat' first | apply And.intro | (refine Chk.keys ?_; simp only [go_sem, List.map_cons, List.map_nil, List.flatMap_cons, List.flatMap_nil, List.flatMap_append, List.append_nil, List.nil_append, List.cons_append]; decide +kernel) | refine hk _ ?_ | (intro hg; try simp only [decide_eq_true_eq, decide_eq_false_iff_not] at hg) | omega | exact True.intro | (refine And.elim (fun h8 h9 => ?_) (hho ?_) <;> first | assumption | omega) | fail
             all_goals clear hk k
             all_goals (
              refine rt ?_
              rw [wrong9_at hx]
              simp [go_sem, Tryz.results150] at * <;> grind))
           ·intro hc; try simp at hc
            all_goals try (exfalso; omega; done)
            all_goals (
             refine rg [11,73,123] ?_
             intro k hk; simp -dsimp [go_sem, -decide_eq_true_eq, -decide_eq_false_iff_not, hx, haa, hdd]
             repeat' first | apply And.intro | refine hk _ ?_ | intro hg | omega | exact True.intro | (refine And.elim (fun h8 h9 => ?_) (hho ?_) <;> first | assumption | omega) | fail
             all_goals clear hk k
             refine AW.cond rfl ?_ ?_
             ·intro hc; try simp at hc
              all_goals try (exfalso; omega; done)
              all_goals (
               refine rg [6] ?_
               intro k hk; simp -dsimp [go_sem, -decide_eq_true_eq, -decide_eq_false_iff_not, hx, haa, hdd]
               repeat' first | apply And.intro | refine hk _ ?_ | intro hg | omega | exact True.intro | (refine And.elim (fun h8 h9 => ?_) (hho ?_) <;> first | assumption | omega) | fail
               all_goals clear hk k
               refine rt ?_
               rw [wrong9_at hx]
               simp [go_sem, Tryz.results150] at * <;> grind)
             ·intro hc; try simp at hc
              all_goals try (exfalso; omega; done)
              all_goals (
               refine rg [11,127] ?_
               intro k hk; simp -dsimp [go_sem, -decide_eq_true_eq, -decide_eq_false_iff_not, hx, haa, hdd]
               repeat' first | apply And.intro | refine hk _ ?_ | intro hg | omega | exact True.intro | (refine And.elim (fun h8 h9 => ?_) (hho ?_) <;> first | assumption | omega) | fail
               all_goals clear hk k
               refine AW.cond rfl ?_ ?_
               ·intro hc; try simp at hc
                all_goals try (exfalso; omega; done)
                all_goals (
                 refine rg [6] ?_
                 intro k hk; simp -dsimp [go_sem, -decide_eq_true_eq, -decide_eq_false_iff_not, hx, haa, hdd]
                 repeat' first | apply And.intro | refine hk _ ?_ | intro hg | omega | exact True.intro | (refine And.elim (fun h8 h9 => ?_) (hho ?_) <;> first | assumption | omega) | fail
                 all_goals clear hk k
                 refine rt ?_
                 rw [wrong9_at hx]
                 simp [go_sem, Tryz.results150] at * <;> grind)
               ·intro hc; try simp at hc
                all_goals try (exfalso; omega; done)
                all_goals (
                 refine AW.skipN (fun _ h => h) ?_
                 refine rg [6] ?_
                 intro k hk; simp -dsimp [go_sem, -decide_eq_true_eq, -decide_eq_false_iff_not, hx, haa, hdd]
                 repeat' first | apply And.intro | refine hk _ ?_ | intro hg | omega | exact True.intro | (refine And.elim (fun h8 h9 => ?_) (hho ?_) <;> first | assumption | omega) | fail
                 all_goals clear hk k
                 refine rt ?_
                 rw [wrong9_at hx]
                 simp [go_sem, Tryz.results150] at * <;> grind))))))
     ·intro hc; try simp at hc
      all_goals try (exfalso; omega; done)
      all_goals (
       refine rgN [1,7,8,9,11,73,74] (fun _ h => h) ?_
       intro k hk; simp -dsimp [go_sem, -decide_eq_true_eq, -decide_eq_false_iff_not, hx, haa, hdd]
       repeat' first | apply And.intro | refine hk _ ?_ | intro hg | omega | exact True.intro | (refine And.elim (fun h8 h9 => ?_) (hho ?_) <;> first | assumption | omega) | fail
       all_goals clear hk k
       refine AW.cond rfl ?_ ?_
       ·intro hc; try simp at hc
        all_goals try (exfalso; omega; done)
        all_goals (
         refine rg [6] ?_
         intro k hk; simp +contextual -dsimp (maxSteps := 2000000) [go_sem, -decide_eq_true_eq, -decide_eq_false_iff_not, hx, haa, hdd]
         repeat' first | apply And.intro | refine hk _ ?_ | (intro hg; try simp only [decide_eq_true_eq, decide_eq_false_iff_not] at hg) | omega | exact True.intro | (refine And.elim (fun h8 h9 => ?_) (hho ?_) <;> first | assumption | omega) | fail
         all_goals clear hk k
         all_goals (
          refine rt ?_
          rw [wrong9_at hx]
          simp [go_sem, Tryz.results150] at * <;> grind))
       ·intro hc; try simp at hc
        all_goals try (exfalso; omega; done)
        all_goals (
         refine rg [1,7,8,9,11,73,86] ?_
         intro k hk; simp -dsimp [go_sem, -decide_eq_true_eq, -decide_eq_false_iff_not, hx, haa, hdd]
         repeat' first | apply And.intro | refine hk _ ?_ | intro hg | omega | exact True.intro | (refine And.elim (fun h8 h9 => ?_) (hho ?_) <;> first | assumption | omega) | fail
         all_goals clear hk k
         refine AW.cond rfl ?_ ?_
         ·intro hc; try simp at hc
          all_goals try (exfalso; omega; done)
          all_goals (
           refine rg [6] ?_
           intro k hk; simp +contextual -dsimp (maxSteps := 2000000) [go_sem, -decide_eq_true_eq, -decide_eq_false_iff_not, hx, haa, hdd, hwn]
           repeat' first | apply And.intro | refine hk _ ?_ | (intro hg; try simp only [decide_eq_true_eq, decide_eq_false_iff_not] at hg) | omega | exact True.intro | (refine And.elim (fun h8 h9 => ?_) (hho ?_) <;> first | assumption | omega) | fail
           all_goals clear hk k
           all_goals (
            refine rt ?_
            rw [wrong9_at hx]
            simp [go_sem, Tryz.results150] at * <;> grind))
         ·intro hc; try simp at hc
          all_goals try (exfalso; omega; done)
          all_goals (
           refine rg [1,7,8,9,11,73,101] ?_
           intro k hk; simp -dsimp [go_sem, -decide_eq_true_eq, -decide_eq_false_iff_not, hx, haa, hdd]
           repeat' first | apply And.intro | refine hk _ ?_ | intro hg | omega | exact True.intro | (refine And.elim (fun h8 h9 => ?_) (hho ?_) <;> first | assumption | omega) | fail
           all_goals clear hk k
           refine AW.cond rfl ?_ ?_
           ·intro hc; try simp at hc
            all_goals try (exfalso; omega; done)
            all_goals (
             have hh0 : cnt c 1 (kids p (i : Int)) = 1 → (kids p (i : Int)) ≠ [] := fun h => cnt_kids (show 0 < cnt c 1 (kids p (i : Int)) by omega)
             have hho : cnt c 1 (kids p (i : Int)) = 1 → 0 ≤ headI (kids p (i : Int)) ∧ (headI (kids p (i : Int))).toNat < c.acts.length := fun h => hkb _ (List.mem_of_getElem? (head_at (hh0 h)))
             have hhd : decide (cnt c 1 (kids p (i : Int)) = 1) = true → (kids p (i : Int))[0]? = some (headI (kids p (i : Int))) := fun h => head_at (hh0 (by simpa using h))
             have hha : decide (cnt c 1 (kids p (i : Int)) = 1) = true → c.acts[(headI (kids p (i : Int))).toNat]? = some (actA c (headI (kids p (i : Int)))) := fun h => actA_at (hho (by simpa using h)).2
             refine rg [6] ?_
             intro k hk; simp +contextual -dsimp (maxSteps := 2000000) [go_sem, -decide_eq_true_eq, -decide_eq_false_iff_not, hx, haa, hdd, hhd, hha]
             repeat' first | apply And.intro | (refine Chk.keys ?_; simp only [go_sem, List.map_cons, List.map_nil, List.flatMap_cons, List.flatMap_nil, List.flatMap_append, List.append_nil, List.nil_append, List.cons_append]; decide +kernel) | refine hk _ ?_ | (intro hg; try simp only [decide_eq_true_eq, decide_eq_false_iff_not] at hg) | omega | exact True.intro | (refine And.elim (fun h8 h9 => ?_) (hho ?_) <;> first | assumption | omega) | fail
             all_goals clear hk k
             all_goals (
              refine rt ?_
              rw [wrong9_at hx]
              simp [go_sem, Tryz.results150] at * <;> grind))
           ·intro hc; try simp at hc
            all_goals try (exfalso; omega; done)
            all_goals (
             refine rg [11,73,123] ?_
             intro k hk; simp -dsimp [go_sem, -decide_eq_true_eq, -decide_eq_false_iff_not, hx, haa, hdd]
             repeat' first | apply And.intro | refine hk _ ?_ | intro hg | omega | exact True.intro | (refine And.elim (fun h8 h9 => ?_) (hho ?_) <;> first | assumption | omega) | fail
             all_goals clear hk k
             refine AW.cond rfl ?_ ?_
             ·intro hc; try simp at hc
              all_goals try (exfalso; omega; done)
              all_goals (
               refine rg [6] ?_
               intro k hk; simp -dsimp [go_sem, -decide_eq_true_eq, -decide_eq_false_iff_not, hx, haa, hdd]
               repeat' first | apply And.intro | refine hk _ ?_ | intro hg | omega | exact True.intro | (refine And.elim (fun h8 h9 => ?_) (hho ?_) <;> first | assumption | omega) | fail
               all_goals clear hk k
               refine rt ?_
               rw [wrong9_at hx]
               simp [go_sem, Tryz.results150] at * <;> grind)
             ·intro hc; try simp at hc
              all_goals try (exfalso; omega; done)
              all_goals (
               refine rg [11,127] ?_
               intro k hk; simp -dsimp [go_sem, -decide_eq_true_eq, -decide_eq_false_iff_not, hx, haa, hdd]
               repeat' first | apply And.intro | refine hk _ ?_ | intro hg | omega | exact True.intro | (refine And.elim (fun h8 h9 => ?_) (hho ?_) <;> first | assumption | omega) | fail
               all_goals clear hk k
               refine AW.cond rfl ?_ ?_
               ·intro hc; try simp at hc
                all_goals try (exfalso; omega; done)
                all_goals (
                 refine rg [6] ?_
                 intro k hk; simp -dsimp [go_sem, -decide_eq_true_eq, -decide_eq_false_iff_not, hx, haa, hdd]
                 repeat' first | apply And.intro | refine hk _ ?_ | intro hg | omega | exact True.intro | (refine And.elim (fun h8 h9 => ?_) (hho ?_) <;> first | assumption | omega) | fail
                 all_goals clear hk k
                 refine rt ?_
                 rw [wrong9_at hx]
                 simp [go_sem, Tryz.results150] at * <;> grind)
               ·intro hc; try simp at hc
                all_goals try (exfalso; omega; done)
                all_goals (
                 refine AW.skipN (fun _ h => h) ?_
                 refine rg [6] ?_
                 intro k hk; simp -dsimp [go_sem, -decide_eq_true_eq, -decide_eq_false_iff_not, hx, haa, hdd]
                 repeat' first | apply And.intro | refine hk _ ?_ | intro hg | omega | exact True.intro | (refine And.elim (fun h8 h9 => ?_) (hho ?_) <;> first | assumption | omega) | fail
                 all_goals clear hk k
                 refine rt ?_
                 rw [wrong9_at hx]
                 simp [go_sem, Tryz.results150] at * <;> grind))))))))

end Go.AM

/-! ### H5 -/
set_option linter.unusedVariables false
set_option linter.unusedSimpArgs false
set_option maxHeartbeats 600000
set_option maxRecDepth 100000
namespace Go.AM
open Go.Proofs

/-- spec.l9Fault -/
theorem dc_spec_l9Fault (p : List TStep) (c : TChart) (hp : p.length ≤ 9223372036854775807) (hg : ∀ e ∈ p, e.gok) (hc0 : c.gok) : DC Tryz.prog 127 [.isl 6 (p.map TStep.ro), .ip c.ro] (.int .i64 (chartF p c)) [] := by
 obtain ⟨g0, g1, g2⟩ := hc0
 refine DC.intro tiOk Tryz.func127 rfl rfl rfl rfl rfl rfl rfl rfl [] ?_
 refine rg [0,1] ?_
 intro k hk; simp -dsimp [go_sem, -decide_eq_true_eq, -decide_eq_false_iff_not]
 repeat' first | apply And.intro | refine hk _ ?_ | intro hg | omega | exact True.intro
 all_goals clear hk k
 refine AW.seq ?_
 refine rg [0,1,5] ?_
 intro k hk; simp -dsimp (maxSteps := 2000000) [go_sem, -decide_eq_true_eq, -decide_eq_false_iff_not]
 repeat' first | apply And.intro | refine hk _ ?_ | intro hg | (refine CallK.intro (dc_spec_l4Fault p hp hg) ?_; simp -dsimp (maxSteps := 2000000) [go_sem, -decide_eq_true_eq, -decide_eq_false_iff_not]) | omega | exact True.intro
 all_goals clear hk k
 refine rg [0,1,5,13] ?_
 intro k hk; simp -dsimp [go_sem, -decide_eq_true_eq, -decide_eq_false_iff_not]
 repeat' first | apply And.intro | refine hk _ ?_ | intro hg | omega | exact True.intro
 all_goals clear hk k
 refine AW.cond rfl ?_ ?_
 ·intro hc; try simp at hc
  all_goals (
   refine rg [4] ?_
   intro k hk; simp -dsimp [go_sem, -decide_eq_true_eq, -decide_eq_false_iff_not]
   repeat' first | apply And.intro | refine hk _ ?_ | intro hg | omega | exact True.intro
   all_goals clear hk k
   refine rt ?_
   first | (rw [chartF_2 h0, if_neg hs, if_neg (by simp [hst]), if_neg (fun h8 => by have h9 := someWrong_hit hlt (show wrong9 p c (i : Int) = true by first | assumption | simpa using hc); rw [h8.2] at h9; cases h9)]; simp [go_sem, Tryz.results127]; done) | (have hie2 : i = p.length := (by omega); rw [hie2] at hwr; rw [chartF_2 h0, if_neg hs, if_neg (by simp [hst]), if_pos ⟨hon, hwr⟩]; simp [go_sem, Tryz.results127]; done) | (rw [chartF_2 h0, if_neg hs, if_neg (by simp [hst]), if_neg (fun h8 => absurd h8.1 (by first | assumption | simpa using hc))]; simp [go_sem, Tryz.results127]; done) | (rw [chartF_2 h0, if_neg hs, if_pos (by assumption), if_pos (hz.1 (by first | assumption | simpa using hc))]; simp [go_sem, Tryz.results127]; done) | (rw [chartF_2 h0, if_neg hs, if_pos (by assumption), if_neg (fun h8 => by have h9 := hz.2 h8; simp_all)]; simp [go_sem, Tryz.results127]; done) | (rw [chartF_2 h0, if_pos (by have h9 := @smallB_miss c.acts 2 i (by omega); have h8 := @smallB_miss c.dues (c.now + 99) i (by omega); rw [← actA_nat] at h9; rw [← dueA_nat] at h8; grind)]; simp [go_sem, Tryz.results127]; done) | (simp [go_sem, Tryz.results127]; unfold chartF; grind))
 ·intro hc; try simp at hc
  all_goals (
   refine AW.skipN (fun _ h => h) ?_
   refine AW.seq ?_
   refine AW.cut ⟨130, [(0, .isl 6 (p.map TStep.ro)), (1, .ip c.ro), (28, .bool (decide (inR c.status 1 3 = false ∨ inR c.now 0 1000000 = false)))], []⟩ ?_ ?_
   ·skip
    refine rgK ?_
    intro k hk; simp +contextual -dsimp (maxSteps := 2000000) [go_sem, -decide_eq_true_eq, -decide_eq_false_iff_not]
    repeat' first | apply And.intro | refine hk _ ?_ | (intro hg; try simp only [decide_eq_true_eq, decide_eq_false_iff_not] at hg) | ((first | refine CallK.intro (dc_spec_l1In _ _ _) ?_ | refine CallK.intro (dc_spec_l8Time _) ?_); simp +contextual -dsimp (maxSteps := 2000000) [go_sem, -decide_eq_true_eq, -decide_eq_false_iff_not]) | omega | exact True.intro
    all_goals clear hk k
    all_goals (show St.Less _ _; exact Less.of rfl (by simp [go_sem] <;> first | omega | grind) (by simp [go_sem]))
   ·skip
    refine AW.cond rfl ?_ ?_
    ·intro hc; try simp at hc
     all_goals (
      refine rg [4] ?_
      intro k hk; simp -dsimp [go_sem, -decide_eq_true_eq, -decide_eq_false_iff_not]
      repeat' first | apply And.intro | refine hk _ ?_ | intro hg | omega | exact True.intro
      all_goals clear hk k
      refine rt ?_
      first | (rw [chartF_2 h0, if_neg hs, if_neg (by simp [hst]), if_neg (fun h8 => by have h9 := someWrong_hit hlt (show wrong9 p c (i : Int) = true by first | assumption | simpa using hc); rw [h8.2] at h9; cases h9)]; simp [go_sem, Tryz.results127]; done) | (have hie2 : i = p.length := (by omega); rw [hie2] at hwr; rw [chartF_2 h0, if_neg hs, if_neg (by simp [hst]), if_pos ⟨hon, hwr⟩]; simp [go_sem, Tryz.results127]; done) | (rw [chartF_2 h0, if_neg hs, if_neg (by simp [hst]), if_neg (fun h8 => absurd h8.1 (by first | assumption | simpa using hc))]; simp [go_sem, Tryz.results127]; done) | (rw [chartF_2 h0, if_neg hs, if_pos (by assumption), if_pos (hz.1 (by first | assumption | simpa using hc))]; simp [go_sem, Tryz.results127]; done) | (rw [chartF_2 h0, if_neg hs, if_pos (by assumption), if_neg (fun h8 => by have h9 := hz.2 h8; simp_all)]; simp [go_sem, Tryz.results127]; done) | (rw [chartF_2 h0, if_pos (by have h9 := @smallB_miss c.acts 2 i (by omega); have h8 := @smallB_miss c.dues (c.now + 99) i (by omega); rw [← actA_nat] at h9; rw [← dueA_nat] at h8; grind)]; simp [go_sem, Tryz.results127]; done) | (simp [go_sem, Tryz.results127]; unfold chartF; grind))
    ·intro hc; try simp at hc
     all_goals (
      refine AW.skipN (fun _ h => h) ?_
      refine AW.seq ?_
      have q2 : ¬ (inR c.status 1 3 = false ∨ inR c.now 0 1000000 = false) := by first | assumption | simpa using hc
      refine rg [0,1,6] ?_
      intro k hk; simp -dsimp (maxSteps := 2000000) [go_sem, -decide_eq_true_eq, -decide_eq_false_iff_not]
      repeat' first | apply And.intro | refine hk _ ?_ | intro hg | (refine CallK.intro (dc_spec_VarsFault c.vars g0) ?_; simp -dsimp (maxSteps := 2000000) [go_sem, -decide_eq_true_eq, -decide_eq_false_iff_not]) | omega | exact True.intro
      all_goals clear hk k
      refine rg [0,1,6,35] ?_
      intro k hk; simp -dsimp [go_sem, -decide_eq_true_eq, -decide_eq_false_iff_not]
      repeat' first | apply And.intro | refine hk _ ?_ | intro hg | omega | exact True.intro
      all_goals clear hk k
      refine AW.cond rfl ?_ ?_
      ·intro hc; try simp at hc
       all_goals (
        refine rg [4] ?_
        intro k hk; simp -dsimp [go_sem, -decide_eq_true_eq, -decide_eq_false_iff_not]
        repeat' first | apply And.intro | refine hk _ ?_ | intro hg | omega | exact True.intro
        all_goals clear hk k
        refine rt ?_
        first | (rw [chartF_2 h0, if_neg hs, if_neg (by simp [hst]), if_neg (fun h8 => by have h9 := someWrong_hit hlt (show wrong9 p c (i : Int) = true by first | assumption | simpa using hc); rw [h8.2] at h9; cases h9)]; simp [go_sem, Tryz.results127]; done) | (have hie2 : i = p.length := (by omega); rw [hie2] at hwr; rw [chartF_2 h0, if_neg hs, if_neg (by simp [hst]), if_pos ⟨hon, hwr⟩]; simp [go_sem, Tryz.results127]; done) | (rw [chartF_2 h0, if_neg hs, if_neg (by simp [hst]), if_neg (fun h8 => absurd h8.1 (by first | assumption | simpa using hc))]; simp [go_sem, Tryz.results127]; done) | (rw [chartF_2 h0, if_neg hs, if_pos (by assumption), if_pos (hz.1 (by first | assumption | simpa using hc))]; simp [go_sem, Tryz.results127]; done) | (rw [chartF_2 h0, if_neg hs, if_pos (by assumption), if_neg (fun h8 => by have h9 := hz.2 h8; simp_all)]; simp [go_sem, Tryz.results127]; done) | (rw [chartF_2 h0, if_pos (by have h9 := @smallB_miss c.acts 2 i (by omega); have h8 := @smallB_miss c.dues (c.now + 99) i (by omega); rw [← actA_nat] at h9; rw [← dueA_nat] at h8; grind)]; simp [go_sem, Tryz.results127]; done) | (simp [go_sem, Tryz.results127]; unfold chartF; grind))
      ·intro hc; try simp at hc
       all_goals (
        refine AW.skipN (fun _ h => h) ?_
        refine AW.seq ?_
        refine AW.cut ⟨130, [(0, .isl 6 (p.map TStep.ro)), (1, .ip c.ro), (54, .bool (decide (c.acts.length ≠ p.length ∨ c.dues.length ≠ p.length)))], []⟩ ?_ ?_
        ·skip
         refine rgK ?_
         intro k hk; simp +contextual -dsimp (maxSteps := 2000000) [go_sem, -decide_eq_true_eq, -decide_eq_false_iff_not]
         repeat' first | apply And.intro | refine hk _ ?_ | (intro hg; try simp only [decide_eq_true_eq, decide_eq_false_iff_not] at hg) | omega | exact True.intro
         all_goals clear hk k
         all_goals (show St.Less _ _; exact Less.of rfl (by simp [go_sem] <;> first | omega | grind) (by simp [go_sem]))
        ·skip
         refine AW.cond rfl ?_ ?_
         ·intro hc; try simp at hc
          all_goals (
           refine rg [4] ?_
           intro k hk; simp -dsimp [go_sem, -decide_eq_true_eq, -decide_eq_false_iff_not]
           repeat' first | apply And.intro | refine hk _ ?_ | intro hg | omega | exact True.intro
           all_goals clear hk k
           refine rt ?_
           first | (rw [chartF_2 h0, if_neg hs, if_neg (by simp [hst]), if_neg (fun h8 => by have h9 := someWrong_hit hlt (show wrong9 p c (i : Int) = true by first | assumption | simpa using hc); rw [h8.2] at h9; cases h9)]; simp [go_sem, Tryz.results127]; done) | (have hie2 : i = p.length := (by omega); rw [hie2] at hwr; rw [chartF_2 h0, if_neg hs, if_neg (by simp [hst]), if_pos ⟨hon, hwr⟩]; simp [go_sem, Tryz.results127]; done) | (rw [chartF_2 h0, if_neg hs, if_neg (by simp [hst]), if_neg (fun h8 => absurd h8.1 (by first | assumption | simpa using hc))]; simp [go_sem, Tryz.results127]; done) | (rw [chartF_2 h0, if_neg hs, if_pos (by assumption), if_pos (hz.1 (by first | assumption | simpa using hc))]; simp [go_sem, Tryz.results127]; done) | (rw [chartF_2 h0, if_neg hs, if_pos (by assumption), if_neg (fun h8 => by have h9 := hz.2 h8; simp_all)]; simp [go_sem, Tryz.results127]; done) | (rw [chartF_2 h0, if_pos (by have h9 := @smallB_miss c.acts 2 i (by omega); have h8 := @smallB_miss c.dues (c.now + 99) i (by omega); rw [← actA_nat] at h9; rw [← dueA_nat] at h8; grind)]; simp [go_sem, Tryz.results127]; done) | (simp [go_sem, Tryz.results127]; unfold chartF; grind))
         ·intro hc; try simp at hc
          all_goals (
           refine AW.skipN (fun _ h => h) ?_
           have q1 : procF p = 0 := by assumption
           have q3 : varsF c.vars = 0 := by assumption
           have q4 : ¬ (c.acts.length ≠ p.length ∨ c.dues.length ≠ p.length) := by first | assumption | simpa using hc
           have h0 : chart1 p c = 0 := by rw [chart1, if_neg (by simp [q1]), if_neg q2, if_neg (by simp [q3]), if_neg q4]
           obtain ⟨k1, k2, k3, k4, k5, k6⟩ := chart1_ok h0
           have ho := (procOk k1).steps
           have hlen := ho.len
           have k3' := inR_iff.1 k3
           have hwn : IntKind.wrap .i64 (c.now + 99) = c.now + 99 := wrap64 (by omega) (by omega)
           refine rg [0,1,7] ?_
           intro k hk; simp -dsimp [go_sem, -decide_eq_true_eq, -decide_eq_false_iff_not]
           repeat' first | apply And.intro | refine hk _ ?_ | intro hg | omega | exact True.intro
           all_goals clear hk k
           refine AW.seq ?_
           refine rg [0,1,7,8] ?_
           intro k hk; simp -dsimp [go_sem, -decide_eq_true_eq, -decide_eq_false_iff_not]
           repeat' first | apply And.intro | refine hk _ ?_ | intro hg | omega | exact True.intro
           all_goals clear hk k
           refine AW.block ?_
           refine AW.loopI (fun i : Nat => ⟨130, [(0, .isl 6 (p.map TStep.ro)), (1, .ip c.ro), (7, .bool (someNZ c i)), (8, .int .i64 i)], []⟩) (fun i => i ≤ p.length ∧ ∀ k : Nat, k < i → inR (actA c k) 0 2 = true ∧ inR (dueA c k) 0 (c.now + 99) = true) (fun i => p.length - i) (0) (by simp) (Less.of rfl (by simp [go_sem, someNZ]) (by simp [go_sem])) ?_
           rintro i ⟨hi, hall⟩
           refine AW.seq ?_
           refine rg [0,1,7,8,58] ?_
           intro k hk; simp -dsimp [go_sem, -decide_eq_true_eq, -decide_eq_false_iff_not]
           repeat' first | apply And.intro | refine hk _ ?_ | intro hg | omega | exact True.intro
           all_goals clear hk k
           refine AW.cond rfl ?_ ?_
           ·intro hc; try simp at hc
            all_goals (
             have hlt : i < p.length := by assumption
             have haa := actN_at (c := c) (show i < c.acts.length by omega)
             have hdd := dueN_at (c := c) (show i < c.dues.length by omega)
             have hnz := someNZ_step c i
             refine AW.skipN (fun _ h => h) ?_
             refine AW.seq ?_
             refine AW.block ?_
             refine AW.seq ?_
             refine AW.cut ⟨130, [(0, .isl 6 (p.map TStep.ro)), (1, .ip c.ro), (7, .bool (someNZ c i)), (8, .int .i64 i), (85, .bool (decide (inR (actA c i) 0 2 = false ∨ inR (dueA c i) 0 (c.now + 99) = false)))], []⟩ ?_ ?_
             ·skip
              refine rgK ?_
              intro k hk; simp +contextual -dsimp (maxSteps := 2000000) [go_sem, -decide_eq_true_eq, -decide_eq_false_iff_not, haa, hdd, hwn]
              repeat' first | apply And.intro | (refine Chk.keys ?_; simp only [go_sem, List.map_cons, List.map_nil, List.flatMap_cons, List.flatMap_nil, List.flatMap_append, List.append_nil, List.nil_append, List.cons_append]; decide +kernel) | refine hk _ ?_ | (intro hg; try simp only [decide_eq_true_eq, decide_eq_false_iff_not] at hg) | (refine CallK.intro (dc_spec_l1In _ _ _) ?_; simp +contextual -dsimp (maxSteps := 2000000) [go_sem, -decide_eq_true_eq, -decide_eq_false_iff_not, haa, hdd, hwn]) | omega | exact True.intro
              all_goals clear hk k
              all_goals (show St.Less _ _; exact Less.of rfl (by simp [go_sem] <;> first | omega | grind) (by simp [go_sem]))
             ·skip
              refine AW.cond rfl ?_ ?_
              ·intro hc; try simp at hc
               all_goals (
                refine rg [4] ?_
                intro k hk; simp -dsimp [go_sem, -decide_eq_true_eq, -decide_eq_false_iff_not, haa, hdd]
                repeat' first | apply And.intro | refine hk _ ?_ | intro hg | omega | exact True.intro
                all_goals clear hk k
                refine rt ?_
                first | (rw [chartF_2 h0, if_neg hs, if_neg (by simp [hst]), if_neg (fun h8 => by have h9 := someWrong_hit hlt (show wrong9 p c (i : Int) = true by first | assumption | simpa using hc); rw [h8.2] at h9; cases h9)]; simp [go_sem, Tryz.results127]; done) | (have hie2 : i = p.length := (by omega); rw [hie2] at hwr; rw [chartF_2 h0, if_neg hs, if_neg (by simp [hst]), if_pos ⟨hon, hwr⟩]; simp [go_sem, Tryz.results127]; done) | (rw [chartF_2 h0, if_neg hs, if_neg (by simp [hst]), if_neg (fun h8 => absurd h8.1 (by first | assumption | simpa using hc))]; simp [go_sem, Tryz.results127]; done) | (rw [chartF_2 h0, if_neg hs, if_pos (by assumption), if_pos (hz.1 (by first | assumption | simpa using hc))]; simp [go_sem, Tryz.results127]; done) | (rw [chartF_2 h0, if_neg hs, if_pos (by assumption), if_neg (fun h8 => by have h9 := hz.2 h8; simp_all)]; simp [go_sem, Tryz.results127]; done) | (rw [chartF_2 h0, if_pos (by have h9 := @smallB_miss c.acts 2 i (by omega); have h8 := @smallB_miss c.dues (c.now + 99) i (by omega); rw [← actA_nat] at h9; rw [← dueA_nat] at h8; grind)]; simp [go_sem, Tryz.results127]; done) | (simp [go_sem, Tryz.results127]; unfold chartF; grind))
              ·intro hc; try simp at hc
               all_goals (
                refine AW.skipN (fun _ h => h) ?_
                refine rgN [0,1,7,8] (fun _ h => h) ?_
                intro k hk; simp +contextual -dsimp (maxSteps := 2000000) [go_sem, -decide_eq_true_eq, -decide_eq_false_iff_not, haa, hdd]
                repeat' first | apply And.intro | refine hk _ ?_ | (intro hg; try simp only [decide_eq_true_eq, decide_eq_false_iff_not] at hg) | omega | exact True.intro
                all_goals clear hk k
                all_goals (
                 refine rgK ?_
                 intro k hk; simp -dsimp [go_sem, -decide_eq_true_eq, -decide_eq_false_iff_not, haa, hdd]
                 repeat' first | apply And.intro | refine hk _ ?_ | intro hg | omega | exact True.intro
                 all_goals clear hk k
                 show ∃ _, _
                 have hw := wrapi hlt (by omega)
                 have hb2 : inR (actA c i) 0 2 = true ∧ inR (dueA c i) 0 (c.now + 99) = true := by grind
                 refine ⟨i + 1, ⟨by omega, ?_⟩, by omega, Less.of rfl (by simp [go_sem, hw, hnz] <;> grind) (by simp [go_sem])⟩
                 intro k hk; rcases Nat.eq_or_lt_of_le (Nat.le_of_lt_succ hk) with h9 | h9; (subst h9; exact hb2); exact hall k h9)))
           ·intro hc; try simp at hc
            all_goals (
             refine AW.exitN (fun _ h => h) ?_
             refine AW.seq ?_
             have hie : i = p.length := by omega
             rw [hie] at hall
             rw [hie]
             have hs : ¬ (smallB c.acts 2 = false ∨ smallB c.dues (c.now + 99) = false) := by have e1 : smallB c.acts 2 = true := smallB_iff.2 (fun k hk => by rw [← actA_nat]; exact (hall k (by omega)).1); have e2 : smallB c.dues (c.now + 99) = true := smallB_iff.2 (fun k hk => by rw [← dueA_nat]; exact (hall k (by omega)).2); rw [e1, e2]; simp
             have hz := someNZ_zeros k5 k6
             refine rg [0,1,7,111] ?_
             intro k hk; simp -dsimp [go_sem, -decide_eq_true_eq, -decide_eq_false_iff_not]
             repeat' first | apply And.intro | refine hk _ ?_ | intro hg | omega | exact True.intro
             all_goals clear hk k
             refine AW.cond rfl ?_ ?_
             ·intro hc; try simp at hc
              all_goals (
               refine AW.seq ?_
               refine rg [112] ?_
               intro k hk; simp -dsimp [go_sem, -decide_eq_true_eq, -decide_eq_false_iff_not]
               repeat' first | apply And.intro | refine hk _ ?_ | intro hg | omega | exact True.intro
               all_goals clear hk k
               refine AW.cond rfl ?_ ?_
               ·intro hc; try simp at hc
                all_goals (
                 refine rg [4] ?_
                 intro k hk; simp -dsimp [go_sem, -decide_eq_true_eq, -decide_eq_false_iff_not]
                 repeat' first | apply And.intro | refine hk _ ?_ | intro hg | omega | exact True.intro
                 all_goals clear hk k
                 refine rt ?_
                 first | (rw [chartF_2 h0, if_neg hs, if_neg (by simp [hst]), if_neg (fun h8 => by have h9 := someWrong_hit hlt (show wrong9 p c (i : Int) = true by first | assumption | simpa using hc); rw [h8.2] at h9; cases h9)]; simp [go_sem, Tryz.results127]; done) | (have hie2 : i = p.length := (by omega); rw [hie2] at hwr; rw [chartF_2 h0, if_neg hs, if_neg (by simp [hst]), if_pos ⟨hon, hwr⟩]; simp [go_sem, Tryz.results127]; done) | (rw [chartF_2 h0, if_neg hs, if_neg (by simp [hst]), if_neg (fun h8 => absurd h8.1 (by first | assumption | simpa using hc))]; simp [go_sem, Tryz.results127]; done) | (rw [chartF_2 h0, if_neg hs, if_pos (by assumption), if_pos (hz.1 (by first | assumption | simpa using hc))]; simp [go_sem, Tryz.results127]; done) | (rw [chartF_2 h0, if_neg hs, if_pos (by assumption), if_neg (fun h8 => by have h9 := hz.2 h8; simp_all)]; simp [go_sem, Tryz.results127]; done) | (rw [chartF_2 h0, if_pos (by have h9 := @smallB_miss c.acts 2 i (by omega); have h8 := @smallB_miss c.dues (c.now + 99) i (by omega); rw [← actA_nat] at h9; rw [← dueA_nat] at h8; grind)]; simp [go_sem, Tryz.results127]; done) | (simp [go_sem, Tryz.results127]; unfold chartF; grind))
               ·intro hc; try simp at hc
                all_goals (
                 refine AW.skipN (fun _ h => h) ?_
                 refine rg [4] ?_
                 intro k hk; simp -dsimp [go_sem, -decide_eq_true_eq, -decide_eq_false_iff_not]
                 repeat' first | apply And.intro | refine hk _ ?_ | intro hg | omega | exact True.intro
                 all_goals clear hk k
                 refine rt ?_
                 first | (rw [chartF_2 h0, if_neg hs, if_neg (by simp [hst]), if_neg (fun h8 => by have h9 := someWrong_hit hlt (show wrong9 p c (i : Int) = true by first | assumption | simpa using hc); rw [h8.2] at h9; cases h9)]; simp [go_sem, Tryz.results127]; done) | (have hie2 : i = p.length := (by omega); rw [hie2] at hwr; rw [chartF_2 h0, if_neg hs, if_neg (by simp [hst]), if_pos ⟨hon, hwr⟩]; simp [go_sem, Tryz.results127]; done) | (rw [chartF_2 h0, if_neg hs, if_neg (by simp [hst]), if_neg (fun h8 => absurd h8.1 (by first | assumption | simpa using hc))]; simp [go_sem, Tryz.results127]; done) | (rw [chartF_2 h0, if_neg hs, if_pos (by assumption), if_pos (hz.1 (by first | assumption | simpa using hc))]; simp [go_sem, Tryz.results127]; done) | (rw [chartF_2 h0, if_neg hs, if_pos (by assumption), if_neg (fun h8 => by have h9 := hz.2 h8; simp_all)]; simp [go_sem, Tryz.results127]; done) | (rw [chartF_2 h0, if_pos (by have h9 := @smallB_miss c.acts 2 i (by omega); have h8 := @smallB_miss c.dues (c.now + 99) i (by omega); rw [← actA_nat] at h9; rw [← dueA_nat] at h8; grind)]; simp [go_sem, Tryz.results127]; done) | (simp [go_sem, Tryz.results127]; unfold chartF; grind)))
             ·intro hc; try simp at hc
              all_goals (
               refine AW.skipN (fun _ h => h) ?_
               refine AW.seq ?_
               have hst : c.status = 1 := by first | assumption | simpa using hc
               have ha0 := actN_at (c := c) (k := 0) (by omega)
               refine rg [0,1,119] ?_
               intro k hk; simp -dsimp (maxSteps := 2000000) [go_sem, -decide_eq_true_eq, -decide_eq_false_iff_not, ha0]
               repeat' first | apply And.intro | refine hk _ ?_ | intro hg | omega | exact True.intro
               all_goals clear hk k
               refine AW.cond rfl ?_ ?_
               ·intro hc; try simp at hc
                all_goals (
                 refine rg [4] ?_
                 intro k hk; simp -dsimp [go_sem, -decide_eq_true_eq, -decide_eq_false_iff_not]
                 repeat' first | apply And.intro | refine hk _ ?_ | intro hg | omega | exact True.intro
                 all_goals clear hk k
                 refine rt ?_
                 first | (rw [chartF_2 h0, if_neg hs, if_neg (by simp [hst]), if_neg (fun h8 => by have h9 := someWrong_hit hlt (show wrong9 p c (i : Int) = true by first | assumption | simpa using hc); rw [h8.2] at h9; cases h9)]; simp [go_sem, Tryz.results127]; done) | (have hie2 : i = p.length := (by omega); rw [hie2] at hwr; rw [chartF_2 h0, if_neg hs, if_neg (by simp [hst]), if_pos ⟨hon, hwr⟩]; simp [go_sem, Tryz.results127]; done) | (rw [chartF_2 h0, if_neg hs, if_neg (by simp [hst]), if_neg (fun h8 => absurd h8.1 (by first | assumption | simpa using hc))]; simp [go_sem, Tryz.results127]; done) | (rw [chartF_2 h0, if_neg hs, if_pos (by assumption), if_pos (hz.1 (by first | assumption | simpa using hc))]; simp [go_sem, Tryz.results127]; done) | (rw [chartF_2 h0, if_neg hs, if_pos (by assumption), if_neg (fun h8 => by have h9 := hz.2 h8; simp_all)]; simp [go_sem, Tryz.results127]; done) | (rw [chartF_2 h0, if_pos (by have h9 := @smallB_miss c.acts 2 i (by omega); have h8 := @smallB_miss c.dues (c.now + 99) i (by omega); rw [← actA_nat] at h9; rw [← dueA_nat] at h8; grind)]; simp [go_sem, Tryz.results127]; done) | (simp [go_sem, Tryz.results127]; unfold chartF; grind))
               ·intro hc; try simp at hc
                all_goals (
                 refine AW.skipN (fun _ h => h) ?_
                 refine AW.seq ?_
                 have hon : actA c 0 = 1 := by first | assumption | simpa using hc
                 refine rg [0,1,9] ?_
                 intro k hk; simp -dsimp [go_sem, -decide_eq_true_eq, -decide_eq_false_iff_not]
                 repeat' first | apply And.intro | refine hk _ ?_ | intro hg | omega | exact True.intro
                 all_goals clear hk k
                 refine AW.block ?_
                 refine AW.loopI (fun i : Nat => ⟨130, [(0, .isl 6 (p.map TStep.ro)), (1, .ip c.ro), (9, .int .i64 i)], []⟩) (fun i => i ≤ p.length ∧ someWrong p c i = false) (fun i => p.length - i) (0) (by simp [someWrong]) (Less.of rfl (by simp [go_sem]) (by simp [go_sem])) ?_
                 rintro i ⟨hi, hwr⟩
                 refine AW.seq ?_
                 refine rg [0,1,9,123] ?_
                 intro k hk; simp -dsimp [go_sem, -decide_eq_true_eq, -decide_eq_false_iff_not]
                 repeat' first | apply And.intro | refine hk _ ?_ | intro hg | omega | exact True.intro
                 all_goals clear hk k
                 refine AW.cond rfl ?_ ?_
                 ·intro hc; try simp at hc
                  all_goals (
                   have hlt : i < p.length := by assumption
                   refine AW.skipN (fun _ h => h) ?_
                   refine AW.seq ?_
                   refine AW.block ?_
                   refine rg [0,1,9,129] ?_
                   intro k hk; simp -dsimp (maxSteps := 2000000) [go_sem, -decide_eq_true_eq, -decide_eq_false_iff_not]
                   repeat' first | apply And.intro | refine hk _ ?_ | intro hg | (refine CallK.intro (dc_spec_l9Wrong p c ho k5 k6 i hlt) ?_; simp -dsimp (maxSteps := 2000000) [go_sem, -decide_eq_true_eq, -decide_eq_false_iff_not]) | omega | exact True.intro
                   all_goals clear hk k
                   refine AW.cond rfl ?_ ?_
                   ·intro hc; try simp at hc
                    all_goals (
                     refine rg [4] ?_
                     intro k hk; simp -dsimp [go_sem, -decide_eq_true_eq, -decide_eq_false_iff_not]
                     repeat' first | apply And.intro | refine hk _ ?_ | intro hg | omega | exact True.intro
                     all_goals clear hk k
                     refine rt ?_
                     first | (rw [chartF_2 h0, if_neg hs, if_neg (by simp [hst]), if_neg (fun h8 => by have h9 := someWrong_hit hlt (show wrong9 p c (i : Int) = true by first | assumption | simpa using hc); rw [h8.2] at h9; cases h9)]; simp [go_sem, Tryz.results127]; done) | (have hie2 : i = p.length := (by omega); rw [hie2] at hwr; rw [chartF_2 h0, if_neg hs, if_neg (by simp [hst]), if_pos ⟨hon, hwr⟩]; simp [go_sem, Tryz.results127]; done) | (rw [chartF_2 h0, if_neg hs, if_neg (by simp [hst]), if_neg (fun h8 => absurd h8.1 (by first | assumption | simpa using hc))]; simp [go_sem, Tryz.results127]; done) | (rw [chartF_2 h0, if_neg hs, if_pos (by assumption), if_pos (hz.1 (by first | assumption | simpa using hc))]; simp [go_sem, Tryz.results127]; done) | (rw [chartF_2 h0, if_neg hs, if_pos (by assumption), if_neg (fun h8 => by have h9 := hz.2 h8; simp_all)]; simp [go_sem, Tryz.results127]; done) | (rw [chartF_2 h0, if_pos (by have h9 := @smallB_miss c.acts 2 i (by omega); have h8 := @smallB_miss c.dues (c.now + 99) i (by omega); rw [← actA_nat] at h9; rw [← dueA_nat] at h8; grind)]; simp [go_sem, Tryz.results127]; done) | (simp [go_sem, Tryz.results127]; unfold chartF; grind))
                   ·intro hc; try simp at hc
                    all_goals (
                     refine AW.skipN (fun _ h => h) ?_
                     refine rgK ?_
                     intro k hk; simp -dsimp [go_sem, -decide_eq_true_eq, -decide_eq_false_iff_not]
                     repeat' first | apply And.intro | refine hk _ ?_ | intro hg | omega | exact True.intro
                     all_goals clear hk k
                     show ∃ _, _
                     have hw := wrapi hlt (by omega)
                     have hb2 : wrong9 p c (i : Int) = false := by first | assumption | simpa using hc
                     refine ⟨i + 1, ⟨by omega, by rw [someWrong_step, hwr, hb2]; rfl⟩, by omega, Less.of rfl (by simp [go_sem, hw]) (by simp [go_sem])⟩))
                 ·intro hc; try simp at hc
                  all_goals (
                   refine AW.exitN (fun _ h => h) ?_
                   refine rg [4] ?_
                   intro k hk; simp -dsimp [go_sem, -decide_eq_true_eq, -decide_eq_false_iff_not]
                   repeat' first | apply And.intro | refine hk _ ?_ | intro hg | omega | exact True.intro
                   all_goals clear hk k
                   refine rt ?_
                   first | (rw [chartF_2 h0, if_neg hs, if_neg (by simp [hst]), if_neg (fun h8 => by have h9 := someWrong_hit hlt (show wrong9 p c (i : Int) = true by first | assumption | simpa using hc); rw [h8.2] at h9; cases h9)]; simp [go_sem, Tryz.results127]; done) | (have hie2 : i = p.length := (by omega); rw [hie2] at hwr; rw [chartF_2 h0, if_neg hs, if_neg (by simp [hst]), if_pos ⟨hon, hwr⟩]; simp [go_sem, Tryz.results127]; done) | (rw [chartF_2 h0, if_neg hs, if_neg (by simp [hst]), if_neg (fun h8 => absurd h8.1 (by first | assumption | simpa using hc))]; simp [go_sem, Tryz.results127]; done) | (rw [chartF_2 h0, if_neg hs, if_pos (by assumption), if_pos (hz.1 (by first | assumption | simpa using hc))]; simp [go_sem, Tryz.results127]; done) | (rw [chartF_2 h0, if_neg hs, if_pos (by assumption), if_neg (fun h8 => by have h9 := hz.2 h8; simp_all)]; simp [go_sem, Tryz.results127]; done) | (rw [chartF_2 h0, if_pos (by have h9 := @smallB_miss c.acts 2 i (by omega); have h8 := @smallB_miss c.dues (c.now + 99) i (by omega); rw [← actA_nat] at h9; rw [← dueA_nat] at h8; grind)]; simp [go_sem, Tryz.results127]; done) | (simp [go_sem, Tryz.results127]; unfold chartF; grind)))))))))

end Go.AM

/-! ### K2 -/
set_option linter.unusedVariables false
set_option linter.unusedSimpArgs false
set_option maxHeartbeats 600000
set_option maxRecDepth 100000
namespace Go.AM
open Go.Proofs

/-- spec.l11Procs -/
theorem dc_spec_l11Procs (l : List TProc) (hl : l.length ≤ 9223372036854775807 ∧ ∀ e ∈ l, e.gok) : DC Tryz.prog 83 [.isl 1 (l.map TProc.ro)] (.int .i64 (procsF l)) [] := by
 obtain ⟨hl, hg⟩ := hl
 refine DC.intro tiOk Tryz.func83 rfl rfl rfl rfl rfl rfl rfl rfl [] ?_
 refine rg [0] ?_
 intro k hk; simp -dsimp [go_sem, -decide_eq_true_eq, -decide_eq_false_iff_not]
 repeat' first | apply And.intro | refine hk _ ?_ | intro hg | omega | exact True.intro
 all_goals clear hk k
 refine AW.seq ?_
 refine AW.cut ⟨28, [(0, .isl 1 (l.map TProc.ro)), (12, .bool (decide (l.length < 1 ∨ 3 < l.length)))], []⟩ ?_ ?_
 ·skip
  refine rgK ?_
  intro k hk; simp +contextual -dsimp (maxSteps := 2000000) [go_sem, -decide_eq_true_eq, -decide_eq_false_iff_not]
  repeat' first | apply And.intro | refine hk _ ?_ | (intro hg; try simp only [decide_eq_true_eq, decide_eq_false_iff_not] at hg) | omega | exact True.intro
  all_goals clear hk k
  all_goals (show St.Less _ _; exact Less.of rfl (by simp [go_sem, -Nat.lt_one_iff, -List.length_eq_zero_iff] <;> first | omega | grind) (by simp [go_sem]))
 ·skip
  refine AW.cond rfl ?_ ?_
  ·intro hc; try simp at hc
   all_goals (
    refine rg [2] ?_
    intro k hk; simp -dsimp [go_sem, -decide_eq_true_eq, -decide_eq_false_iff_not]
    repeat' first | apply And.intro | refine hk _ ?_ | intro hg | omega | exact True.intro
    all_goals clear hk k
    refine rt ?_
    first | (rw [procsF_ok hR (fun k hk => hall k (by omega))]; simp [go_sem, Tryz.results83]; done) | (rw [procsF_hit hR hlt hall (by rw [hxp]; first | assumption | simpa using hc), hxp]; simp [go_sem, Tryz.results83]; done) | (rw [procsF_len' (by simpa using hc)]; simp [go_sem, Tryz.results83]))
  ·intro hc; try simp at hc
   all_goals (
    refine AW.skipN (fun _ h => h) ?_
    refine AW.seq ?_
    have hlen : 1 ≤ l.length ∧ l.length ≤ 3 := by obtain ⟨h8, h9⟩ := hc; have : l.length ≠ 0 := (fun h => h8 (List.length_eq_zero_iff.1 h)); omega
    have hR : inR l.length 1 3 = true := inR_iff.2 (by omega)
    refine rg [0,3] ?_
    intro k hk; simp -dsimp [go_sem, -decide_eq_true_eq, -decide_eq_false_iff_not]
    repeat' first | apply And.intro | refine hk _ ?_ | intro hg | omega | exact True.intro
    all_goals clear hk k
    refine AW.block ?_
    refine AW.loopI (fun i : Nat => ⟨28, [(0, .isl 1 (l.map TProc.ro)), (3, .int .i64 i)], []⟩) (fun i => i ≤ l.length ∧ ∀ k, k < i → procAt l k = 0) (fun i => l.length - i) (0) (by simp) (Less.of rfl (by simp [go_sem]) (by simp [go_sem])) ?_
    rintro i ⟨hi, hall⟩
    refine AW.seq ?_
    refine rg [0,3,16] ?_
    intro k hk; simp -dsimp [go_sem, -decide_eq_true_eq, -decide_eq_false_iff_not]
    repeat' first | apply And.intro | refine hk _ ?_ | intro hg | omega | exact True.intro
    all_goals clear hk k
    refine AW.cond rfl ?_ ?_
    ·intro hc; try simp at hc
     all_goals (
      have hlt : i < l.length := by assumption
      obtain ⟨x, hx⟩ := at_some hlt
      have hxp := procAt_at hx
      have gx : x.steps.length ≤ 9223372036854775807 ∧ ∀ e ∈ x.steps, e.gok := hg x (List.mem_of_getElem? hx)
      refine AW.skipN (fun _ h => h) ?_
      refine AW.seq ?_
      refine AW.block ?_
      refine rg [0,3,4] ?_
      intro k hk; simp -dsimp (maxSteps := 2000000) [go_sem, -decide_eq_true_eq, -decide_eq_false_iff_not, hx]
      repeat' first | apply And.intro | refine hk _ ?_ | intro hg | (refine CallK.intro (dc_spec_l4Fault x.steps gx.1 gx.2) ?_; simp -dsimp (maxSteps := 2000000) [go_sem, -decide_eq_true_eq, -decide_eq_false_iff_not, hx]) | omega | exact True.intro
      all_goals clear hk k
      refine rg [0,3,4,26] ?_
      intro k hk; simp -dsimp [go_sem, -decide_eq_true_eq, -decide_eq_false_iff_not, hx]
      repeat' first | apply And.intro | refine hk _ ?_ | intro hg | omega | exact True.intro
      all_goals clear hk k
      refine AW.cond rfl ?_ ?_
      ·intro hc; try simp at hc
       all_goals (
        refine rg [2] ?_
        intro k hk; simp -dsimp [go_sem, -decide_eq_true_eq, -decide_eq_false_iff_not, hx]
        repeat' first | apply And.intro | refine hk _ ?_ | intro hg | omega | exact True.intro
        all_goals clear hk k
        refine rt ?_
        first | (rw [procsF_ok hR (fun k hk => hall k (by omega))]; simp [go_sem, Tryz.results83]; done) | (rw [procsF_hit hR hlt hall (by rw [hxp]; first | assumption | simpa using hc), hxp]; simp [go_sem, Tryz.results83]; done) | (rw [procsF_len' (by simpa using hc)]; simp [go_sem, Tryz.results83]))
      ·intro hc; try simp at hc
       all_goals (
        refine AW.skipN (fun _ h => h) ?_
        refine rgK ?_
        intro k hk; simp -dsimp [go_sem, -decide_eq_true_eq, -decide_eq_false_iff_not, hx]
        repeat' first | apply And.intro | refine hk _ ?_ | intro hg | omega | exact True.intro
        all_goals clear hk k
        show ∃ _, _
        have hw := wrapi hlt (by omega)
        refine ⟨i + 1, ⟨by omega, upto hall (by rw [hxp]; first | assumption | simpa using hc)⟩, by omega, Less.of rfl (by simp [go_sem, hw]) (by simp [go_sem])⟩))
    ·intro hc; try simp at hc
     all_goals (
      refine AW.exitN (fun _ h => h) ?_
      refine rg [2] ?_
      intro k hk; simp -dsimp [go_sem, -decide_eq_true_eq, -decide_eq_false_iff_not]
      repeat' first | apply And.intro | refine hk _ ?_ | intro hg | omega | exact True.intro
      all_goals clear hk k
      refine rt ?_
      first | (rw [procsF_ok hR (fun k hk => hall k (by omega))]; simp [go_sem, Tryz.results83]; done) | (rw [procsF_hit hR hlt hall (by rw [hxp]; first | assumption | simpa using hc), hxp]; simp [go_sem, Tryz.results83]; done) | (rw [procsF_len' (by simpa using hc)]; simp [go_sem, Tryz.results83])))

/-- spec.l11Fault -/
theorem dc_spec_l11Fault (e : TEngine) (hg : e.gok) : DC Tryz.prog 95 [.ip e.ro] (.int .i64 (engF e)) [] := by
 obtain ⟨⟨g0, g1⟩, ⟨g2, g3⟩⟩ := hg
 have hwp : e.procs.length ≤ 3 → IntKind.wrap .i64 ((e.procs.length : Int) - 1) = (e.procs.length : Int) - 1 := fun h => wrap64 (by omega) (by omega)
 refine DC.intro tiOk Tryz.func95 rfl rfl rfl rfl rfl rfl rfl rfl [] ?_
 refine rg [0] ?_
 intro k hk; simp -dsimp [go_sem, -decide_eq_true_eq, -decide_eq_false_iff_not]
 repeat' first | apply And.intro | refine hk _ ?_ | intro hg | omega | exact True.intro
 all_goals clear hk k
 refine AW.seq ?_
 refine rg [0,12] ?_
 intro k hk; simp -dsimp [go_sem, -decide_eq_true_eq, -decide_eq_false_iff_not]
 repeat' first | apply And.intro | refine hk _ ?_ | intro hg | omega | exact True.intro
 all_goals clear hk k
 refine AW.cond rfl ?_ ?_
 ·intro hc; try simp at hc
  all_goals (
   refine rg [2] ?_
   intro k hk; simp -dsimp [go_sem, -decide_eq_true_eq, -decide_eq_false_iff_not]
   repeat' first | apply And.intro | refine hk _ ?_ | intro hg | omega | exact True.intro
   all_goals clear hk k
   refine rt ?_
   first | (rw [engF_ok q1 q2 q3 (fun k hk => hall k (by omega))]; simp [go_sem, Tryz.results95]; done) | (have hv : instF e x = chartF y.steps x.chart := (by rw [instF_eq, hys]; grind); rw [engF_hit q1 q2 q3 hlt hall (by rw [hxi, hv]; first | assumption | simpa using hc), hxi, hv]; simp [go_sem, Tryz.results95]; done) | (have hv : instF e x = 9 := (by rw [instF_eq, hys]; grind); rw [engF_hit q1 q2 q3 hlt hall (by rw [hxi, hv]; decide), hxi, hv]; simp [go_sem, Tryz.results95]; done) | (have hv : instF e x = 3 := (by rw [instF_eq]; grind); rw [engF_hit q1 q2 q3 hlt hall (by rw [hxi, hv]; decide), hxi, hv]; simp [go_sem, Tryz.results95]; done) | (simp [go_sem, Tryz.results95] at *; unfold engF; grind))
 ·intro hc; try simp at hc
  all_goals (
   refine AW.skipN (fun _ h => h) ?_
   refine AW.seq ?_
   refine rg [0,3] ?_
   intro k hk; simp -dsimp (maxSteps := 2000000) [go_sem, -decide_eq_true_eq, -decide_eq_false_iff_not]
   repeat' first | apply And.intro | refine hk _ ?_ | intro hg | (refine CallK.intro (dc_spec_l11Procs e.procs ⟨g0, g1⟩) ?_; simp -dsimp (maxSteps := 2000000) [go_sem, -decide_eq_true_eq, -decide_eq_false_iff_not]) | omega | exact True.intro
   all_goals clear hk k
   refine rg [0,3,19] ?_
   intro k hk; simp -dsimp [go_sem, -decide_eq_true_eq, -decide_eq_false_iff_not]
   repeat' first | apply And.intro | refine hk _ ?_ | intro hg | omega | exact True.intro
   all_goals clear hk k
   refine AW.cond rfl ?_ ?_
   ·intro hc; try simp at hc
    all_goals (
     refine rg [2] ?_
     intro k hk; simp -dsimp [go_sem, -decide_eq_true_eq, -decide_eq_false_iff_not]
     repeat' first | apply And.intro | refine hk _ ?_ | intro hg | omega | exact True.intro
     all_goals clear hk k
     refine rt ?_
     first | (rw [engF_ok q1 q2 q3 (fun k hk => hall k (by omega))]; simp [go_sem, Tryz.results95]; done) | (have hv : instF e x = chartF y.steps x.chart := (by rw [instF_eq, hys]; grind); rw [engF_hit q1 q2 q3 hlt hall (by rw [hxi, hv]; first | assumption | simpa using hc), hxi, hv]; simp [go_sem, Tryz.results95]; done) | (have hv : instF e x = 9 := (by rw [instF_eq, hys]; grind); rw [engF_hit q1 q2 q3 hlt hall (by rw [hxi, hv]; decide), hxi, hv]; simp [go_sem, Tryz.results95]; done) | (have hv : instF e x = 3 := (by rw [instF_eq]; grind); rw [engF_hit q1 q2 q3 hlt hall (by rw [hxi, hv]; decide), hxi, hv]; simp [go_sem, Tryz.results95]; done) | (simp [go_sem, Tryz.results95] at *; unfold engF; grind))
   ·intro hc; try simp at hc
    all_goals (
     refine AW.skipN (fun _ h => h) ?_
     refine AW.seq ?_
     refine rg [0,26] ?_
     intro k hk; simp -dsimp (maxSteps := 2000000) [go_sem, -decide_eq_true_eq, -decide_eq_false_iff_not]
     repeat' first | apply And.intro | refine hk _ ?_ | intro hg | (refine CallK.intro (dc_spec_l8Time _) ?_; simp -dsimp (maxSteps := 2000000) [go_sem, -decide_eq_true_eq, -decide_eq_false_iff_not]) | omega | exact True.intro
     all_goals clear hk k
     refine AW.cond rfl ?_ ?_
     ·intro hc; try simp at hc
      all_goals (
       refine rg [2] ?_
       intro k hk; simp -dsimp [go_sem, -decide_eq_true_eq, -decide_eq_false_iff_not]
       repeat' first | apply And.intro | refine hk _ ?_ | intro hg | omega | exact True.intro
       all_goals clear hk k
       refine rt ?_
       first | (rw [engF_ok q1 q2 q3 (fun k hk => hall k (by omega))]; simp [go_sem, Tryz.results95]; done) | (have hv : instF e x = chartF y.steps x.chart := (by rw [instF_eq, hys]; grind); rw [engF_hit q1 q2 q3 hlt hall (by rw [hxi, hv]; first | assumption | simpa using hc), hxi, hv]; simp [go_sem, Tryz.results95]; done) | (have hv : instF e x = 9 := (by rw [instF_eq, hys]; grind); rw [engF_hit q1 q2 q3 hlt hall (by rw [hxi, hv]; decide), hxi, hv]; simp [go_sem, Tryz.results95]; done) | (have hv : instF e x = 3 := (by rw [instF_eq]; grind); rw [engF_hit q1 q2 q3 hlt hall (by rw [hxi, hv]; decide), hxi, hv]; simp [go_sem, Tryz.results95]; done) | (simp [go_sem, Tryz.results95] at *; unfold engF; grind))
     ·intro hc; try simp at hc
      all_goals (
       refine AW.skipN (fun _ h => h) ?_
       refine AW.seq ?_
       have q2 : procsF e.procs = 0 := by assumption
       have q1 : ¬ 6 < e.insts.length := by omega
       have q3 : inR e.now 0 1000000 = true := by first | assumption | simpa using hc
       have hR := inR_iff.1 (procsF_zero q2).1
       have hw2 := hwp (by omega)
       refine rg [0,4] ?_
       intro k hk; simp -dsimp [go_sem, -decide_eq_true_eq, -decide_eq_false_iff_not]
       repeat' first | apply And.intro | refine hk _ ?_ | intro hg | omega | exact True.intro
       all_goals clear hk k
       refine AW.block ?_
       refine AW.loopI (fun i : Nat => ⟨82, [(0, .ip e.ro), (4, .int .i64 i)], []⟩) (fun i => i ≤ e.insts.length ∧ ∀ k, k < i → instAt e k = 0) (fun i => e.insts.length - i) (0) (by simp) (Less.of rfl (by simp [go_sem]) (by simp [go_sem])) ?_
       rintro i ⟨hi, hall⟩
       refine AW.seq ?_
       refine rg [0,4,33] ?_
       intro k hk; simp -dsimp (maxSteps := 2000000) [go_sem, -decide_eq_true_eq, -decide_eq_false_iff_not]
       repeat' first | apply And.intro | refine hk _ ?_ | intro hg | omega | exact True.intro
       all_goals clear hk k
       refine AW.cond rfl ?_ ?_
       ·intro hc; try simp at hc
        all_goals (
         have hlt : i < e.insts.length := by assumption
         obtain ⟨x, hx⟩ := at_some hlt
         have hxi := instAt_at hx
         have gx : x.chart.gok := g3 x (List.mem_of_getElem? hx)
         refine AW.skipN (fun _ h => h) ?_
         refine AW.seq ?_
         refine AW.block ?_
         refine rg [0,4,5] ?_
         intro k hk; simp -dsimp (maxSteps := 2000000) [go_sem, -decide_eq_true_eq, -decide_eq_false_iff_not, hx]
         repeat' first | apply And.intro | refine hk _ ?_ | intro hg | omega | exact True.intro
         all_goals clear hk k
         refine AW.seq ?_
         refine rg [0,4,5,53] ?_
         intro k hk; simp -dsimp (maxSteps := 2000000) [go_sem, -decide_eq_true_eq, -decide_eq_false_iff_not, hx, hw2]
         repeat' first | apply And.intro | (refine Chk.keys ?_; simp only [go_sem, List.map_cons, List.map_nil, List.flatMap_cons, List.flatMap_nil, List.flatMap_append, List.append_nil, List.nil_append, List.cons_append]; decide +kernel) | refine hk _ ?_ | intro hg | (refine CallK.intro (dc_spec_l1In _ _ _) ?_; simp -dsimp (maxSteps := 2000000) [go_sem, -decide_eq_true_eq, -decide_eq_false_iff_not, hx, hw2]) | omega | exact True.intro
         all_goals clear hk k
         refine AW.cond rfl ?_ ?_
         ·intro hc; try simp at hc
          all_goals (
           refine rg [2] ?_
           intro k hk; simp -dsimp [go_sem, -decide_eq_true_eq, -decide_eq_false_iff_not, hx]
           repeat' first | apply And.intro | refine hk _ ?_ | intro hg | omega | exact True.intro
           all_goals clear hk k
           refine rt ?_
           first | (rw [engF_ok q1 q2 q3 (fun k hk => hall k (by omega))]; simp [go_sem, Tryz.results95]; done) | (have hv : instF e x = chartF y.steps x.chart := (by rw [instF_eq, hys]; grind); rw [engF_hit q1 q2 q3 hlt hall (by rw [hxi, hv]; first | assumption | simpa using hc), hxi, hv]; simp [go_sem, Tryz.results95]; done) | (have hv : instF e x = 9 := (by rw [instF_eq, hys]; grind); rw [engF_hit q1 q2 q3 hlt hall (by rw [hxi, hv]; decide), hxi, hv]; simp [go_sem, Tryz.results95]; done) | (have hv : instF e x = 3 := (by rw [instF_eq]; grind); rw [engF_hit q1 q2 q3 hlt hall (by rw [hxi, hv]; decide), hxi, hv]; simp [go_sem, Tryz.results95]; done) | (simp [go_sem, Tryz.results95] at *; unfold engF; grind))
         ·intro hc; try simp at hc
          all_goals (
           refine AW.skipN (fun _ h => h) ?_
           refine AW.seq ?_
           have hpl : inR x.proc 0 ((e.procs.length : Int) - 1) = true := by first | assumption | simpa using hc
           have hpl2 := inR_iff.1 hpl
           obtain ⟨y, hy⟩ := at_some (l := e.procs) (show x.proc.toNat < e.procs.length by omega)
           have hys := stepsOf_at hy
           have gy : y.steps.length ≤ 9223372036854775807 ∧ ∀ e ∈ y.steps, e.gok := g1 y (List.mem_of_getElem? hy)
           refine rg [0,4,5,6] ?_
           intro k hk; simp -dsimp (maxSteps := 2000000) [go_sem, -decide_eq_true_eq, -decide_eq_false_iff_not, hx, hy]
           repeat' first | apply And.intro | (refine Chk.keys ?_; simp only [go_sem, List.map_cons, List.map_nil, List.flatMap_cons, List.flatMap_nil, List.flatMap_append, List.append_nil, List.nil_append, List.cons_append]; decide +kernel) | refine hk _ ?_ | intro hg | (refine CallK.intro (dc_spec_l9Fault y.steps x.chart gy.1 gy.2 gx) ?_; simp -dsimp (maxSteps := 2000000) [go_sem, -decide_eq_true_eq, -decide_eq_false_iff_not, hx, hy]) | omega | exact True.intro
           all_goals clear hk k
           refine rg [0,4,5,6,70] ?_
           intro k hk; simp -dsimp [go_sem, -decide_eq_true_eq, -decide_eq_false_iff_not, hx]
           repeat' first | apply And.intro | refine hk _ ?_ | intro hg | omega | exact True.intro
           all_goals clear hk k
           refine AW.cond rfl ?_ ?_
           ·intro hc; try simp at hc
            all_goals (
             refine rg [2] ?_
             intro k hk; simp -dsimp [go_sem, -decide_eq_true_eq, -decide_eq_false_iff_not, hx]
             repeat' first | apply And.intro | refine hk _ ?_ | intro hg | omega | exact True.intro
             all_goals clear hk k
             refine rt ?_
             first | (rw [engF_ok q1 q2 q3 (fun k hk => hall k (by omega))]; simp [go_sem, Tryz.results95]; done) | (have hv : instF e x = chartF y.steps x.chart := (by rw [instF_eq, hys]; grind); rw [engF_hit q1 q2 q3 hlt hall (by rw [hxi, hv]; first | assumption | simpa using hc), hxi, hv]; simp [go_sem, Tryz.results95]; done) | (have hv : instF e x = 9 := (by rw [instF_eq, hys]; grind); rw [engF_hit q1 q2 q3 hlt hall (by rw [hxi, hv]; decide), hxi, hv]; simp [go_sem, Tryz.results95]; done) | (have hv : instF e x = 3 := (by rw [instF_eq]; grind); rw [engF_hit q1 q2 q3 hlt hall (by rw [hxi, hv]; decide), hxi, hv]; simp [go_sem, Tryz.results95]; done) | (simp [go_sem, Tryz.results95] at *; unfold engF; grind))
           ·intro hc; try simp at hc
            all_goals (
             refine AW.skipN (fun _ h => h) ?_
             refine rg [0,4,81] ?_
             intro k hk; simp -dsimp (maxSteps := 2000000) [go_sem, -decide_eq_true_eq, -decide_eq_false_iff_not, hx]
             repeat' first | apply And.intro | (refine Chk.keys ?_; simp only [go_sem, List.map_cons, List.map_nil, List.flatMap_cons, List.flatMap_nil, List.flatMap_append, List.append_nil, List.nil_append, List.cons_append]; decide +kernel) | refine hk _ ?_ | intro hg | omega | exact True.intro
             all_goals clear hk k
             refine AW.cond rfl ?_ ?_
             ·intro hc; try simp at hc
              all_goals (
               refine rg [2] ?_
               intro k hk; simp -dsimp [go_sem, -decide_eq_true_eq, -decide_eq_false_iff_not, hx]
               repeat' first | apply And.intro | refine hk _ ?_ | intro hg | omega | exact True.intro
               all_goals clear hk k
               refine rt ?_
               first | (rw [engF_ok q1 q2 q3 (fun k hk => hall k (by omega))]; simp [go_sem, Tryz.results95]; done) | (have hv : instF e x = chartF y.steps x.chart := (by rw [instF_eq, hys]; grind); rw [engF_hit q1 q2 q3 hlt hall (by rw [hxi, hv]; first | assumption | simpa using hc), hxi, hv]; simp [go_sem, Tryz.results95]; done) | (have hv : instF e x = 9 := (by rw [instF_eq, hys]; grind); rw [engF_hit q1 q2 q3 hlt hall (by rw [hxi, hv]; decide), hxi, hv]; simp [go_sem, Tryz.results95]; done) | (have hv : instF e x = 3 := (by rw [instF_eq]; grind); rw [engF_hit q1 q2 q3 hlt hall (by rw [hxi, hv]; decide), hxi, hv]; simp [go_sem, Tryz.results95]; done) | (simp [go_sem, Tryz.results95] at *; unfold engF; grind))
             ·intro hc; try simp at hc
              all_goals (
               refine AW.skipN (fun _ h => h) ?_
               refine rgK ?_
               intro k hk; simp -dsimp [go_sem, -decide_eq_true_eq, -decide_eq_false_iff_not, hx]
               repeat' first | apply And.intro | refine hk _ ?_ | intro hg | omega | exact True.intro
               all_goals clear hk k
               show ∃ _, _
               have hw := wrapi hlt (by omega)
               have hz : instF e x = 0 := by rw [instF_eq, hys]; grind
               refine ⟨i + 1, ⟨by omega, upto hall (by rw [hxi]; exact hz)⟩, by omega, Less.of rfl (by simp [go_sem, hw]) (by simp [go_sem])⟩))))
       ·intro hc; try simp at hc
        all_goals (
         refine AW.exitN (fun _ h => h) ?_
         refine rg [2] ?_
         intro k hk; simp -dsimp [go_sem, -decide_eq_true_eq, -decide_eq_false_iff_not]
         repeat' first | apply And.intro | refine hk _ ?_ | intro hg | omega | exact True.intro
         all_goals clear hk k
         refine rt ?_
         first | (rw [engF_ok q1 q2 q3 (fun k hk => hall k (by omega))]; simp [go_sem, Tryz.results95]; done) | (have hv : instF e x = chartF y.steps x.chart := (by rw [instF_eq, hys]; grind); rw [engF_hit q1 q2 q3 hlt hall (by rw [hxi, hv]; first | assumption | simpa using hc), hxi, hv]; simp [go_sem, Tryz.results95]; done) | (have hv : instF e x = 9 := (by rw [instF_eq, hys]; grind); rw [engF_hit q1 q2 q3 hlt hall (by rw [hxi, hv]; decide), hxi, hv]; simp [go_sem, Tryz.results95]; done) | (have hv : instF e x = 3 := (by rw [instF_eq]; grind); rw [engF_hit q1 q2 q3 hlt hall (by rw [hxi, hv]; decide), hxi, hv]; simp [go_sem, Tryz.results95]; done) | (simp [go_sem, Tryz.results95] at *; unfold engF; grind)))))

end Go.AM

/-! ### Pi -/
set_option linter.unusedVariables false
set_option linter.unusedSimpArgs false
namespace Go.AM
/-! an argument of which more is told -/
theorem DC.argLe {P : Program} {f : FuncId} {args args' : List AV} {res : AV} {muts : List (Nat × AV)} (h : DC P f args res muts) (hl : args.length = args'.length)
    (hle : ∀ (k : Nat) x x', args[k]? = some x → args'[k]? = some x' → ∀ w lab p v, T w lab p x' v → T w lab p x v) : DC P f args' res muts := by
  refine ⟨h.body, ?_⟩
  intro w lab vals hlen hv hf
  refine h.calls w lab vals (by rw [hl]; exact hlen) ?_ hf
  intro k x v hx hv'
  have hk : k < args'.length := by rw [← hl]; exact (List.getElem?_eq_some_iff.1 hx).1
  exact hle k x _ hx (List.getElem?_eq_getElem hk) w lab _ v (hv k _ v (List.getElem?_eq_getElem hk) hv')
theorem T.ipMore {w : World} {lab : Labs} {p : Lab} {l m : List AV} {v : Value} (h : T w lab p (.ip (l ++ m)) v) : T w lab p (.ip l) v := by
  cases h with
  | imm _ _ _ h =>
    generalize hx : AV.ip (l ++ m) = y at h
    cases h with
    | ip l' b off vals hb hs hv hr =>
      cases hx
      refine .imm _ _ _ (.ip l b off vals hb hs (fun j hj => hv j (by rw [List.length_append]; omega)) ?_)
      intro j x hj
      exact hr j x (by rw [List.getElem?_append_left (List.getElem?_eq_some_iff.1 hj).1]; exact hj)
    | _ => cases hx
theorem DC.ipMore1 {P : Program} {f : FuncId} {l : List AV} {r : List AV} {res : AV} {muts : List (Nat × AV)} (m : List AV) (h : DC P f (.ip l :: r) res muts) : DC P f (.ip (l ++ m) :: r) res muts := by
  refine h.argLe (by simp) ?_
  intro k x x' hx hx' w lab p v hT
  cases k with
  | zero => simp at hx hx'; subst hx; subst hx'; exact hT.ipMore
  | succ k => simp at hx hx'; rw [hx] at hx'; cases hx'; exact hT
theorem engF_zero {e : TEngine} (h : engF e = 0) : ¬ 6 < e.insts.length ∧ procsF e.procs = 0 ∧ inR e.now 0 1000000 = true ∧ ∀ k, k < e.insts.length → instAt e k = 0 := by
  unfold engF at h
  split at h
  · cases h
  split at h
  · exact absurd h (by assumption)
  split at h
  · cases h
  · rename_i h1 h2 h3
    exact ⟨h1, by simpa using h2, by simpa using h3, sc_all h⟩
theorem inst_ok {e : TEngine} (h : engF e = 0) {i : Nat} {x : TInst} (hx : e.insts[i]? = some x) : 0 ≤ x.proc ∧ ∃ y, e.procs[x.proc.toNat]? = some y ∧ chart1 y.steps x.chart = 0 ∧ chartF y.steps x.chart = 0 := by
  obtain ⟨h1, h2, h3, h4⟩ := engF_zero h
  have hi := at_lt hx
  have h5 := h4 i hi
  rw [instAt_at hx, instF_eq] at h5
  split at h5
  · cases h5
  rename_i h6
  have h6 : inR x.proc 0 ((e.procs.length : Int) - 1) = true := by simpa using h6
  have h7 := inR_iff.1 h6
  obtain ⟨y, hy⟩ := at_some (l := e.procs) (show x.proc.toNat < e.procs.length by omega)
  refine ⟨h7.1, y, hy, ?_⟩
  rw [stepsOf_at hy] at h5
  have h8 : chartF y.steps x.chart = 0 := by
    split at h5
    · exact absurd h5 (by assumption)
    · rename_i h8; simpa using h8
  refine ⟨?_, h8⟩
  apply Classical.byContradiction
  intro h9
  rw [chartF_1 h9] at h8
  exact h9 h8
def cmpI (a b : Int) : Int := if a < b then -1 else if b < a then 1 else 0
theorem cmp_ahead (a b : TClaim) : decide (0 ≤ firstC [cmpI a.inst b.inst, cmpI a.step b.step]) = !aheadC a b := by
  unfold aheadC cmpI
  simp only [firstC_cons, firstC_nil]
  grind
theorem cmp_nn (a b : TClaim) : 0 ≤ firstC [cmpI a.inst b.inst, cmpI a.step b.step] ↔ aheadC a b = false := by
  have := cmp_ahead a b
  rw [Bool.eq_iff_iff] at this
  simpa using this
theorem openT_at {e : TEngine} {k : Nat} {x : TInst} {y : TProc} {step : Int} (hx : e.insts[k]? = some x) (hy : e.procs[x.proc.toNat]? = some y) : openT e k step = (inR step 0 ((y.steps.length : Int) - 1) && decide ((nS y.steps step.toNat).kind = 2) && decide (actA x.chart step = 1)) := by
  unfold openT
  have e1 : e.insts.getD (k : Int).toNat default = x := by simp [List.getD, hx]
  simp only [e1, stepsOf_at hy, stepA]
theorem claimF_at {d : TDesk} {i : Nat} {x z : TClaim} (hx : d.claims[i]? = some x) (hz : d.claims[i - 1]? = some z) : claimF d i = if inR x.inst 0 ((d.engine.insts.length : Int) - 1) = false ∨ inR x.user 1 9 = false then 3
  else if openT d.engine x.inst x.step = false then 4 else if 0 < i ∧ aheadC z x = false then 1 else 0 := by
  unfold claimF
  have e1 : d.claims.getD i default = x := by simp [List.getD, hx]
  have e2 : d.claims.getD (i - 1) default = z := by simp [List.getD, hz]
  simp only [e1, e2]
theorem deskF_hit {d : TDesk} {i : Nat} (h1 : engF d.engine = 0) (h2 : ¬ 60 < d.claims.length) (hi : i < d.claims.length) (h : ∀ k, k < i → claimF d k = 0) (hne : claimF d i ≠ 0) : deskF d = claimF d i := by
  rw [deskF, if_neg (by simp [h1]), if_neg h2]
  exact sc_first i 0 (Nat.zero_le _) hi (fun k _ hk => h k hk) hne
theorem deskF_ok {d : TDesk} (h1 : engF d.engine = 0) (h2 : ¬ 60 < d.claims.length) (h : ∀ k, k < d.claims.length → claimF d k = 0) : deskF d = 0 := by
  rw [deskF, if_neg (by simp [h1]), if_neg h2, sc_none h]
end Go.AM

/-! ### D1 -/
set_option linter.unusedVariables false
set_option linter.unusedSimpArgs false
set_option maxHeartbeats 600000
set_option maxRecDepth 100000
namespace Go.AM
open Go.Proofs

/-- impl.isUser -/
theorem dc_impl_isUser (n : Int) : DC Tryz.prog 56 [.int .i64 n] (.bool (inR n 1 9)) [] := by
 refine DC.intro tiOk Tryz.func56 rfl rfl rfl rfl rfl rfl rfl rfl [] ?_
 refine rg [0] ?_
 intro k hk; simp -dsimp [go_sem, -decide_eq_true_eq, -decide_eq_false_iff_not]
 repeat' first | apply And.intro | refine hk _ ?_ | intro hg | omega | exact True.intro
 all_goals clear hk k
 refine rg [2] ?_
 intro k hk; simp -dsimp (maxSteps := 2000000) [go_sem, -decide_eq_true_eq, -decide_eq_false_iff_not]
 repeat' first | apply And.intro | refine hk _ ?_ | intro hg | (refine CallK.intro (dc_impl_inRange _ _ _) ?_; simp -dsimp (maxSteps := 2000000) [go_sem, -decide_eq_true_eq, -decide_eq_false_iff_not]) | omega | exact True.intro
 all_goals clear hk k
 refine rt ?_
 simp [go_sem, Tryz.results56]

/-- spec.l12User -/
theorem dc_spec_l12User (n : Int) : DC Tryz.prog 73 [.int .i64 n] (.bool (inR n 1 9)) [] := by
 refine DC.intro tiOk Tryz.func73 rfl rfl rfl rfl rfl rfl rfl rfl [] ?_
 refine rg [0] ?_
 intro k hk; simp -dsimp [go_sem, -decide_eq_true_eq, -decide_eq_false_iff_not]
 repeat' first | apply And.intro | refine hk _ ?_ | intro hg | omega | exact True.intro
 all_goals clear hk k
 refine rg [2] ?_
 intro k hk; simp -dsimp (maxSteps := 2000000) [go_sem, -decide_eq_true_eq, -decide_eq_false_iff_not]
 repeat' first | apply And.intro | refine hk _ ?_ | intro hg | (refine CallK.intro (dc_spec_l1In _ _ _) ?_; simp -dsimp (maxSteps := 2000000) [go_sem, -decide_eq_true_eq, -decide_eq_false_iff_not]) | omega | exact True.intro
 all_goals clear hk k
 refine rt ?_
 simp [go_sem, Tryz.results73]

/-- cmp.isNaN[int64] -/
theorem dc_cmp_isNaN_int64 (n : Int) : DC Tryz.prog 131 [.int .i64 n] (.bool false) [] := by
 refine DC.intro tiOk Tryz.func131 rfl rfl rfl rfl rfl rfl rfl rfl [] ?_
 refine rg [0] ?_
 intro k hk; simp -dsimp [go_sem, -decide_eq_true_eq, -decide_eq_false_iff_not]
 repeat' first | apply And.intro | refine hk _ ?_ | intro hg | omega | exact True.intro
 all_goals clear hk k
 refine rg [2] ?_
 intro k hk; simp -dsimp [go_sem, -decide_eq_true_eq, -decide_eq_false_iff_not]
 repeat' first | apply And.intro | refine hk _ ?_ | intro hg | omega | exact True.intro
 all_goals clear hk k
 refine rt ?_
 simp [go_sem, Tryz.results131]

/-- cmp.Compare[int64] -/
theorem dc_cmp_Compare_int64 (a b : Int) : DC Tryz.prog 104 [.int .i64 a, .int .i64 b] (.int .i64 (cmpI a b)) [] := by
 refine DC.intro tiOk Tryz.func104 rfl rfl rfl rfl rfl rfl rfl rfl [] ?_
 refine rg [0,1] ?_
 intro k hk; simp -dsimp [go_sem, -decide_eq_true_eq, -decide_eq_false_iff_not]
 repeat' first | apply And.intro | refine hk _ ?_ | intro hg | omega | exact True.intro
 all_goals clear hk k
 refine rg [0,1,5] ?_
 intro k hk; simp -dsimp (maxSteps := 2000000) [go_sem, -decide_eq_true_eq, -decide_eq_false_iff_not]
 repeat' first | apply And.intro | refine hk _ ?_ | intro hg | (refine CallK.intro (dc_cmp_isNaN_int64 _) ?_; simp -dsimp (maxSteps := 2000000) [go_sem, -decide_eq_true_eq, -decide_eq_false_iff_not]) | omega | exact True.intro
 all_goals clear hk k
 refine rg [0,1,5,6] ?_
 intro k hk; simp -dsimp (maxSteps := 2000000) [go_sem, -decide_eq_true_eq, -decide_eq_false_iff_not]
 repeat' first | apply And.intro | refine hk _ ?_ | intro hg | (refine CallK.intro (dc_cmp_isNaN_int64 _) ?_; simp -dsimp (maxSteps := 2000000) [go_sem, -decide_eq_true_eq, -decide_eq_false_iff_not]) | omega | exact True.intro
 all_goals clear hk k
 refine AW.seq ?_
 refine rg [0,1,6,11] ?_
 intro k hk; simp -dsimp [go_sem, -decide_eq_true_eq, -decide_eq_false_iff_not]
 repeat' first | apply And.intro | refine hk _ ?_ | intro hg | omega | exact True.intro
 all_goals clear hk k
 refine AW.cond rfl ?_ ?_
 ·intro hc; try simp at hc
  all_goals try (exfalso; first | omega | (simp at hc; done); done)
  all_goals (
   refine AW.seq ?_
   refine rg [12] ?_
   intro k hk; simp -dsimp [go_sem, -decide_eq_true_eq, -decide_eq_false_iff_not]
   repeat' first | apply And.intro | refine hk _ ?_ | intro hg | omega | exact True.intro
   all_goals clear hk k
   refine AW.cond rfl ?_ ?_
   ·intro hc; try simp at hc
    all_goals try (exfalso; first | omega | (simp at hc; done); done)
    all_goals (
     refine rg [4] ?_
     intro k hk; simp -dsimp [go_sem, -decide_eq_true_eq, -decide_eq_false_iff_not]
     repeat' first | apply And.intro | refine hk _ ?_ | intro hg | omega | exact True.intro
     all_goals clear hk k
     refine rt ?_
     simp [go_sem, Tryz.results104, cmpI] <;> grind)
   ·intro hc; try simp at hc
    all_goals try (exfalso; first | omega | (simp at hc; done); done)
    all_goals (
     refine AW.skipN (fun _ h => h) ?_
     refine rg [4] ?_
     intro k hk; simp -dsimp [go_sem, -decide_eq_true_eq, -decide_eq_false_iff_not]
     repeat' first | apply And.intro | refine hk _ ?_ | intro hg | omega | exact True.intro
     all_goals clear hk k
     refine rt ?_
     simp [go_sem, Tryz.results104, cmpI] <;> grind))
 ·intro hc; try simp at hc
  all_goals try (exfalso; first | omega | (simp at hc; done); done)
  all_goals (
   refine AW.skipN (fun _ h => h) ?_
   refine AW.seq ?_
   refine rg [0,1,13] ?_
   intro k hk; simp -dsimp [go_sem, -decide_eq_true_eq, -decide_eq_false_iff_not]
   repeat' first | apply And.intro | refine hk _ ?_ | intro hg | omega | exact True.intro
   all_goals clear hk k
   refine AW.cond rfl ?_ ?_
   ·intro hc; try simp at hc
    all_goals try (exfalso; first | omega | (simp at hc; done); done)
    all_goals (
     refine rg [4] ?_
     intro k hk; simp -dsimp [go_sem, -decide_eq_true_eq, -decide_eq_false_iff_not]
     repeat' first | apply And.intro | refine hk _ ?_ | intro hg | omega | exact True.intro
     all_goals clear hk k
     refine rt ?_
     simp [go_sem, Tryz.results104, cmpI] <;> grind)
   ·intro hc; try simp at hc
    all_goals try (exfalso; first | omega | (simp at hc; done); done)
    all_goals (
     refine AW.skipN (fun _ h => h) ?_
     refine AW.seq ?_
     refine rg [0,1,16] ?_
     intro k hk; simp -dsimp [go_sem, -decide_eq_true_eq, -decide_eq_false_iff_not]
     repeat' first | apply And.intro | refine hk _ ?_ | intro hg | omega | exact True.intro
     all_goals clear hk k
     refine AW.cond rfl ?_ ?_
     ·intro hc; try simp at hc
      all_goals try (exfalso; first | omega | (simp at hc; done); done)
      all_goals (
       refine rg [4] ?_
       intro k hk; simp -dsimp [go_sem, -decide_eq_true_eq, -decide_eq_false_iff_not]
       repeat' first | apply And.intro | refine hk _ ?_ | intro hg | omega | exact True.intro
       all_goals clear hk k
       refine rt ?_
       simp [go_sem, Tryz.results104, cmpI] <;> grind)
     ·intro hc; try simp at hc
      all_goals try (exfalso; first | omega | (simp at hc; done); done)
      all_goals (
       refine AW.skipN (fun _ h => h) ?_
       refine AW.seq ?_
       refine rg [19] ?_
       intro k hk; simp -dsimp [go_sem, -decide_eq_true_eq, -decide_eq_false_iff_not]
       repeat' first | apply And.intro | refine hk _ ?_ | intro hg | omega | exact True.intro
       all_goals clear hk k
       refine AW.cond rfl ?_ ?_
       ·intro hc; try simp at hc
        all_goals try (exfalso; first | omega | (simp at hc; done); done)
        all_goals (
         refine rg [4] ?_
         intro k hk; simp -dsimp [go_sem, -decide_eq_true_eq, -decide_eq_false_iff_not]
         repeat' first | apply And.intro | refine hk _ ?_ | intro hg | omega | exact True.intro
         all_goals clear hk k
         refine rt ?_
         simp [go_sem, Tryz.results104, cmpI] <;> grind)
       ·intro hc; try simp at hc
        all_goals try (exfalso; first | omega | (simp at hc; done); done)
        all_goals (
         refine AW.skipN (fun _ h => h) ?_
         refine rg [4] ?_
         intro k hk; simp -dsimp [go_sem, -decide_eq_true_eq, -decide_eq_false_iff_not]
         repeat' first | apply And.intro | refine hk _ ?_ | intro hg | omega | exact True.intro
         all_goals clear hk k
         refine rt ?_
         simp [go_sem, Tryz.results104, cmpI] <;> grind))))

/-- cmp.Or[int] -/
theorem dc_cmp_Or_int (l : List Int) (hl : l.length ≤ 9223372036854775807) : DC Tryz.prog 103 [.isl 1 (l.map I1)] (.int .i64 (firstC l)) [] := by
 refine DC.intro tiOk Tryz.func103 rfl rfl rfl rfl rfl rfl rfl rfl [] ?_
 refine rg [0] ?_
 intro k hk; simp -dsimp [go_sem, -decide_eq_true_eq, -decide_eq_false_iff_not]
 repeat' first | apply And.intro | refine hk _ ?_ | intro hg | omega | exact True.intro
 all_goals clear hk k
 refine rg [0,3] ?_
 intro k hk; simp -dsimp [go_sem, -decide_eq_true_eq, -decide_eq_false_iff_not]
 repeat' first | apply And.intro | refine hk _ ?_ | intro hg | omega | exact True.intro
 all_goals clear hk k
 refine AW.seq ?_
 refine rg [3,6,7,8] ?_
 intro k hk; simp -dsimp [go_sem, -decide_eq_true_eq, -decide_eq_false_iff_not]
 repeat' first | apply And.intro | refine hk _ ?_ | intro hg | omega | exact True.intro
 all_goals clear hk k
 refine AW.block ?_
 refine AW.loopI (fun i : Nat => ⟨18, [(3, .int .i64 0), (6, .isl 1 (l.map I1)), (7, .int .i64 l.length), (8, .int .i64 i)], []⟩) (fun i => i ≤ l.length ∧ firstC l = firstC (l.drop i)) (fun i => l.length - i) (0) (by simp) (Less.of rfl (by simp [go_sem]) (by simp [go_sem])) ?_
 rintro i ⟨hi, hinv⟩
 refine rg [3,6,7,8,9] ?_
 intro k hk; simp -dsimp [go_sem, -decide_eq_true_eq, -decide_eq_false_iff_not]
 repeat' first | apply And.intro | refine hk _ ?_ | intro hg | omega | exact True.intro
 all_goals clear hk k
 refine AW.seq ?_
 refine AW.cond rfl ?_ ?_
 ·intro hc; try simp at hc
  all_goals (
   have hlt : i < l.length := by assumption
   obtain ⟨x, hx⟩ := at_some hlt
   refine AW.skipN (fun _ h => h) ?_
   refine AW.seq ?_
   refine AW.block ?_
   refine rg [3,5,6,7,8] ?_
   intro k hk; simp -dsimp [go_sem, -decide_eq_true_eq, -decide_eq_false_iff_not, hx]
   repeat' first | apply And.intro | refine hk _ ?_ | intro hg | omega | exact True.intro
   all_goals clear hk k
   refine rg [3,5,6,7,8,14] ?_
   intro k hk; simp -dsimp [go_sem, -decide_eq_true_eq, -decide_eq_false_iff_not, hx]
   repeat' first | apply And.intro | refine hk _ ?_ | intro hg | omega | exact True.intro
   all_goals clear hk k
   refine AW.cond rfl ?_ ?_
   ·intro hc; try simp at hc
    all_goals (
     refine rg [2] ?_
     intro k hk; simp -dsimp [go_sem, -decide_eq_true_eq, -decide_eq_false_iff_not, hx]
     repeat' first | apply And.intro | refine hk _ ?_ | intro hg | omega | exact True.intro
     all_goals clear hk k
     refine rt ?_
     first | (simp [go_sem, Tryz.results103, hinv, firstC_step hx, *]; done) | (simp [go_sem, Tryz.results103, hinv, firstC_end (show l.length ≤ i by omega)]))
   ·intro hc; try simp at hc
    all_goals (
     refine AW.skipN (fun _ h => h) ?_
     refine rgK ?_
     intro k hk; simp -dsimp [go_sem, -decide_eq_true_eq, -decide_eq_false_iff_not, hx]
     repeat' first | apply And.intro | refine hk _ ?_ | intro hg | omega | exact True.intro
     all_goals clear hk k
     show ∃ _, _
     have hw := wrapi hlt hl
     refine ⟨i + 1, ⟨by omega, ?_⟩, by omega, Less.of rfl (by simp [go_sem, hw]) (by simp [go_sem])⟩
     rw [hinv, firstC_step hx, if_pos (by assumption)]))
 ·intro hc; try simp at hc
  all_goals (
   refine AW.exitN (fun _ h => h) ?_
   refine rg [2] ?_
   intro k hk; simp -dsimp [go_sem, -decide_eq_true_eq, -decide_eq_false_iff_not]
   repeat' first | apply And.intro | refine hk _ ?_ | intro hg | omega | exact True.intro
   all_goals clear hk k
   refine rt ?_
   first | (simp [go_sem, Tryz.results103, hinv, firstC_step hx, *]; done) | (simp [go_sem, Tryz.results103, hinv, firstC_end (show l.length ≤ i by omega)]))

/-- impl.compareClaims -/
theorem dc_impl_compareClaims (a b : TClaim) : DC Tryz.prog 58 [.agg a.ro, .agg b.ro] (.int .i64 (firstC [cmpI a.inst b.inst, cmpI a.step b.step])) [] := by
 refine DC.intro tiOk Tryz.func58 rfl rfl rfl rfl rfl rfl rfl rfl [] ?_
 refine rg [2,3] ?_
 intro k hk; simp -dsimp [go_sem, -decide_eq_true_eq, -decide_eq_false_iff_not]
 repeat' first | apply And.intro | refine hk _ ?_ | intro hg | omega | exact True.intro
 all_goals clear hk k
 refine rg [4] ?_
 intro k hk; simp -dsimp (maxSteps := 2000000) [go_sem, -decide_eq_true_eq, -decide_eq_false_iff_not]
 repeat' first | apply And.intro | (refine Chk.keys ?_; simp only [go_sem, List.map_cons, List.map_nil, List.flatMap_cons, List.flatMap_nil, List.flatMap_append, List.append_nil, List.nil_append, List.cons_append]; decide +kernel) | refine hk _ ?_ | intro hg | ((first | refine CallK.intro (dc_cmp_Compare_int64 _ _) ?_ | refine CallK.intro (dc_cmp_Or_int [_, _] (by simp)) ?_); simp -dsimp (maxSteps := 2000000) [go_sem, -decide_eq_true_eq, -decide_eq_false_iff_not]) | omega | exact True.intro
 all_goals clear hk k
 refine rt ?_
 simp [go_sem, Tryz.results58]

/-- spec.l12Ahead -/
theorem dc_spec_l12Ahead (a b : TClaim) : DC Tryz.prog 97 [.agg a.ro, .agg b.ro] (.bool (aheadC a b)) [] := by
 refine DC.intro tiOk Tryz.func97 rfl rfl rfl rfl rfl rfl rfl rfl [] ?_
 refine rg [2,3] ?_
 intro k hk; simp -dsimp [go_sem, -decide_eq_true_eq, -decide_eq_false_iff_not]
 repeat' first | apply And.intro | refine hk _ ?_ | intro hg | omega | exact True.intro
 all_goals clear hk k
 refine rg [4] ?_
 intro k hk; simp +contextual -dsimp (maxSteps := 2000000) [go_sem, -decide_eq_true_eq, -decide_eq_false_iff_not]
 repeat' first | apply And.intro | refine hk _ ?_ | (intro hg; try simp only [decide_eq_true_eq, decide_eq_false_iff_not] at hg) | omega | exact True.intro
 all_goals clear hk k
 all_goals (
  refine rt ?_
  simp [go_sem, Tryz.results97, aheadC] <;> grind)

/-- impl.isOnTask -/
theorem dc_impl_isOnTask (p : List TStep) (c : TChart) (s : Int) (hp : p.length ≤ 24) (hla : c.acts.length = p.length) : DC Tryz.prog 102 [.isl 6 (p.map TStep.ro), .agg c.ro, .int .i64 s] (.bool (inR s 0 ((p.length : Int) - 1) && decide ((nS p s.toNat).kind = 2) && decide (actA c s = 1))) [] := by
 have hb : inR s 0 ((p.length : Int) - 1) = true → 0 ≤ s ∧ s < p.length := fun h => by have := inR_iff.1 h; omega
 have hps : inR s 0 ((p.length : Int) - 1) = true → p[s.toNat]? = some (nS p s.toNat) := fun h => by have h1 := hb h; obtain ⟨y, hy⟩ := at_some (l := p) (show s.toNat < p.length by omega); rw [nS_at hy]; exact hy
 have hcs : inR s 0 ((p.length : Int) - 1) = true → c.acts[s.toNat]? = some (actA c s) := fun h => actA_at (by have := hb h; omega)
 have hwp : IntKind.wrap .i64 ((p.length : Int) - 1) = (p.length : Int) - 1 := wrap64 (by omega) (by omega)
 refine DC.intro tiOk Tryz.func102 rfl rfl rfl rfl rfl rfl rfl rfl [] ?_
 refine rg [0,2,4] ?_
 intro k hk; simp -dsimp [go_sem, -decide_eq_true_eq, -decide_eq_false_iff_not, hps, hcs, hwp]
 repeat' first | apply And.intro | refine hk _ ?_ | intro hg | omega | exact True.intro | (refine And.elim (fun h8 h9 => ?_) (hb ?_) <;> first | assumption | omega) | fail
 all_goals clear hk k
 refine rg [6] ?_
 intro k hk; simp +contextual -dsimp (maxSteps := 2000000) [go_sem, -decide_eq_true_eq, -decide_eq_false_iff_not, hps, hcs, hwp]
 repeat' first | apply And.intro | refine hk _ ?_ | (intro hg; try simp only [decide_eq_true_eq, decide_eq_false_iff_not] at hg) | (refine CallK.intro (dc_impl_isPlace _ _ (by omega)) ?_; simp +contextual -dsimp (maxSteps := 2000000) [go_sem, -decide_eq_true_eq, -decide_eq_false_iff_not, hps, hcs, hwp]) | omega | exact True.intro | (refine And.elim (fun h8 h9 => ?_) (hb ?_) <;> first | assumption | omega) | fail
 all_goals clear hk k
 all_goals (
  refine rt ?_
  simp [go_sem, Tryz.results102, *])

/-- (impl.Engine).isOpen -/
theorem dc_impl_Engine_isOpen (e : TEngine) (k : Nat) (x : TInst) (y : TProc) (s : Int) (hx : e.insts[k]? = some x) (h0 : 0 ≤ x.proc) (hy : e.procs[x.proc.toNat]? = some y) (hp : y.steps.length ≤ 24) (hla : x.chart.acts.length = y.steps.length) : DC Tryz.prog 57 [.agg e.ro, .int .i64 (k : Nat), .int .i64 s] (.bool (openT e (k : Int) s)) [] := by
 have hk := at_lt hx
 have hkp := at_lt hy
 refine DC.intro tiOk Tryz.func57 rfl rfl rfl rfl rfl rfl rfl rfl [] ?_
 refine rg [1,2,3] ?_
 intro k hk; simp -dsimp [go_sem, -decide_eq_true_eq, -decide_eq_false_iff_not, hx, hy]
 repeat' first | apply And.intro | refine hk _ ?_ | intro hg | omega | exact True.intro
 all_goals clear hk k
 refine rg [2,3,7] ?_
 intro k hk; simp -dsimp (maxSteps := 2000000) [go_sem, -decide_eq_true_eq, -decide_eq_false_iff_not, hx, hy]
 repeat' first | apply And.intro | refine hk _ ?_ | intro hg | omega | exact True.intro
 all_goals clear hk k
 refine rg [6] ?_
 intro k hk; simp -dsimp (maxSteps := 2000000) [go_sem, -decide_eq_true_eq, -decide_eq_false_iff_not, hx, hy]
 repeat' first | apply And.intro | (refine Chk.keys ?_; simp only [go_sem, List.map_cons, List.map_nil, List.flatMap_cons, List.flatMap_nil, List.flatMap_append, List.append_nil, List.nil_append, List.cons_append]; decide +kernel) | refine hk _ ?_ | intro hg | ((first | refine CallK.intro (dc_impl_Engine_steps e x h0 y hy) ?_ | refine CallK.intro (dc_impl_isOnTask y.steps x.chart s hp hla) ?_); simp -dsimp (maxSteps := 2000000) [go_sem, -decide_eq_true_eq, -decide_eq_false_iff_not, hx, hy]) | omega | exact True.intro
 all_goals clear hk k
 refine rt ?_
 rw [openT_at hx hy]; simp [go_sem, Tryz.results57]

/-- spec.l12Open -/
theorem dc_spec_l12Open (e : TEngine) (k : Nat) (x : TInst) (y : TProc) (s : Int) (hx : e.insts[k]? = some x) (h0 : 0 ≤ x.proc) (hy : e.procs[x.proc.toNat]? = some y) (hp : y.steps.length ≤ 24) (hla : x.chart.acts.length = y.steps.length) : DC Tryz.prog 79 [.ip e.ro, .int .i64 (k : Nat), .int .i64 s] (.bool (openT e (k : Int) s)) [] := by
 have hk := at_lt hx
 have hkp := at_lt hy
 have hb : inR s 0 ((y.steps.length : Int) - 1) = true → 0 ≤ s ∧ s < y.steps.length := fun h => by have := inR_iff.1 h; omega
 have hps : inR s 0 ((y.steps.length : Int) - 1) = true → y.steps[s.toNat]? = some (nS y.steps s.toNat) := fun h => by have h1 := hb h; obtain ⟨u, hu⟩ := at_some (l := y.steps) (show s.toNat < y.steps.length by omega); rw [nS_at hu]; exact hu
 have hcs : inR s 0 ((y.steps.length : Int) - 1) = true → x.chart.acts[s.toNat]? = some (actA x.chart s) := fun h => actA_at (by have := hb h; omega)
 have hwp : IntKind.wrap .i64 ((y.steps.length : Int) - 1) = (y.steps.length : Int) - 1 := wrap64 (by omega) (by omega)
 refine DC.intro tiOk Tryz.func79 rfl rfl rfl rfl rfl rfl rfl rfl [] ?_
 refine rg [0,1,2] ?_
 intro k hk; simp -dsimp [go_sem, -decide_eq_true_eq, -decide_eq_false_iff_not, hx, hy, hps, hcs, hwp]
 repeat' first | apply And.intro | refine hk _ ?_ | intro hg | omega | exact True.intro | (refine And.elim (fun h8 h9 => ?_) (hb ?_) <;> first | assumption | omega) | fail
 all_goals clear hk k
 refine rg [0,2,7] ?_
 intro k hk; simp -dsimp (maxSteps := 2000000) [go_sem, -decide_eq_true_eq, -decide_eq_false_iff_not, hx, hy, hps, hcs, hwp]
 repeat' first | apply And.intro | refine hk _ ?_ | intro hg | omega | exact True.intro | (refine And.elim (fun h8 h9 => ?_) (hb ?_) <;> first | assumption | omega) | fail
 all_goals clear hk k
 refine rg [2,7,8] ?_
 intro k hk; simp -dsimp (maxSteps := 2000000) [go_sem, -decide_eq_true_eq, -decide_eq_false_iff_not, hx, hy, hps, hcs, hwp]
 repeat' first | apply And.intro | (refine Chk.keys ?_; simp only [go_sem, List.map_cons, List.map_nil, List.flatMap_cons, List.flatMap_nil, List.flatMap_append, List.append_nil, List.nil_append, List.cons_append]; decide +kernel) | refine hk _ ?_ | intro hg | omega | exact True.intro | (refine And.elim (fun h8 h9 => ?_) (hb ?_) <;> first | assumption | omega) | fail
 all_goals clear hk k
 refine rg [6] ?_
 intro k hk; simp +contextual -dsimp (maxSteps := 2000000) [go_sem, -decide_eq_true_eq, -decide_eq_false_iff_not, hx, hy, hps, hcs, hwp]
 repeat' first | apply And.intro | refine hk _ ?_ | (intro hg; try simp only [decide_eq_true_eq, decide_eq_false_iff_not] at hg) | (refine CallK.intro (dc_spec_l1In _ _ _) ?_; simp +contextual -dsimp (maxSteps := 2000000) [go_sem, -decide_eq_true_eq, -decide_eq_false_iff_not, hx, hy, hps, hcs, hwp]) | omega | exact True.intro | (refine And.elim (fun h8 h9 => ?_) (hb ?_) <;> first | assumption | omega) | fail
 all_goals clear hk k
 all_goals (
  refine rt ?_
  rw [openT_at hx hy]; simp [go_sem, Tryz.results79, *])

end Go.AM

/-! ### D2 -/
set_option linter.unusedVariables false
set_option linter.unusedSimpArgs false
set_option maxHeartbeats 600000
set_option maxRecDepth 100000
namespace Go.AM
open Go.Proofs

/-- impl.DeskFault -/
theorem dc_impl_DeskFault (d : TDesk) (hg : d.gok) : DC Tryz.prog 20 [.agg d.ro] (.int .i64 (deskF d)) [] := by
 obtain ⟨g0, g1⟩ := hg
 refine DC.intro tiOk Tryz.func20 rfl rfl rfl rfl rfl rfl rfl rfl [] ?_
 refine rg [1] ?_
 intro k hk; simp -dsimp [go_sem, -decide_eq_true_eq, -decide_eq_false_iff_not]
 repeat' first | apply And.intro | refine hk _ ?_ | intro hg | omega | exact True.intro
 all_goals clear hk k
 refine AW.seq ?_
 refine rg [1,3] ?_
 intro k hk; simp -dsimp (maxSteps := 2000000) [go_sem, -decide_eq_true_eq, -decide_eq_false_iff_not]
 repeat' first | apply And.intro | (refine Chk.keys ?_; simp only [go_sem, List.map_cons, List.map_nil, List.flatMap_cons, List.flatMap_nil, List.flatMap_append, List.append_nil, List.nil_append, List.cons_append]; decide +kernel) | refine hk _ ?_ | intro hg | ((first | refine CallK.intro (dc_impl_EngineFault d.engine g0) ?_ | refine CallK.intro (dc_impl_codeIf _ _) ?_ | refine CallK.intro (dc_impl_firstCode [_, _] (by simp)) ?_ | refine CallK.intro (dc_impl_firstCode [_, _, _] (by simp)) ?_ | refine CallK.intro (dc_impl_firstCode [_, _, _, _] (by simp)) ?_); simp -dsimp (maxSteps := 2000000) [go_sem, -decide_eq_true_eq, -decide_eq_false_iff_not]) | omega | exact True.intro
 all_goals clear hk k
 refine rg [1,3,17] ?_
 intro k hk; simp -dsimp [go_sem, -decide_eq_true_eq, -decide_eq_false_iff_not]
 repeat' first | apply And.intro | refine hk _ ?_ | intro hg | omega | exact True.intro
 all_goals clear hk k
 refine AW.cond rfl ?_ ?_
 ·intro hc; try simp at hc
  all_goals (
   refine rg [2] ?_
   intro k hk; simp -dsimp [go_sem, -decide_eq_true_eq, -decide_eq_false_iff_not]
   repeat' first | apply And.intro | refine hk _ ?_ | intro hg | omega | exact True.intro
   all_goals clear hk k
   refine rt ?_
   first | (rw [deskF_ok q1 q2 (fun k hk => hall k (by omega))]; simp [go_sem, Tryz.results20]; done) | (have hv : claimF d i = 3 := (by rw [hcf, if_pos (by simpa using hc)]); rw [deskF_hit q1 q2 hlt hall (by rw [hv]; decide), hv]; simp [go_sem, Tryz.results20]; done) | (have hv : claimF d i = 4 := (by rw [hcf, if_neg (by rw [← hu]; simp [hpl.1, hpl.2]), if_pos (by first | assumption | simpa using hc)]); rw [deskF_hit q1 q2 hlt hall (by rw [hv]; decide), hv]; simp [go_sem, Tryz.results20]; done) | (have hv : claimF d i = 1 := (by rw [hcf, if_neg (by rw [← hu]; simp [hpl.1, hpl.2]), if_neg (by rw [hopn]; simp), if_pos (by simpa using hc)]); rw [deskF_hit q1 q2 hlt hall (by rw [hv]; decide), hv]; simp [go_sem, Tryz.results20]; done) | (simp [go_sem, Tryz.results20, firstC_cons, firstC_nil] at *; unfold deskF; grind))
 ·intro hc; try simp at hc
  all_goals (
   refine AW.skipN (fun _ h => h) ?_
   refine AW.seq ?_
   have q1 : engF d.engine = 0 := by simp [firstC_cons, firstC_nil] at hc; grind
   have q2 : ¬ 60 < d.claims.length := by simp [firstC_cons, firstC_nil] at hc; grind
   have hil := (engF_zero q1).1
   refine rg [1,20,21,22] ?_
   intro k hk; simp -dsimp [go_sem, -decide_eq_true_eq, -decide_eq_false_iff_not]
   repeat' first | apply And.intro | refine hk _ ?_ | intro hg | omega | exact True.intro
   all_goals clear hk k
   refine AW.block ?_
   refine AW.loopI (fun i : Nat => ⟨66, [(1, .ptr 1 4 0 0), (20, .isl 3 (d.claims.map TClaim.ro)), (21, .int .i64 d.claims.length), (22, .int .i64 i)], [(1, some ⟨4, [d.ro]⟩)]⟩) (fun i => i ≤ d.claims.length ∧ ∀ k, k < i → claimF d k = 0) (fun i => d.claims.length - i) (0) (by simp) (Less.of rfl (by simp [go_sem]) (by simp [go_sem])) ?_
   rintro i ⟨hi, hall⟩
   refine rg [1,20,21,22,23] ?_
   intro k hk; simp -dsimp [go_sem, -decide_eq_true_eq, -decide_eq_false_iff_not]
   repeat' first | apply And.intro | refine hk _ ?_ | intro hg | omega | exact True.intro
   all_goals clear hk k
   refine AW.seq ?_
   refine AW.cond rfl ?_ ?_
   ·intro hc; try simp at hc
    all_goals (
     have hlt : i < d.claims.length := by assumption
     obtain ⟨x, hx⟩ := at_some hlt
     obtain ⟨z, hz⟩ := at_some (l := d.claims) (show i - 1 < d.claims.length by omega)
     have hcf := claimF_at hx hz
     have hwz : IntKind.wrap .i64 ((i : Int) - 1) = (i : Int) - 1 := wrap64 (by omega) (by omega)
     have hzt : ((i : Int) - 1).toNat = i - 1 := by omega
     have hi0 : (decide (0 < (i : Int))) = decide (0 < i) := by by_cases h : 0 < i <;> simp [h]
     refine AW.skipN (fun _ h => h) ?_
     refine AW.seq ?_
     refine AW.block ?_
     refine rg [1,4,5,20,21,22] ?_
     intro k hk; simp -dsimp [go_sem, -decide_eq_true_eq, -decide_eq_false_iff_not, hx, hz, hwz, hzt]
     repeat' first | apply And.intro | refine hk _ ?_ | intro hg | omega | exact True.intro
     all_goals clear hk k
     refine AW.block ?_
     refine AW.cut ⟨66, [(1, .ptr 1 4 0 0), (4, .int .i64 i), (5, .ptr 5 3 0 0), (20, .isl 3 (d.claims.map TClaim.ro)), (21, .int .i64 d.claims.length), (22, .int .i64 i), (27, .bool (decide (inR x.inst 0 ((d.engine.insts.length : Int) - 1) = false ∨ inR x.user 1 9 = false)))], [(1, some ⟨4, [d.ro]⟩), (5, some ⟨3, [x.ro]⟩)]⟩ ?_ ?_
     ·skip
      refine rgK ?_
      intro k hk; simp +contextual -dsimp (maxSteps := 2000000) [go_sem, -decide_eq_true_eq, -decide_eq_false_iff_not, hx, hz, hwz, hzt]
      repeat' first | apply And.intro | refine hk _ ?_ | (intro hg; try simp only [decide_eq_true_eq, decide_eq_false_iff_not] at hg) | ((first | refine CallK.intro (dc_impl_isPlace _ _ (by omega)) ?_ | refine CallK.intro (dc_impl_isUser _) ?_); simp +contextual -dsimp (maxSteps := 2000000) [go_sem, -decide_eq_true_eq, -decide_eq_false_iff_not, hx, hz, hwz, hzt]) | omega | exact True.intro
      all_goals clear hk k
      all_goals (show St.Less _ _; exact Less.of rfl (by simp [go_sem] <;> first | omega | grind) (by simp [go_sem]))
     ·skip
      refine AW.cond rfl ?_ ?_
      ·intro hc; try simp at hc
       all_goals (
        refine rg [2] ?_
        intro k hk; simp -dsimp [go_sem, -decide_eq_true_eq, -decide_eq_false_iff_not, hx, hz, hwz, hzt]
        repeat' first | apply And.intro | refine hk _ ?_ | intro hg | omega | exact True.intro
        all_goals clear hk k
        refine rt ?_
        first | (rw [deskF_ok q1 q2 (fun k hk => hall k (by omega))]; simp [go_sem, Tryz.results20]; done) | (have hv : claimF d i = 3 := (by rw [hcf, if_pos (by simpa using hc)]); rw [deskF_hit q1 q2 hlt hall (by rw [hv]; decide), hv]; simp [go_sem, Tryz.results20]; done) | (have hv : claimF d i = 4 := (by rw [hcf, if_neg (by rw [← hu]; simp [hpl.1, hpl.2]), if_pos (by first | assumption | simpa using hc)]); rw [deskF_hit q1 q2 hlt hall (by rw [hv]; decide), hv]; simp [go_sem, Tryz.results20]; done) | (have hv : claimF d i = 1 := (by rw [hcf, if_neg (by rw [← hu]; simp [hpl.1, hpl.2]), if_neg (by rw [hopn]; simp), if_pos (by simpa using hc)]); rw [deskF_hit q1 q2 hlt hall (by rw [hv]; decide), hv]; simp [go_sem, Tryz.results20]; done) | (simp [go_sem, Tryz.results20, firstC_cons, firstC_nil] at *; unfold deskF; grind))
      ·intro hc; try simp at hc
       all_goals (
        have hpl : inR x.inst 0 ((d.engine.insts.length : Int) - 1) = true ∧ inR x.user 1 9 = true := by simpa using hc
        have hpl2 := inR_iff.1 hpl.1
        obtain ⟨u, hu⟩ : ∃ u : Nat, x.inst = u := ⟨_, (Int.toNat_of_nonneg hpl2.1).symm⟩
        obtain ⟨w, hw0⟩ := at_some (l := d.engine.insts) (show u < d.engine.insts.length by omega)
        obtain ⟨h0, y, hy, hc1, _⟩ := inst_ok q1 hw0
        obtain ⟨k1, k2, k3, k4, k5, k6⟩ := chart1_ok hc1
        have hyl := (procOk k1).len
        rw [hu] at hcf
        refine rg [1,4,5,20,21,22,42] ?_
        intro k hk; simp -dsimp (maxSteps := 2000000) [go_sem, -decide_eq_true_eq, -decide_eq_false_iff_not, hx, hz, hwz, hzt, hu]
        repeat' first | apply And.intro | refine hk _ ?_ | intro hg | (refine CallK.intro (dc_impl_Engine_isOpen d.engine u w y x.step hw0 h0 hy hyl.2 k5) ?_; simp -dsimp (maxSteps := 2000000) [go_sem, -decide_eq_true_eq, -decide_eq_false_iff_not, hx, hz, hwz, hzt, hu]) | omega | exact True.intro
        all_goals clear hk k
        refine AW.cond rfl ?_ ?_
        ·intro hc; try simp at hc
         all_goals (
          refine rg [2] ?_
          intro k hk; simp -dsimp [go_sem, -decide_eq_true_eq, -decide_eq_false_iff_not, hx, hz, hwz, hzt]
          repeat' first | apply And.intro | refine hk _ ?_ | intro hg | omega | exact True.intro
          all_goals clear hk k
          refine rt ?_
          first | (rw [deskF_ok q1 q2 (fun k hk => hall k (by omega))]; simp [go_sem, Tryz.results20]; done) | (have hv : claimF d i = 3 := (by rw [hcf, if_pos (by simpa using hc)]); rw [deskF_hit q1 q2 hlt hall (by rw [hv]; decide), hv]; simp [go_sem, Tryz.results20]; done) | (have hv : claimF d i = 4 := (by rw [hcf, if_neg (by rw [← hu]; simp [hpl.1, hpl.2]), if_pos (by first | assumption | simpa using hc)]); rw [deskF_hit q1 q2 hlt hall (by rw [hv]; decide), hv]; simp [go_sem, Tryz.results20]; done) | (have hv : claimF d i = 1 := (by rw [hcf, if_neg (by rw [← hu]; simp [hpl.1, hpl.2]), if_neg (by rw [hopn]; simp), if_pos (by simpa using hc)]); rw [deskF_hit q1 q2 hlt hall (by rw [hv]; decide), hv]; simp [go_sem, Tryz.results20]; done) | (simp [go_sem, Tryz.results20, firstC_cons, firstC_nil] at *; unfold deskF; grind))
        ·intro hc; try simp at hc
         all_goals (
          have hopn : openT d.engine (u : Int) x.step = true := by first | assumption | simpa using hc
          try rw [← hu]
          refine AW.cut ⟨66, [(1, .ptr 1 4 0 0), (20, .isl 3 (d.claims.map TClaim.ro)), (21, .int .i64 d.claims.length), (22, .int .i64 i), (51, .bool (decide (0 < i ∧ aheadC z x = false)))], [(1, some ⟨4, [d.ro]⟩)]⟩ ?_ ?_
          ·skip
           refine rgK ?_
           intro k hk; simp +contextual -dsimp (maxSteps := 2000000) [go_sem, -decide_eq_true_eq, -decide_eq_false_iff_not, hx, hz, hwz, hzt]
           repeat' first | apply And.intro | (refine Chk.keys ?_; simp only [go_sem, List.map_cons, List.map_nil, List.flatMap_cons, List.flatMap_nil, List.flatMap_append, List.append_nil, List.nil_append, List.cons_append]; decide +kernel) | refine hk _ ?_ | (intro hg; try simp only [decide_eq_true_eq, decide_eq_false_iff_not] at hg) | (refine CallK.intro (dc_impl_compareClaims _ _) ?_; simp +contextual -dsimp (maxSteps := 2000000) [go_sem, -decide_eq_true_eq, -decide_eq_false_iff_not, hx, hz, hwz, hzt]) | omega | exact True.intro
           all_goals clear hk k
           all_goals (show St.Less _ _; exact Less.of rfl (by simp [go_sem, cmp_nn] <;> grind) (by simp [go_sem]))
          ·skip
           refine AW.cond rfl ?_ ?_
           ·intro hc; try simp at hc
            all_goals (
             refine rg [2] ?_
             intro k hk; simp -dsimp [go_sem, -decide_eq_true_eq, -decide_eq_false_iff_not, hx, hz, hwz, hzt]
             repeat' first | apply And.intro | refine hk _ ?_ | intro hg | omega | exact True.intro
             all_goals clear hk k
             refine rt ?_
             first | (rw [deskF_ok q1 q2 (fun k hk => hall k (by omega))]; simp [go_sem, Tryz.results20]; done) | (have hv : claimF d i = 3 := (by rw [hcf, if_pos (by simpa using hc)]); rw [deskF_hit q1 q2 hlt hall (by rw [hv]; decide), hv]; simp [go_sem, Tryz.results20]; done) | (have hv : claimF d i = 4 := (by rw [hcf, if_neg (by rw [← hu]; simp [hpl.1, hpl.2]), if_pos (by first | assumption | simpa using hc)]); rw [deskF_hit q1 q2 hlt hall (by rw [hv]; decide), hv]; simp [go_sem, Tryz.results20]; done) | (have hv : claimF d i = 1 := (by rw [hcf, if_neg (by rw [← hu]; simp [hpl.1, hpl.2]), if_neg (by rw [hopn]; simp), if_pos (by simpa using hc)]); rw [deskF_hit q1 q2 hlt hall (by rw [hv]; decide), hv]; simp [go_sem, Tryz.results20]; done) | (simp [go_sem, Tryz.results20, firstC_cons, firstC_nil] at *; unfold deskF; grind))
           ·intro hc; try simp at hc
            all_goals (
             refine AW.skipN (fun _ h => h) ?_
             refine rgK ?_
             intro k hk; simp -dsimp [go_sem, -decide_eq_true_eq, -decide_eq_false_iff_not, hx, hz, hwz, hzt]
             repeat' first | apply And.intro | refine hk _ ?_ | intro hg | omega | exact True.intro
             all_goals clear hk k
             show ∃ _, _
             have hw := wrapi hlt (by omega)
             have hv : claimF d i = 0 := by rw [hcf, if_neg (by rw [← hu]; simp [hpl.1, hpl.2]), if_neg (by rw [hopn]; simp), if_neg (by simpa using hc)]
             refine ⟨i + 1, ⟨by omega, upto hall hv⟩, by omega, Less.of rfl (by simp [go_sem, hw]) (by simp [go_sem])⟩))))
   ·intro hc; try simp at hc
    all_goals (
     refine AW.exitN (fun _ h => h) ?_
     refine rg [2] ?_
     intro k hk; simp -dsimp [go_sem, -decide_eq_true_eq, -decide_eq_false_iff_not]
     repeat' first | apply And.intro | refine hk _ ?_ | intro hg | omega | exact True.intro
     all_goals clear hk k
     refine rt ?_
     first | (rw [deskF_ok q1 q2 (fun k hk => hall k (by omega))]; simp [go_sem, Tryz.results20]; done) | (have hv : claimF d i = 3 := (by rw [hcf, if_pos (by simpa using hc)]); rw [deskF_hit q1 q2 hlt hall (by rw [hv]; decide), hv]; simp [go_sem, Tryz.results20]; done) | (have hv : claimF d i = 4 := (by rw [hcf, if_neg (by rw [← hu]; simp [hpl.1, hpl.2]), if_pos (by first | assumption | simpa using hc)]); rw [deskF_hit q1 q2 hlt hall (by rw [hv]; decide), hv]; simp [go_sem, Tryz.results20]; done) | (have hv : claimF d i = 1 := (by rw [hcf, if_neg (by rw [← hu]; simp [hpl.1, hpl.2]), if_neg (by rw [hopn]; simp), if_pos (by simpa using hc)]); rw [deskF_hit q1 q2 hlt hall (by rw [hv]; decide), hv]; simp [go_sem, Tryz.results20]; done) | (simp [go_sem, Tryz.results20, firstC_cons, firstC_nil] at *; unfold deskF; grind)))

end Go.AM

/-! ### D3 -/
set_option linter.unusedVariables false
set_option linter.unusedSimpArgs false
set_option maxHeartbeats 600000
set_option maxRecDepth 100000
namespace Go.AM
open Go.Proofs

/-- spec.l12Fault -/
theorem dc_spec_l12Fault (d : TDesk) (hg : d.gok) : DC Tryz.prog 50 [.ip d.ro] (.int .i64 (deskF d)) [] := by
 obtain ⟨g0, g1⟩ := hg
 refine DC.intro tiOk Tryz.func50 rfl rfl rfl rfl rfl rfl rfl rfl [] ?_
 refine rg [0] ?_
 intro k hk; simp -dsimp [go_sem, -decide_eq_true_eq, -decide_eq_false_iff_not]
 repeat' first | apply And.intro | refine hk _ ?_ | intro hg | omega | exact True.intro
 all_goals clear hk k
 refine AW.seq ?_
 refine rg [0,3] ?_
 intro k hk; simp -dsimp (maxSteps := 2000000) [go_sem, -decide_eq_true_eq, -decide_eq_false_iff_not]
 repeat' first | apply And.intro | refine hk _ ?_ | intro hg | (refine CallK.intro ((dc_spec_l11Fault d.engine g0).ipMore1 [.isl 3 (d.claims.map TClaim.ro)]) ?_; simp -dsimp (maxSteps := 2000000) [go_sem, -decide_eq_true_eq, -decide_eq_false_iff_not]) | omega | exact True.intro
 all_goals clear hk k
 refine rg [0,3,11] ?_
 intro k hk; simp -dsimp [go_sem, -decide_eq_true_eq, -decide_eq_false_iff_not]
 repeat' first | apply And.intro | refine hk _ ?_ | intro hg | omega | exact True.intro
 all_goals clear hk k
 refine AW.cond rfl ?_ ?_
 ·intro hc; try simp at hc
  all_goals (
   refine rg [2] ?_
   intro k hk; simp -dsimp [go_sem, -decide_eq_true_eq, -decide_eq_false_iff_not]
   repeat' first | apply And.intro | refine hk _ ?_ | intro hg | omega | exact True.intro
   all_goals clear hk k
   refine rt ?_
   first | (rw [deskF_ok q1 q2 (fun k hk => hall k (by omega))]; simp [go_sem, Tryz.results50]; done) | (have hv : claimF d i = 3 := (by rw [hcf, if_pos (by simpa using hc)]); rw [deskF_hit q1 q2 hlt hall (by rw [hv]; decide), hv]; simp [go_sem, Tryz.results50]; done) | (have hv : claimF d i = 4 := (by rw [hcf, if_neg (by rw [← hu]; simp [hpl.1, hpl.2]), if_pos (by first | assumption | simpa using hc)]); rw [deskF_hit q1 q2 hlt hall (by rw [hv]; decide), hv]; simp [go_sem, Tryz.results50]; done) | (have hv : claimF d i = 1 := (by rw [hcf, if_neg (by rw [← hu]; simp [hpl.1, hpl.2]), if_neg (by rw [hopn]; simp), if_pos (by simpa using hc)]); rw [deskF_hit q1 q2 hlt hall (by rw [hv]; decide), hv]; simp [go_sem, Tryz.results50]; done) | (simp [go_sem, Tryz.results50, firstC_cons, firstC_nil] at *; unfold deskF; grind))
 ·intro hc; try simp at hc
  all_goals (
   refine AW.skipN (fun _ h => h) ?_
   refine AW.seq ?_
   refine rg [0,18] ?_
   intro k hk; simp -dsimp [go_sem, -decide_eq_true_eq, -decide_eq_false_iff_not]
   repeat' first | apply And.intro | refine hk _ ?_ | intro hg | omega | exact True.intro
   all_goals clear hk k
   refine AW.cond rfl ?_ ?_
   ·intro hc; try simp at hc
    all_goals (
     refine rg [2] ?_
     intro k hk; simp -dsimp [go_sem, -decide_eq_true_eq, -decide_eq_false_iff_not]
     repeat' first | apply And.intro | refine hk _ ?_ | intro hg | omega | exact True.intro
     all_goals clear hk k
     refine rt ?_
     first | (rw [deskF_ok q1 q2 (fun k hk => hall k (by omega))]; simp [go_sem, Tryz.results50]; done) | (have hv : claimF d i = 3 := (by rw [hcf, if_pos (by simpa using hc)]); rw [deskF_hit q1 q2 hlt hall (by rw [hv]; decide), hv]; simp [go_sem, Tryz.results50]; done) | (have hv : claimF d i = 4 := (by rw [hcf, if_neg (by rw [← hu]; simp [hpl.1, hpl.2]), if_pos (by first | assumption | simpa using hc)]); rw [deskF_hit q1 q2 hlt hall (by rw [hv]; decide), hv]; simp [go_sem, Tryz.results50]; done) | (have hv : claimF d i = 1 := (by rw [hcf, if_neg (by rw [← hu]; simp [hpl.1, hpl.2]), if_neg (by rw [hopn]; simp), if_pos (by simpa using hc)]); rw [deskF_hit q1 q2 hlt hall (by rw [hv]; decide), hv]; simp [go_sem, Tryz.results50]; done) | (simp [go_sem, Tryz.results50, firstC_cons, firstC_nil] at *; unfold deskF; grind))
   ·intro hc; try simp at hc
    all_goals (
     refine AW.skipN (fun _ h => h) ?_
     refine AW.seq ?_
     have q1 : engF d.engine = 0 := by assumption
     have q2 : ¬ 60 < d.claims.length := by omega
     have hil := (engF_zero q1).1
     have hwq : IntKind.wrap .i64 ((d.engine.insts.length : Int) - 1) = (d.engine.insts.length : Int) - 1 := wrap64 (by omega) (by omega)
     refine rg [0,4] ?_
     intro k hk; simp -dsimp [go_sem, -decide_eq_true_eq, -decide_eq_false_iff_not]
     repeat' first | apply And.intro | refine hk _ ?_ | intro hg | omega | exact True.intro
     all_goals clear hk k
     refine AW.block ?_
     refine AW.loopI (fun i : Nat => ⟨76, [(0, .ip d.ro), (4, .int .i64 i)], []⟩) (fun i => i ≤ d.claims.length ∧ ∀ k, k < i → claimF d k = 0) (fun i => d.claims.length - i) (0) (by simp) (Less.of rfl (by simp [go_sem]) (by simp [go_sem])) ?_
     rintro i ⟨hi, hall⟩
     refine AW.seq ?_
     refine rg [0,4,25] ?_
     intro k hk; simp -dsimp (maxSteps := 2000000) [go_sem, -decide_eq_true_eq, -decide_eq_false_iff_not]
     repeat' first | apply And.intro | refine hk _ ?_ | intro hg | omega | exact True.intro
     all_goals clear hk k
     refine AW.cond rfl ?_ ?_
     ·intro hc; try simp at hc
      all_goals (
       have hlt : i < d.claims.length := by assumption
       obtain ⟨x, hx⟩ := at_some hlt
       obtain ⟨z, hz⟩ := at_some (l := d.claims) (show i - 1 < d.claims.length by omega)
       have hcf := claimF_at hx hz
       have hwz : IntKind.wrap .i64 ((i : Int) - 1) = (i : Int) - 1 := wrap64 (by omega) (by omega)
       have hzt : ((i : Int) - 1).toNat = i - 1 := by omega
       have hi0 : (decide (0 < (i : Int))) = decide (0 < i) := by by_cases h : 0 < i <;> simp [h]
       refine AW.skipN (fun _ h => h) ?_
       refine AW.seq ?_
       refine AW.block ?_
       refine rg [0,4,5] ?_
       intro k hk; simp -dsimp (maxSteps := 2000000) [go_sem, -decide_eq_true_eq, -decide_eq_false_iff_not, hx, hz, hwz, hzt]
       repeat' first | apply And.intro | refine hk _ ?_ | intro hg | omega | exact True.intro
       all_goals clear hk k
       refine AW.seq ?_
       refine AW.cut ⟨76, [(0, .ip d.ro), (4, .int .i64 i), (5, .ptr 5 3 0 0), (51, .bool (decide (inR x.inst 0 ((d.engine.insts.length : Int) - 1) = false ∨ inR x.user 1 9 = false)))], [(5, some ⟨3, [x.ro]⟩)]⟩ ?_ ?_
       ·skip
        refine rgK ?_
        intro k hk; simp +contextual -dsimp (maxSteps := 2000000) [go_sem, -decide_eq_true_eq, -decide_eq_false_iff_not, hx, hz, hwz, hzt, hwq]
        repeat' first | apply And.intro | (refine Chk.keys ?_; simp only [go_sem, List.map_cons, List.map_nil, List.flatMap_cons, List.flatMap_nil, List.flatMap_append, List.append_nil, List.nil_append, List.cons_append]; decide +kernel) | refine hk _ ?_ | (intro hg; try simp only [decide_eq_true_eq, decide_eq_false_iff_not] at hg) | ((first | refine CallK.intro (dc_spec_l1In _ _ _) ?_ | refine CallK.intro (dc_spec_l12User _) ?_); simp +contextual -dsimp (maxSteps := 2000000) [go_sem, -decide_eq_true_eq, -decide_eq_false_iff_not, hx, hz, hwz, hzt, hwq]) | omega | exact True.intro
        all_goals clear hk k
        all_goals (show St.Less _ _; exact Less.of rfl (by simp [go_sem] <;> first | omega | grind) (by simp [go_sem]))
       ·skip
        refine AW.cond rfl ?_ ?_
        ·intro hc; try simp at hc
         all_goals (
          refine rg [2] ?_
          intro k hk; simp -dsimp [go_sem, -decide_eq_true_eq, -decide_eq_false_iff_not, hx, hz, hwz, hzt]
          repeat' first | apply And.intro | refine hk _ ?_ | intro hg | omega | exact True.intro
          all_goals clear hk k
          refine rt ?_
          first | (rw [deskF_ok q1 q2 (fun k hk => hall k (by omega))]; simp [go_sem, Tryz.results50]; done) | (have hv : claimF d i = 3 := (by rw [hcf, if_pos (by simpa using hc)]); rw [deskF_hit q1 q2 hlt hall (by rw [hv]; decide), hv]; simp [go_sem, Tryz.results50]; done) | (have hv : claimF d i = 4 := (by rw [hcf, if_neg (by rw [← hu]; simp [hpl.1, hpl.2]), if_pos (by first | assumption | simpa using hc)]); rw [deskF_hit q1 q2 hlt hall (by rw [hv]; decide), hv]; simp [go_sem, Tryz.results50]; done) | (have hv : claimF d i = 1 := (by rw [hcf, if_neg (by rw [← hu]; simp [hpl.1, hpl.2]), if_neg (by rw [hopn]; simp), if_pos (by simpa using hc)]); rw [deskF_hit q1 q2 hlt hall (by rw [hv]; decide), hv]; simp [go_sem, Tryz.results50]; done) | (simp [go_sem, Tryz.results50, firstC_cons, firstC_nil] at *; unfold deskF; grind))
        ·intro hc; try simp at hc
         all_goals (
          refine AW.skipN (fun _ h => h) ?_
          refine AW.seq ?_
          have hpl : inR x.inst 0 ((d.engine.insts.length : Int) - 1) = true ∧ inR x.user 1 9 = true := by simpa using hc
          have hpl2 := inR_iff.1 hpl.1
          obtain ⟨u, hu⟩ : ∃ u : Nat, x.inst = u := ⟨_, (Int.toNat_of_nonneg hpl2.1).symm⟩
          obtain ⟨w, hw0⟩ := at_some (l := d.engine.insts) (show u < d.engine.insts.length by omega)
          obtain ⟨h0, y, hy, hc1, _⟩ := inst_ok q1 hw0
          obtain ⟨k1, k2, k3, k4, k5, k6⟩ := chart1_ok hc1
          have hyl := (procOk k1).len
          rw [hu] at hcf
          refine rg [0,4,5,60] ?_
          intro k hk; simp -dsimp (maxSteps := 2000000) [go_sem, -decide_eq_true_eq, -decide_eq_false_iff_not, hx, hz, hwz, hzt, hu]
          repeat' first | apply And.intro | (refine Chk.keys ?_; simp only [go_sem, List.map_cons, List.map_nil, List.flatMap_cons, List.flatMap_nil, List.flatMap_append, List.append_nil, List.nil_append, List.cons_append]; decide +kernel) | refine hk _ ?_ | intro hg | (refine CallK.intro ((dc_spec_l12Open d.engine u w y x.step hw0 h0 hy hyl.2 k5).ipMore1 [.isl 3 (d.claims.map TClaim.ro)]) ?_; simp -dsimp (maxSteps := 2000000) [go_sem, -decide_eq_true_eq, -decide_eq_false_iff_not, hx, hz, hwz, hzt, hu]) | omega | exact True.intro
          all_goals clear hk k
          refine AW.cond rfl ?_ ?_
          ·intro hc; try simp at hc
           all_goals (
            refine rg [2] ?_
            intro k hk; simp -dsimp [go_sem, -decide_eq_true_eq, -decide_eq_false_iff_not, hx, hz, hwz, hzt]
            repeat' first | apply And.intro | refine hk _ ?_ | intro hg | omega | exact True.intro
            all_goals clear hk k
            refine rt ?_
            first | (rw [deskF_ok q1 q2 (fun k hk => hall k (by omega))]; simp [go_sem, Tryz.results50]; done) | (have hv : claimF d i = 3 := (by rw [hcf, if_pos (by simpa using hc)]); rw [deskF_hit q1 q2 hlt hall (by rw [hv]; decide), hv]; simp [go_sem, Tryz.results50]; done) | (have hv : claimF d i = 4 := (by rw [hcf, if_neg (by rw [← hu]; simp [hpl.1, hpl.2]), if_pos (by first | assumption | simpa using hc)]); rw [deskF_hit q1 q2 hlt hall (by rw [hv]; decide), hv]; simp [go_sem, Tryz.results50]; done) | (have hv : claimF d i = 1 := (by rw [hcf, if_neg (by rw [← hu]; simp [hpl.1, hpl.2]), if_neg (by rw [hopn]; simp), if_pos (by simpa using hc)]); rw [deskF_hit q1 q2 hlt hall (by rw [hv]; decide), hv]; simp [go_sem, Tryz.results50]; done) | (simp [go_sem, Tryz.results50, firstC_cons, firstC_nil] at *; unfold deskF; grind))
          ·intro hc; try simp at hc
           all_goals (
            refine AW.skipN (fun _ h => h) ?_
            have hopn : openT d.engine (u : Int) x.step = true := by first | assumption | simpa using hc
            try rw [← hu]
            refine AW.cut ⟨76, [(0, .ip d.ro), (4, .int .i64 i), (75, .bool (decide (0 < i ∧ aheadC z x = false)))], []⟩ ?_ ?_
            ·skip
             refine rgK ?_
             intro k hk; simp +contextual -dsimp (maxSteps := 2000000) [go_sem, -decide_eq_true_eq, -decide_eq_false_iff_not, hx, hz, hwz, hzt]
             repeat' first | apply And.intro | (refine Chk.keys ?_; simp only [go_sem, List.map_cons, List.map_nil, List.flatMap_cons, List.flatMap_nil, List.flatMap_append, List.append_nil, List.nil_append, List.cons_append]; decide +kernel) | refine hk _ ?_ | (intro hg; try simp only [decide_eq_true_eq, decide_eq_false_iff_not] at hg) | (refine CallK.intro (dc_spec_l12Ahead _ _) ?_; simp +contextual -dsimp (maxSteps := 2000000) [go_sem, -decide_eq_true_eq, -decide_eq_false_iff_not, hx, hz, hwz, hzt]) | omega | exact True.intro
             all_goals clear hk k
             all_goals (show St.Less _ _; exact Less.of rfl (by simp [go_sem] <;> first | omega | grind) (by simp [go_sem]))
            ·skip
             refine AW.cond rfl ?_ ?_
             ·intro hc; try simp at hc
              all_goals (
               refine rg [2] ?_
               intro k hk; simp -dsimp [go_sem, -decide_eq_true_eq, -decide_eq_false_iff_not, hx, hz, hwz, hzt]
               repeat' first | apply And.intro | refine hk _ ?_ | intro hg | omega | exact True.intro
               all_goals clear hk k
               refine rt ?_
               first | (rw [deskF_ok q1 q2 (fun k hk => hall k (by omega))]; simp [go_sem, Tryz.results50]; done) | (have hv : claimF d i = 3 := (by rw [hcf, if_pos (by simpa using hc)]); rw [deskF_hit q1 q2 hlt hall (by rw [hv]; decide), hv]; simp [go_sem, Tryz.results50]; done) | (have hv : claimF d i = 4 := (by rw [hcf, if_neg (by rw [← hu]; simp [hpl.1, hpl.2]), if_pos (by first | assumption | simpa using hc)]); rw [deskF_hit q1 q2 hlt hall (by rw [hv]; decide), hv]; simp [go_sem, Tryz.results50]; done) | (have hv : claimF d i = 1 := (by rw [hcf, if_neg (by rw [← hu]; simp [hpl.1, hpl.2]), if_neg (by rw [hopn]; simp), if_pos (by simpa using hc)]); rw [deskF_hit q1 q2 hlt hall (by rw [hv]; decide), hv]; simp [go_sem, Tryz.results50]; done) | (simp [go_sem, Tryz.results50, firstC_cons, firstC_nil] at *; unfold deskF; grind))
             ·intro hc; try simp at hc
              all_goals (
               refine AW.skipN (fun _ h => h) ?_
               refine rgK ?_
               intro k hk; simp -dsimp [go_sem, -decide_eq_true_eq, -decide_eq_false_iff_not, hx, hz, hwz, hzt]
               repeat' first | apply And.intro | refine hk _ ?_ | intro hg | omega | exact True.intro
               all_goals clear hk k
               show ∃ _, _
               have hw := wrapi hlt (by omega)
               have hv : claimF d i = 0 := by rw [hcf, if_neg (by rw [← hu]; simp [hpl.1, hpl.2]), if_neg (by rw [hopn]; simp), if_neg (by simpa using hc)]
               refine ⟨i + 1, ⟨by omega, upto hall hv⟩, by omega, Less.of rfl (by simp [go_sem, hw]) (by simp [go_sem])⟩))))
     ·intro hc; try simp at hc
      all_goals (
       refine AW.exitN (fun _ h => h) ?_
       refine rg [2] ?_
       intro k hk; simp -dsimp [go_sem, -decide_eq_true_eq, -decide_eq_false_iff_not]
       repeat' first | apply And.intro | refine hk _ ?_ | intro hg | omega | exact True.intro
       all_goals clear hk k
       refine rt ?_
       first | (rw [deskF_ok q1 q2 (fun k hk => hall k (by omega))]; simp [go_sem, Tryz.results50]; done) | (have hv : claimF d i = 3 := (by rw [hcf, if_pos (by simpa using hc)]); rw [deskF_hit q1 q2 hlt hall (by rw [hv]; decide), hv]; simp [go_sem, Tryz.results50]; done) | (have hv : claimF d i = 4 := (by rw [hcf, if_neg (by rw [← hu]; simp [hpl.1, hpl.2]), if_pos (by first | assumption | simpa using hc)]); rw [deskF_hit q1 q2 hlt hall (by rw [hv]; decide), hv]; simp [go_sem, Tryz.results50]; done) | (have hv : claimF d i = 1 := (by rw [hcf, if_neg (by rw [← hu]; simp [hpl.1, hpl.2]), if_neg (by rw [hopn]; simp), if_pos (by simpa using hc)]); rw [deskF_hit q1 q2 hlt hall (by rw [hv]; decide), hv]; simp [go_sem, Tryz.results50]; done) | (simp [go_sem, Tryz.results50, firstC_cons, firstC_nil] at *; unfold deskF; grind))))

end Go.AM

/-! ### Pt7 -/
set_option linter.unusedVariables false
set_option linter.unusedSimpArgs false
namespace Go.AM
def cmpC (a b : TClaim) : Int := firstC [cmpI a.inst b.inst, cmpI a.step b.step]
theorem cmpC_lt {a b : TClaim} : cmpC a b < 0 ↔ aheadC a b = true := by
  have := cmp_nn a b
  unfold cmpC
  constructor
  · intro h
    cases h2 : aheadC a b with
    | true => rfl
    | false => have := this.2 h2; omega
  · intro h
    rcases Int.lt_or_le (firstC [cmpI a.inst b.inst, cmpI a.step b.step]) 0 with h2 | h2
    · exact h2
    · rw [this.1 h2] at h; cases h
theorem cmpC_eq {a b : TClaim} : cmpC a b = 0 ↔ a.inst = b.inst ∧ a.step = b.step := by
  unfold cmpC cmpI
  simp only [firstC_cons, firstC_nil]
  grind
theorem ahead_trans {a b c : TClaim} (h : aheadC a b = true) (h2 : aheadC b c = true) : aheadC a c = true := by
  unfold aheadC at *
  simp only [Bool.or_eq_true, Bool.and_eq_true, decide_eq_true_eq] at *
  omega
theorem ahead_eq {a b : TClaim} (h : aheadC a b = true) : ¬ (a.inst = b.inst ∧ a.step = b.step) := by
  unfold aheadC at h
  simp only [Bool.or_eq_true, Bool.and_eq_true, decide_eq_true_eq] at h
  omega
def isC (i s : Int) (c : TClaim) : Bool := decide (c.inst = i) && decide (c.step = s)
def hasC (l : List TClaim) (i s : Int) : Bool := l.any (isC i s)
def posC (l : List TClaim) (t : TClaim) : Nat := (l.filter fun c => aheadC c t).length
def SortC (l : List TClaim) : Prop := ∀ (i j : Nat) (x y : TClaim), i < j → l[i]? = some x → l[j]? = some y → aheadC x y = true
theorem bs_lo {l : List TClaim} {t x : TClaim} {h : Nat} (hs : SortC l) (hx : l[h]? = some x) (ha : aheadC x t = true) : ∀ k z, k < h + 1 → l[k]? = some z → aheadC z t = true := by
  intro k z hk hz
  rcases Nat.lt_or_ge k h with h1 | h1
  · exact ahead_trans (hs k h z x h1 hz hx) ha
  · have : k = h := by omega
    subst this; rw [hx] at hz; cases hz; exact ha
theorem bs_hi {l : List TClaim} {t x : TClaim} {h : Nat} (hs : SortC l) (hx : l[h]? = some x) (ha : aheadC x t = false) : ∀ k z, h ≤ k → l[k]? = some z → aheadC z t = false := by
  intro k z hk hz
  rcases Nat.lt_or_ge h k with h1 | h1
  · cases h2 : aheadC z t with
    | false => rfl
    | true => rw [ahead_trans (hs h k x z h1 hx hz) h2] at ha; cases ha
  · have : k = h := by omega
    subst this; rw [hx] at hz; cases hz; exact ha
theorem bs_end {l : List TClaim} {t : TClaim} {i : Nat} (hi : i ≤ l.length) (h1 : ∀ k x, k < i → l[k]? = some x → aheadC x t = true) (h2 : ∀ k x, i ≤ k → l[k]? = some x → aheadC x t = false) : posC l t = i := by
  unfold posC
  conv => lhs; rw [← List.take_append_drop i l]
  rw [List.filter_append]
  have e1 : (l.take i).filter (fun c => aheadC c t) = l.take i := by
    rw [List.filter_eq_self]
    intro x hx
    obtain ⟨k, hk⟩ := List.mem_iff_getElem?.1 hx
    rw [List.getElem?_take] at hk
    split at hk
    · exact h1 k x (by assumption) hk
    · cases hk
  have e2 : (l.drop i).filter (fun c => aheadC c t) = [] := by
    rw [List.filter_eq_nil_iff]
    intro x hx
    obtain ⟨k, hk⟩ := List.mem_iff_getElem?.1 hx
    rw [List.getElem?_drop] at hk
    rw [h2 (i + k) x (by omega) hk]; simp
  rw [e1, e2, List.append_nil, List.length_take]; omega
theorem has_yes {l : List TClaim} {t x : TClaim} {i : Nat} (hs : SortC l) (hx : l[i]? = some x) (h1 : ∀ k x, k < i → l[k]? = some x → aheadC x t = true) (h2 : ∀ k x, i ≤ k → l[k]? = some x → aheadC x t = false) :
    hasC l t.inst t.step = decide (cmpC x t = 0) := by
  rw [Bool.eq_iff_iff, decide_eq_true_eq, cmpC_eq]
  unfold hasC
  rw [List.any_eq_true]
  constructor
  · rintro ⟨y, hy, he⟩
    simp only [isC, Bool.and_eq_true, decide_eq_true_eq] at he
    obtain ⟨k, hk⟩ := List.mem_iff_getElem?.1 hy
    have hki : ¬ k < i := fun h => ahead_eq (h1 k y h hk) he
    rcases Nat.lt_or_ge i k with h3 | h3
    · have h4 := hs i k x y h3 hx hk
      have h5 := h2 i x (Nat.le_refl _) hx
      exfalso
      unfold aheadC at h4 h5
      simp only [Bool.or_eq_true, Bool.and_eq_true, decide_eq_true_eq, Bool.or_eq_false_iff, Bool.and_eq_false_imp, decide_eq_false_iff_not] at h4 h5
      rw [he.1, he.2] at h4
      rcases h4 with h4 | h4
      · exact h5.1 h4
      · exact h5.2 h4.1 h4.2
    · have : k = i := by omega
      subst this; rw [hx] at hk; cases hk; exact he
  · intro h
    exact ⟨x, List.mem_of_getElem? hx, by simp only [isC, Bool.and_eq_true, decide_eq_true_eq]; exact h⟩
theorem has_no {l : List TClaim} {t : TClaim} {i : Nat} (hi : l.length ≤ i) (h1 : ∀ k x, k < i → l[k]? = some x → aheadC x t = true) : hasC l t.inst t.step = false := by
  unfold hasC
  rw [List.any_eq_false]
  intro y hy he
  simp only [isC, Bool.and_eq_true, decide_eq_true_eq] at he
  obtain ⟨k, hk⟩ := List.mem_iff_getElem?.1 hy
  exact ahead_eq (h1 k y (by have := at_lt hk; omega) hk) he
def whoC (l : List TClaim) (i s : Int) : Int := ((l.find? (isC i s)).map TClaim.user).getD 0
theorem who_zero {l : List TClaim} {i s : Int} (hu : ∀ c ∈ l, 1 ≤ c.user) : (decide (whoC l i s = 0)) = !hasC l i s := by
  unfold whoC hasC
  cases h : l.find? (isC i s) with
  | none =>
    have := List.find?_eq_none.1 h
    have h2 : l.any (isC i s) = false := by rw [List.any_eq_false]; exact this
    simp [h2]
  | some c =>
    have h1 := List.find?_some h
    have h2 := List.mem_of_find?_eq_some h
    have h3 := hu c h2
    have h4 : l.any (isC i s) = true := List.any_eq_true.2 ⟨c, h2, h1⟩
    simp [h4]; omega
theorem who_hit {l : List TClaim} {i s : Int} {k : Nat} {x : TClaim} (hx : l[k]? = some x) (h : isC i s x = true) (hn : ∀ j y, j < k → l[j]? = some y → isC i s y = false) : whoC l i s = x.user := by
  unfold whoC
  have : l.find? (isC i s) = some x := by
    rw [List.find?_eq_some_iff_getElem]
    obtain ⟨hk, he⟩ := List.getElem?_eq_some_iff.1 hx
    refine ⟨h, k, hk, he, fun j hj => ?_⟩
    have := hn j (l[j]'(by omega)) hj (List.getElem?_eq_getElem _)
    simp [this]
  rw [this]; rfl
theorem who_none {l : List TClaim} {i s : Int} (hn : ∀ j y, j < l.length → l[j]? = some y → isC i s y = false) : whoC l i s = 0 := by
  unfold whoC
  have : l.find? (isC i s) = none := by
    rw [List.find?_eq_none]
    intro y hy
    obtain ⟨k, hk⟩ := List.mem_iff_getElem?.1 hy
    rw [hn k y (at_lt hk) hk]; simp
  rw [this]; rfl
theorem desk_ok {d : TDesk} (h : deskF d = 0) : engF d.engine = 0 ∧ d.claims.length ≤ 60 ∧ SortC d.claims ∧ ∀ c ∈ d.claims, 1 ≤ c.user := by
  unfold deskF at h
  split at h
  · contradiction
  rename_i h1
  split at h
  · cases h
  rename_i h2
  have h3 := sc_all h
  have ha : ∀ i x z, 0 < i → d.claims[i]? = some x → d.claims[i - 1]? = some z → aheadC z x = true := by
    intro i x z hi hx hz
    have h4 := h3 i (at_lt hx)
    rw [claimF_at hx hz] at h4
    split at h4
    · cases h4
    · split at h4
      · cases h4
      · split at h4
        · cases h4
        · rename_i h5
          cases h6 : aheadC z x with
          | true => rfl
          | false => exact absurd ⟨hi, h6⟩ h5
  refine ⟨by simpa using h1, by omega, ?_, ?_⟩
  · intro i j x y hij hx hy
    obtain ⟨m, rfl⟩ : ∃ m, j = i + 1 + m := ⟨j - i - 1, by omega⟩
    clear hij
    induction m generalizing y with
    | zero => exact ha (i + 1) y x (by omega) hy (by simpa using hx)
    | succ m ih =>
      obtain ⟨z, hz⟩ := at_some (l := d.claims) (i := i + 1 + m) (by have := at_lt hy; omega)
      exact ahead_trans (ih z hz) (ha (i + 1 + (m + 1)) y z (by omega) hy (by rw [show i + 1 + (m + 1) - 1 = i + 1 + m by omega]; exact hz))
  · intro c hc
    obtain ⟨i, hi⟩ := List.mem_iff_getElem?.1 hc
    have h4 := h3 i (at_lt hi)
    obtain ⟨z, hz⟩ := at_some (l := d.claims) (i := i - 1) (by have := at_lt hi; omega)
    rw [claimF_at hi hz] at h4
    split at h4
    · cases h4
    · rename_i h5
      have h6 : inR c.user 1 9 = true := by
        cases h7 : inR c.user 1 9 with
        | true => rfl
        | false => exact absurd (Or.inr h7) h5
      exact (inR_iff.1 h6).1
/-! offers -/
def offC (d : TDesk) (i s : Int) : Bool := openT d.engine i s && !hasC d.claims i s
def offR (d : TDesk) (i : Int) (n : Nat) : List TClaim := ((List.range n).filter fun (s : Nat) => offC d i s).map fun (s : Nat) => ⟨i, s, 0⟩
def offL (d : TDesk) (n : Nat) : List TClaim := (List.range n).flatMap fun (i : Nat) => offR d i 24
theorem offR_step (d : TDesk) (i : Int) (n : Nat) : offR d i (n + 1) = offR d i n ++ (if offC d i n = true then [⟨i, n, 0⟩] else []) := by
  unfold offR
  rw [List.range_succ, List.filter_append, List.map_append]
  congr 1
  by_cases h : offC d i n = true
  · simp [h]
  · simp [h]
theorem offL_step (d : TDesk) (n : Nat) : offL d (n + 1) = offL d n ++ offR d n 24 := by
  unfold offL; rw [List.range_succ, List.flatMap_append]; simp
theorem offR_far {d : TDesk} {i : Int} {n : Nat} (h : ∀ s : Nat, n ≤ s → openT d.engine i s = false) : ∀ m, n ≤ m → offR d i m = offR d i n := by
  intro m hm
  obtain ⟨k, rfl⟩ : ∃ k, m = n + k := ⟨m - n, by omega⟩
  clear hm
  induction k with
  | zero => rfl
  | succ k ih =>
    rw [← Nat.add_assoc, offR_step, ih, if_neg (by unfold offC; rw [h (n + k) (by omega)]; simp)]; simp
theorem offR_24 {d : TDesk} {k : Nat} {x : TInst} {y : TProc} (hx : d.engine.insts[k]? = some x) (hy : d.engine.procs[x.proc.toNat]? = some y) (hp : y.steps.length ≤ 24) : offR d k 24 = offR d k y.steps.length := by
  refine offR_far (fun s hs => ?_) 24 hp
  rw [openT_at hx hy]
  have : inR (s : Int) 0 ((y.steps.length : Int) - 1) = false := inR_not.2 (by omega)
  rw [this]; rfl
theorem offR_len (d : TDesk) (i : Int) (n : Nat) : (offR d i n).length ≤ n := by
  unfold offR; rw [List.length_map]; exact Nat.le_trans (List.length_filter_le _ _) (by simp)
theorem offL_len (d : TDesk) (n : Nat) : (offL d n).length ≤ 24 * n := by
  induction n with
  | zero => simp [offL]
  | succ n ih => rw [offL_step, List.length_append]; have := offR_len d n 24; omega
/-- what is offered ahead of a step -/
def curL (d : TDesk) (i s : Nat) : List TClaim := offL d i ++ offR d i s
theorem curL_zero (d : TDesk) (i : Nat) : curL d i 0 = offL d i := by simp [curL, offR]
theorem curL_yes {d : TDesk} {i s : Nat} (h : offC d i s = true) : curL d i (s + 1) = curL d i s ++ [⟨i, s, 0⟩] := by
  unfold curL; rw [offR_step, if_pos h, List.append_assoc]
theorem curL_one {d : TDesk} {i s : Nat} (h : offC d i s = true) (h0 : curL d i s = []) : curL d i (s + 1) = [⟨i, s, 0⟩] := by
  rw [curL_yes h, h0]; rfl
theorem curL_no {d : TDesk} {i s : Nat} (h : ¬ offC d i s = true) : curL d i (s + 1) = curL d i s := by
  unfold curL; rw [offR_step, if_neg h, List.append_nil]
theorem curL_24 (d : TDesk) (i : Nat) : curL d i 24 = offL d (i + 1) := by unfold curL; rw [offL_step]
theorem curL_end {d : TDesk} {k : Nat} {x : TInst} {y : TProc} (hx : d.engine.insts[k]? = some x) (hy : d.engine.procs[x.proc.toNat]? = some y) (hp : y.steps.length ≤ 24) : curL d k y.steps.length = offL d (k + 1) := by
  rw [← curL_24]; unfold curL; rw [offR_24 hx hy hp]
theorem curL_len (d : TDesk) (i s : Nat) : (curL d i s).length ≤ 24 * i + s := by
  unfold curL; rw [List.length_append]; have := offL_len d i; have := offR_len d i s; omega
theorem ncl (l : List TClaim) : (nlc 3 (l.map TClaim.ro) = .nils ∧ l = []) ∨ (nlc 3 (l.map TClaim.ro) = .osl 3 (l.map TClaim.ro) ∧ True) := by
  cases l with
  | nil => exact Or.inl ⟨rfl, rfl⟩
  | cons x r => exact Or.inr ⟨rfl, True.intro⟩
end Go.AM

/-! ### X1 -/
set_option linter.unusedVariables false
set_option linter.unusedSimpArgs false
set_option maxHeartbeats 600000
set_option maxRecDepth 100000
namespace Go.AM
open Go.Proofs

/-- slices.BinarySearchFunc[[]impl.Claim,impl.Claim,impl.Claim] -/
theorem dc_BSearch (l : List TClaim) (t : TClaim) (hn : l.length ≤ 60) (hs : SortC l) : DC Tryz.prog 115 [.isl 3 (l.map TClaim.ro), .agg t.ro, .fn 58 []] (.tup [.int .i64 (posC l t : Nat), .bool (hasC l t.inst t.step)]) [] := by
 refine DC.intro tiOk Tryz.func115 rfl rfl rfl rfl rfl rfl rfl rfl [] ?_
 refine rg [0,2,4] ?_
 intro k hk; simp -dsimp [go_sem, -decide_eq_true_eq, -decide_eq_false_iff_not]
 repeat' first | apply And.intro | refine hk _ ?_ | intro hg | omega | exact True.intro
 all_goals clear hk k
 refine rg [0,2,4,8] ?_
 intro k hk; simp -dsimp [go_sem, -decide_eq_true_eq, -decide_eq_false_iff_not]
 repeat' first | apply And.intro | refine hk _ ?_ | intro hg | omega | exact True.intro
 all_goals clear hk k
 refine rg [0,2,4,8,9,10] ?_
 intro k hk; simp -dsimp [go_sem, -decide_eq_true_eq, -decide_eq_false_iff_not]
 repeat' first | apply And.intro | refine hk _ ?_ | intro hg | omega | exact True.intro
 all_goals clear hk k
 refine AW.seq ?_
 refine AW.block ?_
 refine AW.loopI (fun q : Nat × Nat => ⟨49, [(0, .isl 3 (l.map TClaim.ro)), (2, .fn 58 []), (4, .ptr 4 3 0 0), (8, .int .i64 l.length), (9, .int .i64 (q.1 : Nat)), (10, .int .i64 (q.2 : Nat))], [(4, some ⟨3, [t.ro]⟩)]⟩) (fun q => q.1 ≤ q.2 ∧ q.2 ≤ l.length ∧ (∀ k x, k < q.1 → l[k]? = some x → aheadC x t = true) ∧ (∀ k x, q.2 ≤ k → l[k]? = some x → aheadC x t = false)) (fun q => q.2 - q.1) ((0, l.length)) (by refine ⟨Nat.zero_le _, Nat.le_refl _, fun k x h => absurd h (Nat.not_lt_zero _), fun k x h hx => ?_⟩; have := at_lt hx; simp only at h; omega) (Less.of rfl (by simp [go_sem]) (by simp [go_sem])) ?_
 rintro ⟨i, j⟩ ⟨q1, q2, q3, q4⟩
 simp only at q1 q2 q3 q4
 refine AW.seq ?_
 refine rg [0,2,4,8,9,10,17] ?_
 intro k hk; simp -dsimp [go_sem, -decide_eq_true_eq, -decide_eq_false_iff_not]
 repeat' first | apply And.intro | refine hk _ ?_ | intro hg | omega | exact True.intro
 all_goals clear hk k
 refine AW.cond rfl ?_ ?_
 ·intro hc; try simp at hc
  all_goals (
   have hlt : i < j := by first | assumption | omega
   obtain ⟨m, hm⟩ : ∃ m : Nat, m = (i + j) / 2 := ⟨_, rfl⟩
   obtain ⟨x, hx⟩ := at_some (l := l) (i := m) (by omega)
   have hw1 : IntKind.wrap .i64 ((i : Int) + (j : Int)) = (i : Int) + (j : Int) := wrap64 (by omega) (by omega)
   have hw2 : IntKind.wrap .u64 ((i : Int) + (j : Int)) = (i : Int) + (j : Int) := by simp [IntKind.wrap, IntKind.bits, IntKind.signed]; omega
   have hfd : ((i : Int) + (j : Int)).fdiv 2 = ((m : Nat) : Int) := by rw [Int.fdiv_eq_ediv_of_nonneg _ (by omega)]; omega
   have hw3 : IntKind.wrap .i64 ((m : Nat) : Int) = ((m : Nat) : Int) := wrap64 (by omega) (by omega)
   have hcx : firstC [cmpI x.inst t.inst, cmpI x.step t.step] = cmpC x t := rfl
   refine AW.skipN (fun _ h => h) ?_
   refine AW.block ?_
   refine rg [0,2,4,8,9,10,11] ?_
   intro k hk; simp -dsimp (maxSteps := 2000000) [go_sem, -decide_eq_true_eq, -decide_eq_false_iff_not, hx, hw1, hw2, hfd, hw3, hcx]
   repeat' first | apply And.intro | refine hk _ ?_ | intro hg | omega | exact True.intro
   all_goals clear hk k
   refine rg [0,2,4,8,9,10,11,31] ?_
   intro k hk; simp -dsimp (maxSteps := 2000000) [go_sem, -decide_eq_true_eq, -decide_eq_false_iff_not, hx, hw1, hw2, hfd, hw3, hcx]
   repeat' first | apply And.intro | (refine Chk.keys ?_; simp only [go_sem, List.map_cons, List.map_nil, List.flatMap_cons, List.flatMap_nil, List.flatMap_append, List.append_nil, List.nil_append, List.cons_append]; decide +kernel) | refine hk _ ?_ | intro hg | (refine CallK.intro (dc_impl_compareClaims x t) ?_; simp -dsimp (maxSteps := 2000000) [go_sem, -decide_eq_true_eq, -decide_eq_false_iff_not, hx, hw1, hw2, hfd, hw3, hcx]) | omega | exact True.intro
   all_goals clear hk k
   refine AW.cond rfl ?_ ?_
   ·intro hc; try simp at hc
    all_goals (
     refine rgK ?_
     intro k hk; simp -dsimp [go_sem, -decide_eq_true_eq, -decide_eq_false_iff_not, hx, hw1, hw2, hfd, hw3, hcx]
     repeat' first | apply And.intro | refine hk _ ?_ | intro hg | omega | exact True.intro
     all_goals clear hk k
     show ∃ _, _
     have hw4 : IntKind.wrap .i64 (((m : Nat) : Int) + 1) = ((m : Nat) : Int) + 1 := wrap64 (by omega) (by omega)
     first | (have ha := cmpC_lt.1 (show cmpC x t < 0 by first | assumption | simpa using hc); exact ⟨(m + 1, j), ⟨by simp only; omega, q2, bs_lo hs hx ha, q4⟩, by simp only; omega, Less.of rfl (by simp [go_sem, hw4]) (by simp [go_sem])⟩) | (have ha : aheadC x t = false := (by cases h : aheadC x t with | false => rfl | true => exact absurd (cmpC_lt.2 h) (by first | assumption | omega)); exact ⟨(i, m), ⟨by simp only; omega, by simp only; omega, q3, bs_hi hs hx ha⟩, by simp only; omega, Less.of rfl (by simp [go_sem]) (by simp [go_sem])⟩))
   ·intro hc; try simp at hc
    all_goals (
     refine rgK ?_
     intro k hk; simp -dsimp [go_sem, -decide_eq_true_eq, -decide_eq_false_iff_not, hx, hw1, hw2, hfd, hw3, hcx]
     repeat' first | apply And.intro | refine hk _ ?_ | intro hg | omega | exact True.intro
     all_goals clear hk k
     show ∃ _, _
     have hw4 : IntKind.wrap .i64 (((m : Nat) : Int) + 1) = ((m : Nat) : Int) + 1 := wrap64 (by omega) (by omega)
     first | (have ha := cmpC_lt.1 (show cmpC x t < 0 by first | assumption | simpa using hc); exact ⟨(m + 1, j), ⟨by simp only; omega, q2, bs_lo hs hx ha, q4⟩, by simp only; omega, Less.of rfl (by simp [go_sem, hw4]) (by simp [go_sem])⟩) | (have ha : aheadC x t = false := (by cases h : aheadC x t with | false => rfl | true => exact absurd (cmpC_lt.2 h) (by first | assumption | omega)); exact ⟨(i, m), ⟨by simp only; omega, by simp only; omega, q3, bs_hi hs hx ha⟩, by simp only; omega, Less.of rfl (by simp [go_sem]) (by simp [go_sem])⟩)))
 ·intro hc; try simp at hc
  all_goals (
   refine AW.exitN (fun _ h => h) ?_
   obtain rfl : i = j := (by omega)
   have hpe := bs_end q2 q3 q4
   have hxc : (i < l.length ∧ ∃ x, l[i]? = some x ∧ ∀ h, l[i]'h = x) ∨ (¬ i < l.length ∧ True ∧ True) := (by by_cases h : i < l.length; exact Or.inl ⟨h, l[i], List.getElem?_eq_getElem h, fun _ => rfl⟩; exact Or.inr ⟨h, True.intro, True.intro⟩)
   rcases hxc with ⟨hil, x, hx, hx3⟩ | ⟨hil, hx, hx3⟩
   all_goals (
    refine rg [6,7] ?_
    intro k hk; simp +contextual -dsimp (maxSteps := 2000000) [go_sem, -decide_eq_true_eq, -decide_eq_false_iff_not, hx, hx3, hil]
    repeat' first | apply And.intro | (refine Chk.keys ?_; simp only [go_sem, List.map_cons, List.map_nil, List.flatMap_cons, List.flatMap_nil, List.flatMap_append, List.append_nil, List.nil_append, List.cons_append]; decide +kernel) | refine hk _ ?_ | (intro hg; try simp only [decide_eq_true_eq, decide_eq_false_iff_not] at hg) | (refine CallK.intro (dc_impl_compareClaims x t) ?_; simp +contextual -dsimp (maxSteps := 2000000) [go_sem, -decide_eq_true_eq, -decide_eq_false_iff_not, hx, hx3, hil]) | omega | exact True.intro
    all_goals clear hk k
    all_goals (
     refine rt ?_
     first | (rw [hpe, has_yes hs hx q3 q4]; simp [go_sem, Tryz.results115, cmpC] <;> first | rfl | congr 1) | (rw [hpe, has_no (Nat.le_of_not_lt hil) q3]; simp [go_sem, Tryz.results115]))))

/-- (impl.Desk).claim -/
theorem dc_impl_Desk_claim (d : TDesk) (i s : Int) (hn : d.claims.length ≤ 60) (hs : SortC d.claims) : DC Tryz.prog 81 [.agg d.ro, .int .i64 i, .int .i64 s] (.tup [.int .i64 (posC d.claims ⟨i, s, 0⟩ : Nat), .bool (hasC d.claims i s)]) [] := by
 refine DC.intro tiOk Tryz.func81 rfl rfl rfl rfl rfl rfl rfl rfl [] ?_
 refine rg [1,2,3] ?_
 intro k hk; simp -dsimp [go_sem, -decide_eq_true_eq, -decide_eq_false_iff_not]
 repeat' first | apply And.intro | refine hk _ ?_ | intro hg | omega | exact True.intro
 all_goals clear hk k
 refine rg [6,7] ?_
 intro k hk; simp -dsimp (maxSteps := 2000000) [go_sem, -decide_eq_true_eq, -decide_eq_false_iff_not]
 repeat' first | apply And.intro | refine hk _ ?_ | intro hg | (refine CallK.intro (dc_BSearch d.claims ⟨i, s, 0⟩ hn hs) ?_; simp -dsimp (maxSteps := 2000000) [go_sem, -decide_eq_true_eq, -decide_eq_false_iff_not]) | omega | exact True.intro
 all_goals clear hk k
 refine rt ?_
 simp [go_sem, Tryz.results81]

/-- spec.l12Who -/
theorem dc_spec_l12Who (d : TDesk) (i s : Int) (hn : d.claims.length ≤ 60) : DC Tryz.prog 80 [.ip d.ro, .int .i64 i, .int .i64 s] (.int .i64 (whoC d.claims i s)) [] := by
 refine DC.intro tiOk Tryz.func80 rfl rfl rfl rfl rfl rfl rfl rfl [] ?_
 refine rg [0,1,2] ?_
 intro k hk; simp -dsimp [go_sem, -decide_eq_true_eq, -decide_eq_false_iff_not]
 repeat' first | apply And.intro | refine hk _ ?_ | intro hg | omega | exact True.intro
 all_goals clear hk k
 refine AW.seq ?_
 refine rg [0,1,2,7] ?_
 intro k hk; simp -dsimp [go_sem, -decide_eq_true_eq, -decide_eq_false_iff_not]
 repeat' first | apply And.intro | refine hk _ ?_ | intro hg | omega | exact True.intro
 all_goals clear hk k
 refine AW.block ?_
 refine AW.loopI (fun k : Nat => ⟨47, [(0, .ip d.ro), (1, .int .i64 i), (2, .int .i64 s), (7, .int .i64 k)], []⟩) (fun k => k ≤ d.claims.length ∧ ∀ j y, j < k → d.claims[j]? = some y → isC i s y = false) (fun k => d.claims.length - k) (0) (by simp) (Less.of rfl (by simp [go_sem]) (by simp [go_sem])) ?_
 rintro k ⟨hk0, hall⟩
 refine AW.seq ?_
 refine rg [0,1,2,7,14] ?_
 intro k hk; simp -dsimp (maxSteps := 2000000) [go_sem, -decide_eq_true_eq, -decide_eq_false_iff_not]
 repeat' first | apply And.intro | refine hk _ ?_ | intro hg | omega | exact True.intro
 all_goals clear hk k
 refine AW.cond rfl ?_ ?_
 ·intro hc; try simp at hc
  all_goals (
   have hlt : k < d.claims.length := by assumption
   obtain ⟨x, hx⟩ := at_some hlt
   refine AW.skipN (fun _ h => h) ?_
   refine AW.seq ?_
   refine AW.block ?_
   refine rg [0,1,2,7,38] ?_
   intro k hk; simp +contextual -dsimp (maxSteps := 2000000) [go_sem, -decide_eq_true_eq, -decide_eq_false_iff_not, hx]
   repeat' first | apply And.intro | refine hk _ ?_ | (intro hg; try simp only [decide_eq_true_eq, decide_eq_false_iff_not] at hg) | omega | exact True.intro
   all_goals clear hk k
   all_goals (
    refine AW.cond rfl ?_ ?_
    ·intro hc; try simp at hc
     all_goals (
      refine rg [6] ?_
      intro k hk; simp -dsimp (maxSteps := 2000000) [go_sem, -decide_eq_true_eq, -decide_eq_false_iff_not, hx]
      repeat' first | apply And.intro | refine hk _ ?_ | intro hg | omega | exact True.intro
      all_goals clear hk k
      refine rt ?_
      first | (rw [who_hit hx (by unfold isC; simp at hc ⊢; grind) hall]; simp [go_sem, Tryz.results80]; done) | (rw [who_none (fun j y hj => hall j y (by omega))]; simp [go_sem, Tryz.results80]))
    ·intro hc; try simp at hc
     all_goals (
      refine AW.skipN (fun _ h => h) ?_
      refine rgK ?_
      intro k hk; simp -dsimp [go_sem, -decide_eq_true_eq, -decide_eq_false_iff_not, hx]
      repeat' first | apply And.intro | refine hk _ ?_ | intro hg | omega | exact True.intro
      all_goals clear hk k
      show ∃ _, _
      have hw := wrapi hlt (by omega)
      have hxf : isC i s x = false := by unfold isC; simp at hc ⊢; grind
      refine ⟨k + 1, ⟨by omega, fun j y hj hy => ?_⟩, by omega, Less.of rfl (by simp [go_sem, hw]) (by simp [go_sem])⟩
      rcases Nat.lt_or_ge j k with h | h
      ·exact hall j y h hy
      ·obtain rfl : j = k := (by omega); rw [hx] at hy; cases hy; exact hxf)))
 ·intro hc; try simp at hc
  all_goals (
   refine AW.exitN (fun _ h => h) ?_
   refine rg [6] ?_
   intro k hk; simp -dsimp [go_sem, -decide_eq_true_eq, -decide_eq_false_iff_not]
   repeat' first | apply And.intro | refine hk _ ?_ | intro hg | omega | exact True.intro
   all_goals clear hk k
   refine rt ?_
   first | (rw [who_hit hx (by unfold isC; simp at hc ⊢; grind) hall]; simp [go_sem, Tryz.results80]; done) | (rw [who_none (fun j y hj => hall j y (by omega))]; simp [go_sem, Tryz.results80]))

end Go.AM

/-! ### X2 -/
set_option linter.unusedVariables false
set_option linter.unusedSimpArgs false
set_option maxHeartbeats 600000
set_option maxRecDepth 100000
namespace Go.AM
open Go.Proofs

set_option maxHeartbeats 8000000 in
/-- impl.OfferedAt -/
theorem dc_impl_OfferedAt_bad (d : TDesk) (hg : d.gok) (hl : deskF d ≠ 0) : DC Tryz.prog 38 [.agg d.ro] (.agg [.int .i64 (deskF d), .isl 3 []]) [] := by
 refine DC.intro tiOk Tryz.func38 rfl rfl rfl rfl rfl rfl rfl rfl [1000] ?_
 refine rg [1,2] ?_
 intro k hk; simp -dsimp [go_sem, -decide_eq_true_eq, -decide_eq_false_iff_not, hl]
 repeat' first | apply And.intro | refine hk _ ?_ | intro hg | omega | exact True.intro
 all_goals clear hk k
 refine AW.seq ?_
 refine rg [1,2,3] ?_
 intro k hk; simp -dsimp (maxSteps := 2000000) [go_sem, -decide_eq_true_eq, -decide_eq_false_iff_not, hl]
 repeat' first | apply And.intro | refine hk _ ?_ | intro hg | (refine CallK.intro (dc_impl_DeskFault d hg) ?_; simp -dsimp (maxSteps := 2000000) [go_sem, -decide_eq_true_eq, -decide_eq_false_iff_not, hl]) | omega | exact True.intro
 all_goals clear hk k
 refine rg [1,2,3,14] ?_
 intro k hk; simp -dsimp [go_sem, -decide_eq_true_eq, -decide_eq_false_iff_not, hl]
 repeat' first | apply And.intro | refine hk _ ?_ | intro hg | omega | exact True.intro
 all_goals clear hk k
 refine AW.cond rfl ?_ ?_
 ·intro hc; try simp at hc
  all_goals try (exfalso; first | contradiction | omega; done)
  all_goals (
   refine rg [2] ?_
   intro k hk; simp -dsimp [go_sem, -decide_eq_true_eq, -decide_eq_false_iff_not, hl]
   repeat' first | apply And.intro | refine hk _ ?_ | intro hg | omega | exact True.intro
   all_goals clear hk k
   refine rt ?_
   first | (rw [hl0]; simp [go_sem, Tryz.results38]; done) | (simp [go_sem, Tryz.results38]))
 ·intro hc; try simp at hc
  all_goals try (exfalso; first | contradiction | omega; done)
  all_goals (
   refine AW.skipN (fun _ h => h) ?_
   refine rg [1,2,4] ?_
   intro k hk; simp -dsimp [go_sem, -decide_eq_true_eq, -decide_eq_false_iff_not, hl]
   repeat' first | apply And.intro | refine hk _ ?_ | intro hg | omega | exact True.intro
   all_goals clear hk k
   refine AW.seq ?_
   refine rg [1,2,4,20,21,22] ?_
   intro k hk; simp -dsimp [go_sem, -decide_eq_true_eq, -decide_eq_false_iff_not, hl]
   repeat' first | apply And.intro | refine hk _ ?_ | intro hg | omega | exact True.intro
   all_goals clear hk k
   refine AW.block ?_
   refine AW.loopI (fun i : Nat => ⟨67, [(1, .ptr 1 4 0 0), (2, .ptr 2 2 0 0), (4, .ptr 4 2 0 0), (20, .isl 6 (d.engine.insts.map TInst.ro)), (21, .int .i64 d.engine.insts.length), (22, .int .i64 i)], [(1, some ⟨4, [d.ro]⟩), (2, some ⟨2, [[.int .i64 0, .nils]]⟩), (4, some ⟨2, [[.int .i64 0, nlc 3 ((offL d i).map TClaim.ro)]]⟩)]⟩) (fun i => i ≤ d.engine.insts.length) (fun i => d.engine.insts.length - i) (0) (Nat.zero_le _) (Less.of rfl (by simp [go_sem]) (by simp [go_sem, offL])) ?_
   rintro i hi
   refine rg [1,2,4,20,21,22,23] ?_
   intro k hk; simp -dsimp [go_sem, -decide_eq_true_eq, -decide_eq_false_iff_not, hl]
   repeat' first | apply And.intro | refine hk _ ?_ | intro hg | omega | exact True.intro
   all_goals clear hk k
   refine AW.seq ?_
   refine AW.cond rfl ?_ ?_
   ·intro hc; try simp at hc
    all_goals try (exfalso; first | contradiction | omega; done)
    all_goals (
     refine AW.skipN (fun _ h => h) ?_
     refine AW.seq ?_
     refine AW.block ?_
     have hlt : i < d.engine.insts.length := by first | assumption | omega
     obtain ⟨x, hx⟩ := at_some hlt
     obtain ⟨h0, y, hy, hc1, _⟩ := inst_ok q1 hx
     obtain ⟨k1, k2, k3, k4, k5, k6⟩ := chart1_ok hc1
     have hyl := (procOk k1).len
     have hll := offL_len d i
     have h24 := curL_end hx hy hyl.2
     refine rg [1,2,4,5,6,20,21,22] ?_
     intro k hk; simp -dsimp [go_sem, -decide_eq_true_eq, -decide_eq_false_iff_not, hl, hx]
     repeat' first | apply And.intro | refine hk _ ?_ | intro hg | omega | exact True.intro
     all_goals clear hk k
     refine rg [1,2,4,5,20,21,22,31,32] ?_
     intro k hk; simp -dsimp (maxSteps := 2000000) [go_sem, -decide_eq_true_eq, -decide_eq_false_iff_not, hl]
     repeat' first | apply And.intro | refine hk _ ?_ | intro hg | (refine CallK.intro (dc_impl_Engine_steps d.engine x h0 y hy) ?_; simp -dsimp (maxSteps := 2000000) [go_sem, -decide_eq_true_eq, -decide_eq_false_iff_not, hl]) | omega | exact True.intro
     all_goals clear hk k
     refine AW.block ?_
     refine AW.loopI (fun s : Nat => ⟨67, [(1, .ptr 1 4 0 0), (2, .ptr 2 2 0 0), (4, .ptr 4 2 0 0), (5, .int .i64 i), (20, .isl 6 (d.engine.insts.map TInst.ro)), (21, .int .i64 d.engine.insts.length), (22, .int .i64 i), (31, .int .i64 y.steps.length), (32, .int .i64 s)], [(1, some ⟨4, [d.ro]⟩), (2, some ⟨2, [[.int .i64 0, .nils]]⟩), (4, some ⟨2, [[.int .i64 0, nlc 3 ((curL d i s).map TClaim.ro)]]⟩)]⟩) (fun s => s ≤ y.steps.length) (fun s => y.steps.length - s) (0) (Nat.zero_le _) (Less.of rfl (by simp [go_sem]) (by simp [go_sem, curL_zero])) ?_
     rintro s hs
     refine rg [1,2,4,5,20,21,22,31,32,33] ?_
     intro k hk; simp -dsimp [go_sem, -decide_eq_true_eq, -decide_eq_false_iff_not, hl]
     repeat' first | apply And.intro | refine hk _ ?_ | intro hg | omega | exact True.intro
     all_goals clear hk k
     refine AW.seq ?_
     refine AW.cond rfl ?_ ?_
     ·intro hc; try simp at hc
      all_goals try (exfalso; first | contradiction | omega; done)
      all_goals (
       have hlt2 : s < y.steps.length := by first | assumption | omega
       have hrl := curL_len d i s
       have hwho := who_zero (i := (i : Int)) (s := (s : Int)) q4
       refine AW.skipN (fun _ h => h) ?_
       refine AW.seq ?_
       refine AW.block ?_
       refine rg [1,2,4,5,7,20,21,22,31,32] ?_
       intro k hk; simp -dsimp [go_sem, -decide_eq_true_eq, -decide_eq_false_iff_not, hl]
       repeat' first | apply And.intro | refine hk _ ?_ | intro hg | omega | exact True.intro
       all_goals clear hk k
       refine rg [1,2,4,5,8,20,21,22,31,32] ?_
       intro k hk; simp -dsimp [go_sem, -decide_eq_true_eq, -decide_eq_false_iff_not, hl]
       repeat' first | apply And.intro | refine hk _ ?_ | intro hg | omega | exact True.intro
       all_goals clear hk k
       refine rg [1,2,4,5,8,10,20,21,22,31,32] ?_
       intro k hk; simp -dsimp (maxSteps := 2000000) [go_sem, -decide_eq_true_eq, -decide_eq_false_iff_not, hl]
       repeat' first | apply And.intro | refine hk _ ?_ | intro hg | (refine CallK.intro (dc_impl_Desk_claim d i s q2 q3) ?_; simp -dsimp (maxSteps := 2000000) [go_sem, -decide_eq_true_eq, -decide_eq_false_iff_not, hl]) | omega | exact True.intro
       all_goals clear hk k
       refine AW.cut ⟨67, [(1, .ptr 1 4 0 0), (2, .ptr 2 2 0 0), (4, .ptr 4 2 0 0), (5, .int .i64 i), (8, .ptr 8 3 0 0), (20, .isl 6 (d.engine.insts.map TInst.ro)), (21, .int .i64 d.engine.insts.length), (22, .int .i64 i), (31, .int .i64 y.steps.length), (32, .int .i64 s), (57, .bool (decide (offC d i s = true)))], [(1, some ⟨4, [d.ro]⟩), (2, some ⟨2, [[.int .i64 0, .nils]]⟩), (4, some ⟨2, [[.int .i64 0, nlc 3 ((curL d i s).map TClaim.ro)]]⟩), (8, some ⟨3, [[.int .i64 i, .int .i64 s, .int .i64 0]]⟩)]⟩ ?_ ?_
       ·skip
        refine rgK ?_
        intro k hk; simp +contextual -dsimp (maxSteps := 2000000) [go_sem, -decide_eq_true_eq, -decide_eq_false_iff_not, hl]
        repeat' first | apply And.intro | refine hk _ ?_ | (intro hg; try simp only [decide_eq_true_eq, decide_eq_false_iff_not] at hg) | (refine CallK.intro (dc_impl_Engine_isOpen d.engine i x y s hx h0 hy hyl.2 k5) ?_; simp +contextual -dsimp (maxSteps := 2000000) [go_sem, -decide_eq_true_eq, -decide_eq_false_iff_not, hl]) | omega | exact True.intro
        all_goals clear hk k
        all_goals (show St.Less _ _; exact Less.of rfl (by simp [go_sem, offC, hwho] at * <;> grind) (by simp [go_sem]))
       ·skip
        refine AW.cond rfl ?_ ?_
        ·intro hc; try simp at hc
         all_goals try (exfalso; first | contradiction | omega; done)
         all_goals (
          rcases ncl (curL d i s) with ⟨hnc, hl0⟩ | ⟨hnc, hl0⟩
          all_goals (
           rw [hnc]
           try refine AW.thaw 4 0 1 7001 rfl rfl rfl (by simp [go_sem]) ?_
           first | have hcs := curL_one (show offC d i s = true by simpa using hc) hl0 | have hcs := curL_yes (show offC d i s = true by simpa using hc)
           refine rgN [1,2,4,5,20,21,22,31,32] (fun _ h => h) ?_
           intro k hk; simp -dsimp (maxSteps := 2000000) [go_sem, -decide_eq_true_eq, -decide_eq_false_iff_not, hl]
           repeat' first | apply And.intro | refine hk _ ?_ | intro hg | omega | exact True.intro
           all_goals clear hk k
           try (have hcs2 := hcs; refine AW.fold 4 0 1 62 rfl rfl rfl rfl (by simp) (by decide) (by simp [go_sem]) ?_; refine AW.cellLe 4 0 1 (nlc 3 ((curL d i (s + 1)).map TClaim.ro)) rfl rfl rfl (by rw [hcs]; simp [go_sem]) ?_)
           refine rgK ?_
           intro k hk; simp -dsimp [go_sem, -decide_eq_true_eq, -decide_eq_false_iff_not, hl]
           repeat' first | apply And.intro | refine hk _ ?_ | intro hg | omega | exact True.intro
           all_goals clear hk k
           show ∃ _, _
           have hw2 : IntKind.wrap .i64 ((s : Int) + 1) = (s : Int) + 1 := wrap64 (by omega) (by omega)
           refine ⟨s + 1, by omega, by omega, Less.of rfl (by simp [go_sem, hw2]) (by first | (simp [go_sem]; done) | (rw [curL_no (by simpa using hc)]; simp [go_sem]))⟩))
        ·intro hc; try simp at hc
         all_goals try (exfalso; first | contradiction | omega; done)
         all_goals (
          refine AW.skipN (fun _ h => h) ?_
          try (have hcs2 := hcs; refine AW.fold 4 0 1 62 rfl rfl rfl rfl (by simp) (by decide) (by simp [go_sem]) ?_; refine AW.cellLe 4 0 1 (nlc 3 ((curL d i (s + 1)).map TClaim.ro)) rfl rfl rfl (by rw [hcs]; simp [go_sem]) ?_)
          refine rgK ?_
          intro k hk; simp -dsimp [go_sem, -decide_eq_true_eq, -decide_eq_false_iff_not, hl]
          repeat' first | apply And.intro | refine hk _ ?_ | intro hg | omega | exact True.intro
          all_goals clear hk k
          show ∃ _, _
          have hw2 : IntKind.wrap .i64 ((s : Int) + 1) = (s : Int) + 1 := wrap64 (by omega) (by omega)
          refine ⟨s + 1, by omega, by omega, Less.of rfl (by simp [go_sem, hw2]) (by first | (simp [go_sem]; done) | (rw [curL_no (by simpa using hc)]; simp [go_sem]))⟩))
     ·intro hc; try simp at hc
      all_goals try (exfalso; first | contradiction | omega; done)
      all_goals (
       refine AW.exitN (fun _ h => h) ?_
       refine rgK ?_
       intro k hk; simp -dsimp [go_sem, -decide_eq_true_eq, -decide_eq_false_iff_not, hl]
       repeat' first | apply And.intro | refine hk _ ?_ | intro hg | omega | exact True.intro
       all_goals clear hk k
       show ∃ _, _
       have hw := wrapi hlt (by omega)
       obtain rfl : s = y.steps.length := (by omega)
       refine ⟨i + 1, by omega, by omega, Less.of rfl (by simp [go_sem, hw]) (by rw [← h24]; simp [go_sem])⟩))
   ·intro hc; try simp at hc
    all_goals try (exfalso; first | contradiction | omega; done)
    all_goals (
     refine AW.exitN (fun _ h => h) ?_
     obtain rfl : i = d.engine.insts.length := (by omega)
     rcases ncl (offL d d.engine.insts.length) with ⟨hnc, hl0⟩ | ⟨hnc, hl0⟩
     all_goals (
      rw [hnc]
      try refine AW.thaw 4 0 1 7001 rfl rfl rfl (by simp [go_sem]) ?_
      refine rg [2] ?_
      intro k hk; simp -dsimp [go_sem, -decide_eq_true_eq, -decide_eq_false_iff_not, hl]
      repeat' first | apply And.intro | refine hk _ ?_ | intro hg | omega | exact True.intro
      all_goals clear hk k
      refine rt ?_
      first | (rw [hl0]; simp [go_sem, Tryz.results38]; done) | (simp [go_sem, Tryz.results38]))))

set_option maxHeartbeats 8000000 in
/-- impl.OfferedAt -/
theorem dc_impl_OfferedAt_ok (d : TDesk) (hg : d.gok) (hl : deskF d = 0) : DC Tryz.prog 38 [.agg d.ro] (.agg [.int .i64 0, nlc 3 ((offL d d.engine.insts.length).map TClaim.ro)]) [] := by
 obtain ⟨q1, q2, q3, q4⟩ := desk_ok hl
 have hil := (engF_zero q1).1
 refine DC.intro tiOk Tryz.func38 rfl rfl rfl rfl rfl rfl rfl rfl [1000] ?_
 refine rg [1,2] ?_
 intro k hk; simp -dsimp [go_sem, -decide_eq_true_eq, -decide_eq_false_iff_not, hl]
 repeat' first | apply And.intro | refine hk _ ?_ | intro hg | omega | exact True.intro
 all_goals clear hk k
 refine AW.seq ?_
 refine rg [1,2,3] ?_
 intro k hk; simp -dsimp (maxSteps := 2000000) [go_sem, -decide_eq_true_eq, -decide_eq_false_iff_not, hl]
 repeat' first | apply And.intro | refine hk _ ?_ | intro hg | (refine CallK.intro (dc_impl_DeskFault d hg) ?_; simp -dsimp (maxSteps := 2000000) [go_sem, -decide_eq_true_eq, -decide_eq_false_iff_not, hl]) | omega | exact True.intro
 all_goals clear hk k
 refine rg [1,2,3,14] ?_
 intro k hk; simp -dsimp [go_sem, -decide_eq_true_eq, -decide_eq_false_iff_not, hl]
 repeat' first | apply And.intro | refine hk _ ?_ | intro hg | omega | exact True.intro
 all_goals clear hk k
 refine AW.cond rfl ?_ ?_
 ·intro hc; try simp at hc
  all_goals try (exfalso; first | contradiction | omega; done)
  all_goals (
   refine rg [2] ?_
   intro k hk; simp -dsimp [go_sem, -decide_eq_true_eq, -decide_eq_false_iff_not, hl]
   repeat' first | apply And.intro | refine hk _ ?_ | intro hg | omega | exact True.intro
   all_goals clear hk k
   refine rt ?_
   first | (rw [hl0]; simp [go_sem, Tryz.results38]; done) | (simp [go_sem, Tryz.results38]))
 ·intro hc; try simp at hc
  all_goals try (exfalso; first | contradiction | omega; done)
  all_goals (
   refine AW.skipN (fun _ h => h) ?_
   refine rg [1,2,4] ?_
   intro k hk; simp -dsimp [go_sem, -decide_eq_true_eq, -decide_eq_false_iff_not, hl]
   repeat' first | apply And.intro | refine hk _ ?_ | intro hg | omega | exact True.intro
   all_goals clear hk k
   refine AW.seq ?_
   refine rg [1,2,4,20,21,22] ?_
   intro k hk; simp -dsimp [go_sem, -decide_eq_true_eq, -decide_eq_false_iff_not, hl]
   repeat' first | apply And.intro | refine hk _ ?_ | intro hg | omega | exact True.intro
   all_goals clear hk k
   refine AW.block ?_
   refine AW.loopI (fun i : Nat => ⟨67, [(1, .ptr 1 4 0 0), (2, .ptr 2 2 0 0), (4, .ptr 4 2 0 0), (20, .isl 6 (d.engine.insts.map TInst.ro)), (21, .int .i64 d.engine.insts.length), (22, .int .i64 i)], [(1, some ⟨4, [d.ro]⟩), (2, some ⟨2, [[.int .i64 0, .nils]]⟩), (4, some ⟨2, [[.int .i64 0, nlc 3 ((offL d i).map TClaim.ro)]]⟩)]⟩) (fun i => i ≤ d.engine.insts.length) (fun i => d.engine.insts.length - i) (0) (Nat.zero_le _) (Less.of rfl (by simp [go_sem]) (by simp [go_sem, offL])) ?_
   rintro i hi
   refine rg [1,2,4,20,21,22,23] ?_
   intro k hk; simp -dsimp [go_sem, -decide_eq_true_eq, -decide_eq_false_iff_not, hl]
   repeat' first | apply And.intro | refine hk _ ?_ | intro hg | omega | exact True.intro
   all_goals clear hk k
   refine AW.seq ?_
   refine AW.cond rfl ?_ ?_
   ·intro hc; try simp at hc
    all_goals try (exfalso; first | contradiction | omega; done)
    all_goals (
     refine AW.skipN (fun _ h => h) ?_
     refine AW.seq ?_
     refine AW.block ?_
     have hlt : i < d.engine.insts.length := by first | assumption | omega
     obtain ⟨x, hx⟩ := at_some hlt
     obtain ⟨h0, y, hy, hc1, _⟩ := inst_ok q1 hx
     obtain ⟨k1, k2, k3, k4, k5, k6⟩ := chart1_ok hc1
     have hyl := (procOk k1).len
     have hll := offL_len d i
     have h24 := curL_end hx hy hyl.2
     refine rg [1,2,4,5,6,20,21,22] ?_
     intro k hk; simp -dsimp [go_sem, -decide_eq_true_eq, -decide_eq_false_iff_not, hl, hx]
     repeat' first | apply And.intro | refine hk _ ?_ | intro hg | omega | exact True.intro
     all_goals clear hk k
     refine rg [1,2,4,5,20,21,22,31,32] ?_
     intro k hk; simp -dsimp (maxSteps := 2000000) [go_sem, -decide_eq_true_eq, -decide_eq_false_iff_not, hl]
     repeat' first | apply And.intro | refine hk _ ?_ | intro hg | (refine CallK.intro (dc_impl_Engine_steps d.engine x h0 y hy) ?_; simp -dsimp (maxSteps := 2000000) [go_sem, -decide_eq_true_eq, -decide_eq_false_iff_not, hl]) | omega | exact True.intro
     all_goals clear hk k
     refine AW.block ?_
     refine AW.loopI (fun s : Nat => ⟨67, [(1, .ptr 1 4 0 0), (2, .ptr 2 2 0 0), (4, .ptr 4 2 0 0), (5, .int .i64 i), (20, .isl 6 (d.engine.insts.map TInst.ro)), (21, .int .i64 d.engine.insts.length), (22, .int .i64 i), (31, .int .i64 y.steps.length), (32, .int .i64 s)], [(1, some ⟨4, [d.ro]⟩), (2, some ⟨2, [[.int .i64 0, .nils]]⟩), (4, some ⟨2, [[.int .i64 0, nlc 3 ((curL d i s).map TClaim.ro)]]⟩)]⟩) (fun s => s ≤ y.steps.length) (fun s => y.steps.length - s) (0) (Nat.zero_le _) (Less.of rfl (by simp [go_sem]) (by simp [go_sem, curL_zero])) ?_
     rintro s hs
     refine rg [1,2,4,5,20,21,22,31,32,33] ?_
     intro k hk; simp -dsimp [go_sem, -decide_eq_true_eq, -decide_eq_false_iff_not, hl]
     repeat' first | apply And.intro | refine hk _ ?_ | intro hg | omega | exact True.intro
     all_goals clear hk k
     refine AW.seq ?_
     refine AW.cond rfl ?_ ?_
     ·intro hc; try simp at hc
      all_goals try (exfalso; first | contradiction | omega; done)
      all_goals (
       have hlt2 : s < y.steps.length := by first | assumption | omega
       have hrl := curL_len d i s
       have hwho := who_zero (i := (i : Int)) (s := (s : Int)) q4
       refine AW.skipN (fun _ h => h) ?_
       refine AW.seq ?_
       refine AW.block ?_
       refine rg [1,2,4,5,7,20,21,22,31,32] ?_
       intro k hk; simp -dsimp [go_sem, -decide_eq_true_eq, -decide_eq_false_iff_not, hl]
       repeat' first | apply And.intro | refine hk _ ?_ | intro hg | omega | exact True.intro
       all_goals clear hk k
       refine rg [1,2,4,5,8,20,21,22,31,32] ?_
       intro k hk; simp -dsimp [go_sem, -decide_eq_true_eq, -decide_eq_false_iff_not, hl]
       repeat' first | apply And.intro | refine hk _ ?_ | intro hg | omega | exact True.intro
       all_goals clear hk k
       refine rg [1,2,4,5,8,10,20,21,22,31,32] ?_
       intro k hk; simp -dsimp (maxSteps := 2000000) [go_sem, -decide_eq_true_eq, -decide_eq_false_iff_not, hl]
       repeat' first | apply And.intro | refine hk _ ?_ | intro hg | (refine CallK.intro (dc_impl_Desk_claim d i s q2 q3) ?_; simp -dsimp (maxSteps := 2000000) [go_sem, -decide_eq_true_eq, -decide_eq_false_iff_not, hl]) | omega | exact True.intro
       all_goals clear hk k
       refine AW.cut ⟨67, [(1, .ptr 1 4 0 0), (2, .ptr 2 2 0 0), (4, .ptr 4 2 0 0), (5, .int .i64 i), (8, .ptr 8 3 0 0), (20, .isl 6 (d.engine.insts.map TInst.ro)), (21, .int .i64 d.engine.insts.length), (22, .int .i64 i), (31, .int .i64 y.steps.length), (32, .int .i64 s), (57, .bool (decide (offC d i s = true)))], [(1, some ⟨4, [d.ro]⟩), (2, some ⟨2, [[.int .i64 0, .nils]]⟩), (4, some ⟨2, [[.int .i64 0, nlc 3 ((curL d i s).map TClaim.ro)]]⟩), (8, some ⟨3, [[.int .i64 i, .int .i64 s, .int .i64 0]]⟩)]⟩ ?_ ?_
       ·skip
        refine rgK ?_
        intro k hk; simp +contextual -dsimp (maxSteps := 2000000) [go_sem, -decide_eq_true_eq, -decide_eq_false_iff_not, hl]
        repeat' first | apply And.intro | refine hk _ ?_ | (intro hg; try simp only [decide_eq_true_eq, decide_eq_false_iff_not] at hg) | (refine CallK.intro (dc_impl_Engine_isOpen d.engine i x y s hx h0 hy hyl.2 k5) ?_; simp +contextual -dsimp (maxSteps := 2000000) [go_sem, -decide_eq_true_eq, -decide_eq_false_iff_not, hl]) | omega | exact True.intro
        all_goals clear hk k
        all_goals (show St.Less _ _; exact Less.of rfl (by simp [go_sem, offC, hwho] at * <;> grind) (by simp [go_sem]))
       ·skip
        refine AW.cond rfl ?_ ?_
        ·intro hc; try simp at hc
         all_goals try (exfalso; first | contradiction | omega; done)
         all_goals (
          rcases ncl (curL d i s) with ⟨hnc, hl0⟩ | ⟨hnc, hl0⟩
          all_goals (
           rw [hnc]
           try refine AW.thaw 4 0 1 7001 rfl rfl rfl (by simp [go_sem]) ?_
           first | have hcs := curL_one (show offC d i s = true by simpa using hc) hl0 | have hcs := curL_yes (show offC d i s = true by simpa using hc)
           refine rgN [1,2,4,5,20,21,22,31,32] (fun _ h => h) ?_
           intro k hk; simp -dsimp (maxSteps := 2000000) [go_sem, -decide_eq_true_eq, -decide_eq_false_iff_not, hl]
           repeat' first | apply And.intro | refine hk _ ?_ | intro hg | omega | exact True.intro
           all_goals clear hk k
           try (have hcs2 := hcs; refine AW.fold 4 0 1 62 rfl rfl rfl rfl (by simp) (by decide) (by simp [go_sem]) ?_; refine AW.cellLe 4 0 1 (nlc 3 ((curL d i (s + 1)).map TClaim.ro)) rfl rfl rfl (by rw [hcs]; simp [go_sem]) ?_)
           refine rgK ?_
           intro k hk; simp -dsimp [go_sem, -decide_eq_true_eq, -decide_eq_false_iff_not, hl]
           repeat' first | apply And.intro | refine hk _ ?_ | intro hg | omega | exact True.intro
           all_goals clear hk k
           show ∃ _, _
           have hw2 : IntKind.wrap .i64 ((s : Int) + 1) = (s : Int) + 1 := wrap64 (by omega) (by omega)
           refine ⟨s + 1, by omega, by omega, Less.of rfl (by simp [go_sem, hw2]) (by first | (simp [go_sem]; done) | (rw [curL_no (by simpa using hc)]; simp [go_sem]))⟩))
        ·intro hc; try simp at hc
         all_goals try (exfalso; first | contradiction | omega; done)
         all_goals (
          refine AW.skipN (fun _ h => h) ?_
          try (have hcs2 := hcs; refine AW.fold 4 0 1 62 rfl rfl rfl rfl (by simp) (by decide) (by simp [go_sem]) ?_; refine AW.cellLe 4 0 1 (nlc 3 ((curL d i (s + 1)).map TClaim.ro)) rfl rfl rfl (by rw [hcs]; simp [go_sem]) ?_)
          refine rgK ?_
          intro k hk; simp -dsimp [go_sem, -decide_eq_true_eq, -decide_eq_false_iff_not, hl]
          repeat' first | apply And.intro | refine hk _ ?_ | intro hg | omega | exact True.intro
          all_goals clear hk k
          show ∃ _, _
          have hw2 : IntKind.wrap .i64 ((s : Int) + 1) = (s : Int) + 1 := wrap64 (by omega) (by omega)
          refine ⟨s + 1, by omega, by omega, Less.of rfl (by simp [go_sem, hw2]) (by first | (simp [go_sem]; done) | (rw [curL_no (by simpa using hc)]; simp [go_sem]))⟩))
     ·intro hc; try simp at hc
      all_goals try (exfalso; first | contradiction | omega; done)
      all_goals (
       refine AW.exitN (fun _ h => h) ?_
       refine rgK ?_
       intro k hk; simp -dsimp [go_sem, -decide_eq_true_eq, -decide_eq_false_iff_not, hl]
       repeat' first | apply And.intro | refine hk _ ?_ | intro hg | omega | exact True.intro
       all_goals clear hk k
       show ∃ _, _
       have hw := wrapi hlt (by omega)
       obtain rfl : s = y.steps.length := (by omega)
       refine ⟨i + 1, by omega, by omega, Less.of rfl (by simp [go_sem, hw]) (by rw [← h24]; simp [go_sem])⟩))
   ·intro hc; try simp at hc
    all_goals try (exfalso; first | contradiction | omega; done)
    all_goals (
     refine AW.exitN (fun _ h => h) ?_
     obtain rfl : i = d.engine.insts.length := (by omega)
     rcases ncl (offL d d.engine.insts.length) with ⟨hnc, hl0⟩ | ⟨hnc, hl0⟩
     all_goals (
      rw [hnc]
      try refine AW.thaw 4 0 1 7001 rfl rfl rfl (by simp [go_sem]) ?_
      refine rg [2] ?_
      intro k hk; simp -dsimp [go_sem, -decide_eq_true_eq, -decide_eq_false_iff_not, hl]
      repeat' first | apply And.intro | refine hk _ ?_ | intro hg | omega | exact True.intro
      all_goals clear hk k
      refine rt ?_
      first | (rw [hl0]; simp [go_sem, Tryz.results38]; done) | (simp [go_sem, Tryz.results38]))))

end Go.AM

/-! ### X3 -/
set_option linter.unusedVariables false
set_option linter.unusedSimpArgs false
set_option maxHeartbeats 600000
set_option maxRecDepth 100000
namespace Go.AM
open Go.Proofs

set_option maxHeartbeats 8000000 in
/-- spec.OfferedAt -/
theorem dc_spec_OfferedAt_bad (d : TDesk) (hg : d.gok) (hl : deskF d ≠ 0) : DC Tryz.prog 37 [.agg d.ro] (.agg [.int .i64 (deskF d), .isl 3 []]) [] := by
 refine DC.intro tiOk Tryz.func37 rfl rfl rfl rfl rfl rfl rfl rfl [1000] ?_
 refine rg [1,2] ?_
 intro k hk; simp -dsimp [go_sem, -decide_eq_true_eq, -decide_eq_false_iff_not, hl]
 repeat' first | apply And.intro | refine hk _ ?_ | intro hg | omega | exact True.intro
 all_goals clear hk k
 refine AW.seq ?_
 refine rg [1,2,3] ?_
 intro k hk; simp -dsimp (maxSteps := 2000000) [go_sem, -decide_eq_true_eq, -decide_eq_false_iff_not, hl]
 repeat' first | apply And.intro | refine hk _ ?_ | intro hg | (refine CallK.intro (dc_spec_l12Fault d hg) ?_; simp -dsimp (maxSteps := 2000000) [go_sem, -decide_eq_true_eq, -decide_eq_false_iff_not, hl]) | omega | exact True.intro
 all_goals clear hk k
 refine rg [1,2,3,9] ?_
 intro k hk; simp -dsimp [go_sem, -decide_eq_true_eq, -decide_eq_false_iff_not, hl]
 repeat' first | apply And.intro | refine hk _ ?_ | intro hg | omega | exact True.intro
 all_goals clear hk k
 refine AW.cond rfl ?_ ?_
 ·intro hc; try simp at hc
  all_goals try (exfalso; first | contradiction | omega; done)
  all_goals (
   refine rg [2] ?_
   intro k hk; simp -dsimp [go_sem, -decide_eq_true_eq, -decide_eq_false_iff_not, hl]
   repeat' first | apply And.intro | refine hk _ ?_ | intro hg | omega | exact True.intro
   all_goals clear hk k
   refine rt ?_
   first | (rw [hl0]; simp [go_sem, Tryz.results37]; done) | (simp [go_sem, Tryz.results37]))
 ·intro hc; try simp at hc
  all_goals try (exfalso; first | contradiction | omega; done)
  all_goals (
   refine AW.skipN (fun _ h => h) ?_
   refine rg [1,2,4] ?_
   intro k hk; simp -dsimp [go_sem, -decide_eq_true_eq, -decide_eq_false_iff_not, hl]
   repeat' first | apply And.intro | refine hk _ ?_ | intro hg | omega | exact True.intro
   all_goals clear hk k
   refine AW.seq ?_
   refine rg [1,2,4,5] ?_
   intro k hk; simp -dsimp [go_sem, -decide_eq_true_eq, -decide_eq_false_iff_not, hl]
   repeat' first | apply And.intro | refine hk _ ?_ | intro hg | omega | exact True.intro
   all_goals clear hk k
   refine AW.block ?_
   refine AW.loopI (fun i : Nat => ⟨44, [(1, .ptr 1 4 0 0), (2, .ptr 2 2 0 0), (4, .ptr 4 2 0 0), (5, .int .i64 i)], [(1, some ⟨4, [d.ro]⟩), (2, some ⟨2, [[.int .i64 0, .nils]]⟩), (4, some ⟨2, [[.int .i64 0, nlc 3 ((offL d i).map TClaim.ro)]]⟩)]⟩) (fun i => i ≤ d.engine.insts.length) (fun i => d.engine.insts.length - i) (0) (Nat.zero_le _) (Less.of rfl (by simp [go_sem]) (by simp [go_sem, offL])) ?_
   rintro i hi
   refine AW.seq ?_
   refine rg [1,2,4,5,18] ?_
   intro k hk; simp -dsimp [go_sem, -decide_eq_true_eq, -decide_eq_false_iff_not, hl]
   repeat' first | apply And.intro | refine hk _ ?_ | intro hg | omega | exact True.intro
   all_goals clear hk k
   refine AW.cond rfl ?_ ?_
   ·intro hc; try simp at hc
    all_goals try (exfalso; first | contradiction | omega; done)
    all_goals (
     refine AW.skipN (fun _ h => h) ?_
     refine AW.seq ?_
     refine AW.block ?_
     have hlt : i < d.engine.insts.length := by first | assumption | omega
     obtain ⟨x, hx⟩ := at_some hlt
     obtain ⟨h0, y, hy, hc1, _⟩ := inst_ok q1 hx
     obtain ⟨k1, k2, k3, k4, k5, k6⟩ := chart1_ok hc1
     have hyl := (procOk k1).len
     have hll := offL_len d i
     have h24 := curL_end hx hy hyl.2
     refine rg [1,2,4,5,6] ?_
     intro k hk; simp -dsimp [go_sem, -decide_eq_true_eq, -decide_eq_false_iff_not, hl]
     repeat' first | apply And.intro | refine hk _ ?_ | intro hg | omega | exact True.intro
     all_goals clear hk k
     refine AW.block ?_
     refine AW.loopI (fun s : Nat => ⟨44, [(1, .ptr 1 4 0 0), (2, .ptr 2 2 0 0), (4, .ptr 4 2 0 0), (5, .int .i64 i), (6, .int .i64 s)], [(1, some ⟨4, [d.ro]⟩), (2, some ⟨2, [[.int .i64 0, .nils]]⟩), (4, some ⟨2, [[.int .i64 0, nlc 3 ((curL d i s).map TClaim.ro)]]⟩)]⟩) (fun s => s ≤ 24) (fun s => 24 - s) (0) (Nat.zero_le _) (Less.of rfl (by simp [go_sem]) (by simp [go_sem, curL_zero])) ?_
     rintro s hs
     refine AW.seq ?_
     refine rg [1,2,4,5,6,22] ?_
     intro k hk; simp -dsimp [go_sem, -decide_eq_true_eq, -decide_eq_false_iff_not, hl]
     repeat' first | apply And.intro | refine hk _ ?_ | intro hg | omega | exact True.intro
     all_goals clear hk k
     refine AW.cond rfl ?_ ?_
     ·intro hc; try simp at hc
      all_goals try (exfalso; first | contradiction | omega; done)
      all_goals (
       have hlt2 : s < 24 := by first | assumption | omega
       have hrl := curL_len d i s
       have hwho := who_zero (i := (i : Int)) (s := (s : Int)) q4
       refine AW.skipN (fun _ h => h) ?_
       refine AW.seq ?_
       refine AW.block ?_
       refine AW.cut ⟨44, [(1, .ptr 1 4 0 0), (2, .ptr 2 2 0 0), (4, .ptr 4 2 0 0), (5, .int .i64 i), (6, .int .i64 s), (34, .bool (decide (offC d i s = true)))], [(1, some ⟨4, [d.ro]⟩), (2, some ⟨2, [[.int .i64 0, .nils]]⟩), (4, some ⟨2, [[.int .i64 0, nlc 3 ((curL d i s).map TClaim.ro)]]⟩)]⟩ ?_ ?_
       ·skip
        refine rgK ?_
        intro k hk; simp +contextual -dsimp (maxSteps := 2000000) [go_sem, -decide_eq_true_eq, -decide_eq_false_iff_not, hl]
        repeat' first | apply And.intro | refine hk _ ?_ | (intro hg; try simp only [decide_eq_true_eq, decide_eq_false_iff_not] at hg) | ((first | refine CallK.intro ((dc_spec_l12Open d.engine i x y s hx h0 hy hyl.2 k5).ipMore1 [.isl 3 (d.claims.map TClaim.ro)]) ?_ | refine CallK.intro (dc_spec_l12Who d i s q2) ?_); simp +contextual -dsimp (maxSteps := 2000000) [go_sem, -decide_eq_true_eq, -decide_eq_false_iff_not, hl]) | omega | exact True.intro
        all_goals clear hk k
        all_goals (show St.Less _ _; exact Less.of rfl (by simp [go_sem, offC, hwho] at * <;> grind) (by simp [go_sem]))
       ·skip
        refine AW.cond rfl ?_ ?_
        ·intro hc; try simp at hc
         all_goals try (exfalso; first | contradiction | omega; done)
         all_goals (
          rcases ncl (curL d i s) with ⟨hnc, hl0⟩ | ⟨hnc, hl0⟩
          all_goals (
           rw [hnc]
           try refine AW.thaw 4 0 1 7001 rfl rfl rfl (by simp [go_sem]) ?_
           first | have hcs := curL_one (show offC d i s = true by simpa using hc) hl0 | have hcs := curL_yes (show offC d i s = true by simpa using hc)
           refine rgN [1,2,4,5,6] (fun _ h => h) ?_
           intro k hk; simp -dsimp (maxSteps := 2000000) [go_sem, -decide_eq_true_eq, -decide_eq_false_iff_not, hl]
           repeat' first | apply And.intro | refine hk _ ?_ | intro hg | omega | exact True.intro
           all_goals clear hk k
           try (have hcs2 := hcs; refine AW.fold 4 0 1 41 rfl rfl rfl rfl (by simp) (by decide) (by simp [go_sem]) ?_; refine AW.cellLe 4 0 1 (nlc 3 ((curL d i (s + 1)).map TClaim.ro)) rfl rfl rfl (by rw [hcs]; simp [go_sem]) ?_)
           refine rgK ?_
           intro k hk; simp -dsimp [go_sem, -decide_eq_true_eq, -decide_eq_false_iff_not, hl]
           repeat' first | apply And.intro | refine hk _ ?_ | intro hg | omega | exact True.intro
           all_goals clear hk k
           show ∃ _, _
           have hw2 : IntKind.wrap .i64 ((s : Int) + 1) = (s : Int) + 1 := wrap64 (by omega) (by omega)
           refine ⟨s + 1, by omega, by omega, Less.of rfl (by simp [go_sem, hw2]) (by first | (simp [go_sem]; done) | (rw [curL_no (by simpa using hc)]; simp [go_sem]))⟩))
        ·intro hc; try simp at hc
         all_goals try (exfalso; first | contradiction | omega; done)
         all_goals (
          refine AW.skipN (fun _ h => h) ?_
          try (have hcs2 := hcs; refine AW.fold 4 0 1 41 rfl rfl rfl rfl (by simp) (by decide) (by simp [go_sem]) ?_; refine AW.cellLe 4 0 1 (nlc 3 ((curL d i (s + 1)).map TClaim.ro)) rfl rfl rfl (by rw [hcs]; simp [go_sem]) ?_)
          refine rgK ?_
          intro k hk; simp -dsimp [go_sem, -decide_eq_true_eq, -decide_eq_false_iff_not, hl]
          repeat' first | apply And.intro | refine hk _ ?_ | intro hg | omega | exact True.intro
          all_goals clear hk k
          show ∃ _, _
          have hw2 : IntKind.wrap .i64 ((s : Int) + 1) = (s : Int) + 1 := wrap64 (by omega) (by omega)
          refine ⟨s + 1, by omega, by omega, Less.of rfl (by simp [go_sem, hw2]) (by first | (simp [go_sem]; done) | (rw [curL_no (by simpa using hc)]; simp [go_sem]))⟩))
     ·intro hc; try simp at hc
      all_goals try (exfalso; first | contradiction | omega; done)
      all_goals (
       refine AW.exitN (fun _ h => h) ?_
       refine rgK ?_
       intro k hk; simp -dsimp [go_sem, -decide_eq_true_eq, -decide_eq_false_iff_not, hl]
       repeat' first | apply And.intro | refine hk _ ?_ | intro hg | omega | exact True.intro
       all_goals clear hk k
       show ∃ _, _
       have hw := wrapi hlt (by omega)
       obtain rfl : s = 24 := (by omega)
       refine ⟨i + 1, by omega, by omega, Less.of rfl (by simp [go_sem, hw]) (by rw [← curL_24]; simp [go_sem])⟩))
   ·intro hc; try simp at hc
    all_goals try (exfalso; first | contradiction | omega; done)
    all_goals (
     refine AW.exitN (fun _ h => h) ?_
     obtain rfl : i = d.engine.insts.length := (by omega)
     rcases ncl (offL d d.engine.insts.length) with ⟨hnc, hl0⟩ | ⟨hnc, hl0⟩
     all_goals (
      rw [hnc]
      try refine AW.thaw 4 0 1 7001 rfl rfl rfl (by simp [go_sem]) ?_
      refine rg [2] ?_
      intro k hk; simp -dsimp [go_sem, -decide_eq_true_eq, -decide_eq_false_iff_not, hl]
      repeat' first | apply And.intro | refine hk _ ?_ | intro hg | omega | exact True.intro
      all_goals clear hk k
      refine rt ?_
      first | (rw [hl0]; simp [go_sem, Tryz.results37]; done) | (simp [go_sem, Tryz.results37]))))

set_option maxHeartbeats 8000000 in
/-- spec.OfferedAt -/
theorem dc_spec_OfferedAt_ok (d : TDesk) (hg : d.gok) (hl : deskF d = 0) : DC Tryz.prog 37 [.agg d.ro] (.agg [.int .i64 0, nlc 3 ((offL d d.engine.insts.length).map TClaim.ro)]) [] := by
 obtain ⟨q1, q2, q3, q4⟩ := desk_ok hl
 have hil := (engF_zero q1).1
 refine DC.intro tiOk Tryz.func37 rfl rfl rfl rfl rfl rfl rfl rfl [1000] ?_
 refine rg [1,2] ?_
 intro k hk; simp -dsimp [go_sem, -decide_eq_true_eq, -decide_eq_false_iff_not, hl]
 repeat' first | apply And.intro | refine hk _ ?_ | intro hg | omega | exact True.intro
 all_goals clear hk k
 refine AW.seq ?_
 refine rg [1,2,3] ?_
 intro k hk; simp -dsimp (maxSteps := 2000000) [go_sem, -decide_eq_true_eq, -decide_eq_false_iff_not, hl]
 repeat' first | apply And.intro | refine hk _ ?_ | intro hg | (refine CallK.intro (dc_spec_l12Fault d hg) ?_; simp -dsimp (maxSteps := 2000000) [go_sem, -decide_eq_true_eq, -decide_eq_false_iff_not, hl]) | omega | exact True.intro
 all_goals clear hk k
 refine rg [1,2,3,9] ?_
 intro k hk; simp -dsimp [go_sem, -decide_eq_true_eq, -decide_eq_false_iff_not, hl]
 repeat' first | apply And.intro | refine hk _ ?_ | intro hg | omega | exact True.intro
 all_goals clear hk k
 refine AW.cond rfl ?_ ?_
 ·intro hc; try simp at hc
  all_goals try (exfalso; first | contradiction | omega; done)
  all_goals (
   refine rg [2] ?_
   intro k hk; simp -dsimp [go_sem, -decide_eq_true_eq, -decide_eq_false_iff_not, hl]
   repeat' first | apply And.intro | refine hk _ ?_ | intro hg | omega | exact True.intro
   all_goals clear hk k
   refine rt ?_
   first | (rw [hl0]; simp [go_sem, Tryz.results37]; done) | (simp [go_sem, Tryz.results37]))
 ·intro hc; try simp at hc
  all_goals try (exfalso; first | contradiction | omega; done)
  all_goals (
   refine AW.skipN (fun _ h => h) ?_
   refine rg [1,2,4] ?_
   intro k hk; simp -dsimp [go_sem, -decide_eq_true_eq, -decide_eq_false_iff_not, hl]
   repeat' first | apply And.intro | refine hk _ ?_ | intro hg | omega | exact True.intro
   all_goals clear hk k
   refine AW.seq ?_
   refine rg [1,2,4,5] ?_
   intro k hk; simp -dsimp [go_sem, -decide_eq_true_eq, -decide_eq_false_iff_not, hl]
   repeat' first | apply And.intro | refine hk _ ?_ | intro hg | omega | exact True.intro
   all_goals clear hk k
   refine AW.block ?_
   refine AW.loopI (fun i : Nat => ⟨44, [(1, .ptr 1 4 0 0), (2, .ptr 2 2 0 0), (4, .ptr 4 2 0 0), (5, .int .i64 i)], [(1, some ⟨4, [d.ro]⟩), (2, some ⟨2, [[.int .i64 0, .nils]]⟩), (4, some ⟨2, [[.int .i64 0, nlc 3 ((offL d i).map TClaim.ro)]]⟩)]⟩) (fun i => i ≤ d.engine.insts.length) (fun i => d.engine.insts.length - i) (0) (Nat.zero_le _) (Less.of rfl (by simp [go_sem]) (by simp [go_sem, offL])) ?_
   rintro i hi
   refine AW.seq ?_
   refine rg [1,2,4,5,18] ?_
   intro k hk; simp -dsimp [go_sem, -decide_eq_true_eq, -decide_eq_false_iff_not, hl]
   repeat' first | apply And.intro | refine hk _ ?_ | intro hg | omega | exact True.intro
   all_goals clear hk k
   refine AW.cond rfl ?_ ?_
   ·intro hc; try simp at hc
    all_goals try (exfalso; first | contradiction | omega; done)
    all_goals (
     refine AW.skipN (fun _ h => h) ?_
     refine AW.seq ?_
     refine AW.block ?_
     have hlt : i < d.engine.insts.length := by first | assumption | omega
     obtain ⟨x, hx⟩ := at_some hlt
     obtain ⟨h0, y, hy, hc1, _⟩ := inst_ok q1 hx
     obtain ⟨k1, k2, k3, k4, k5, k6⟩ := chart1_ok hc1
     have hyl := (procOk k1).len
     have hll := offL_len d i
     have h24 := curL_end hx hy hyl.2
     refine rg [1,2,4,5,6] ?_
     intro k hk; simp -dsimp [go_sem, -decide_eq_true_eq, -decide_eq_false_iff_not, hl]
     repeat' first | apply And.intro | refine hk _ ?_ | intro hg | omega | exact True.intro
     all_goals clear hk k
     refine AW.block ?_
     refine AW.loopI (fun s : Nat => ⟨44, [(1, .ptr 1 4 0 0), (2, .ptr 2 2 0 0), (4, .ptr 4 2 0 0), (5, .int .i64 i), (6, .int .i64 s)], [(1, some ⟨4, [d.ro]⟩), (2, some ⟨2, [[.int .i64 0, .nils]]⟩), (4, some ⟨2, [[.int .i64 0, nlc 3 ((curL d i s).map TClaim.ro)]]⟩)]⟩) (fun s => s ≤ 24) (fun s => 24 - s) (0) (Nat.zero_le _) (Less.of rfl (by simp [go_sem]) (by simp [go_sem, curL_zero])) ?_
     rintro s hs
     refine AW.seq ?_
     refine rg [1,2,4,5,6,22] ?_
     intro k hk; simp -dsimp [go_sem, -decide_eq_true_eq, -decide_eq_false_iff_not, hl]
     repeat' first | apply And.intro | refine hk _ ?_ | intro hg | omega | exact True.intro
     all_goals clear hk k
     refine AW.cond rfl ?_ ?_
     ·intro hc; try simp at hc
      all_goals try (exfalso; first | contradiction | omega; done)
      all_goals (
       have hlt2 : s < 24 := by first | assumption | omega
       have hrl := curL_len d i s
       have hwho := who_zero (i := (i : Int)) (s := (s : Int)) q4
       refine AW.skipN (fun _ h => h) ?_
       refine AW.seq ?_
       refine AW.block ?_
       refine AW.cut ⟨44, [(1, .ptr 1 4 0 0), (2, .ptr 2 2 0 0), (4, .ptr 4 2 0 0), (5, .int .i64 i), (6, .int .i64 s), (34, .bool (decide (offC d i s = true)))], [(1, some ⟨4, [d.ro]⟩), (2, some ⟨2, [[.int .i64 0, .nils]]⟩), (4, some ⟨2, [[.int .i64 0, nlc 3 ((curL d i s).map TClaim.ro)]]⟩)]⟩ ?_ ?_
       ·skip
        refine rgK ?_
        intro k hk; simp +contextual -dsimp (maxSteps := 2000000) [go_sem, -decide_eq_true_eq, -decide_eq_false_iff_not, hl]
        repeat' first | apply And.intro | refine hk _ ?_ | (intro hg; try simp only [decide_eq_true_eq, decide_eq_false_iff_not] at hg) | ((first | refine CallK.intro ((dc_spec_l12Open d.engine i x y s hx h0 hy hyl.2 k5).ipMore1 [.isl 3 (d.claims.map TClaim.ro)]) ?_ | refine CallK.intro (dc_spec_l12Who d i s q2) ?_); simp +contextual -dsimp (maxSteps := 2000000) [go_sem, -decide_eq_true_eq, -decide_eq_false_iff_not, hl]) | omega | exact True.intro
        all_goals clear hk k
        all_goals (show St.Less _ _; exact Less.of rfl (by simp [go_sem, offC, hwho] at * <;> grind) (by simp [go_sem]))
       ·skip
        refine AW.cond rfl ?_ ?_
        ·intro hc; try simp at hc
         all_goals try (exfalso; first | contradiction | omega; done)
         all_goals (
          rcases ncl (curL d i s) with ⟨hnc, hl0⟩ | ⟨hnc, hl0⟩
          all_goals (
           rw [hnc]
           try refine AW.thaw 4 0 1 7001 rfl rfl rfl (by simp [go_sem]) ?_
           first | have hcs := curL_one (show offC d i s = true by simpa using hc) hl0 | have hcs := curL_yes (show offC d i s = true by simpa using hc)
           refine rgN [1,2,4,5,6] (fun _ h => h) ?_
           intro k hk; simp -dsimp (maxSteps := 2000000) [go_sem, -decide_eq_true_eq, -decide_eq_false_iff_not, hl]
           repeat' first | apply And.intro | refine hk _ ?_ | intro hg | omega | exact True.intro
           all_goals clear hk k
           try (have hcs2 := hcs; refine AW.fold 4 0 1 41 rfl rfl rfl rfl (by simp) (by decide) (by simp [go_sem]) ?_; refine AW.cellLe 4 0 1 (nlc 3 ((curL d i (s + 1)).map TClaim.ro)) rfl rfl rfl (by rw [hcs]; simp [go_sem]) ?_)
           refine rgK ?_
           intro k hk; simp -dsimp [go_sem, -decide_eq_true_eq, -decide_eq_false_iff_not, hl]
           repeat' first | apply And.intro | refine hk _ ?_ | intro hg | omega | exact True.intro
           all_goals clear hk k
           show ∃ _, _
           have hw2 : IntKind.wrap .i64 ((s : Int) + 1) = (s : Int) + 1 := wrap64 (by omega) (by omega)
           refine ⟨s + 1, by omega, by omega, Less.of rfl (by simp [go_sem, hw2]) (by first | (simp [go_sem]; done) | (rw [curL_no (by simpa using hc)]; simp [go_sem]))⟩))
        ·intro hc; try simp at hc
         all_goals try (exfalso; first | contradiction | omega; done)
         all_goals (
          refine AW.skipN (fun _ h => h) ?_
          try (have hcs2 := hcs; refine AW.fold 4 0 1 41 rfl rfl rfl rfl (by simp) (by decide) (by simp [go_sem]) ?_; refine AW.cellLe 4 0 1 (nlc 3 ((curL d i (s + 1)).map TClaim.ro)) rfl rfl rfl (by rw [hcs]; simp [go_sem]) ?_)
          refine rgK ?_
          intro k hk; simp -dsimp [go_sem, -decide_eq_true_eq, -decide_eq_false_iff_not, hl]
          repeat' first | apply And.intro | refine hk _ ?_ | intro hg | omega | exact True.intro
          all_goals clear hk k
          show ∃ _, _
          have hw2 : IntKind.wrap .i64 ((s : Int) + 1) = (s : Int) + 1 := wrap64 (by omega) (by omega)
          refine ⟨s + 1, by omega, by omega, Less.of rfl (by simp [go_sem, hw2]) (by first | (simp [go_sem]; done) | (rw [curL_no (by simpa using hc)]; simp [go_sem]))⟩))
     ·intro hc; try simp at hc
      all_goals try (exfalso; first | contradiction | omega; done)
      all_goals (
       refine AW.exitN (fun _ h => h) ?_
       refine rgK ?_
       intro k hk; simp -dsimp [go_sem, -decide_eq_true_eq, -decide_eq_false_iff_not, hl]
       repeat' first | apply And.intro | refine hk _ ?_ | intro hg | omega | exact True.intro
       all_goals clear hk k
       show ∃ _, _
       have hw := wrapi hlt (by omega)
       obtain rfl : s = 24 := (by omega)
       refine ⟨i + 1, by omega, by omega, Less.of rfl (by simp [go_sem, hw]) (by rw [← curL_24]; simp [go_sem])⟩))
   ·intro hc; try simp at hc
    all_goals try (exfalso; first | contradiction | omega; done)
    all_goals (
     refine AW.exitN (fun _ h => h) ?_
     obtain rfl : i = d.engine.insts.length := (by omega)
     rcases ncl (offL d d.engine.insts.length) with ⟨hnc, hl0⟩ | ⟨hnc, hl0⟩
     all_goals (
      rw [hnc]
      try refine AW.thaw 4 0 1 7001 rfl rfl rfl (by simp [go_sem]) ?_
      refine rg [2] ?_
      intro k hk; simp -dsimp [go_sem, -decide_eq_true_eq, -decide_eq_false_iff_not, hl]
      repeat' first | apply And.intro | refine hk _ ?_ | intro hg | omega | exact True.intro
      all_goals clear hk k
      refine rt ?_
      first | (rw [hl0]; simp [go_sem, Tryz.results37]; done) | (simp [go_sem, Tryz.results37]))))

end Go.AM

/-! ### Am27 -/
set_option linter.unusedVariables false
set_option linter.unusedSimpArgs false
namespace Go.AM
/-- what is told of an answer, in other words -/
theorem DC.eqR {P : Program} {f : FuncId} {args : List AV} {res res' : AV} {muts : List (Nat × AV)} (h : DC P f args res muts) (e : res = res') : DC P f args res' muts := e ▸ h
/-- an answer of which less is told -/
theorem DC.resLe {P : Program} {f : FuncId} {args : List AV} {res res' : AV} {muts : List (Nat × AV)} (h : DC P f args res muts) (hl : Go.AM.leT res res') : DC P f args res' muts := by
  refine ⟨h.body, ?_⟩
  intro w lab vals hlen hv hf
  refine (h.calls w lab vals hlen hv hf).mono fun e w' he => ?_
  obtain ⟨v, lab', rfl, hT, hM, hE, hfr⟩ := he
  exact ⟨v, lab', rfl, T.leT hl hT, hM, hE, hfr⟩
end Go.AM

/-! ### X5 -/
set_option linter.unusedVariables false
set_option linter.unusedSimpArgs false
set_option maxHeartbeats 600000
set_option maxRecDepth 100000
namespace Go.AM
open Go.Proofs

theorem dc_impl_OfferedAt_z (d : TDesk) (hg : d.gok) (hl : deskF d = 0) (h0 : offL d d.engine.insts.length = []) : DC Tryz.prog 38 [.agg d.ro] (.agg [.int .i64 0, .isl 3 []]) [] :=
  (dc_impl_OfferedAt_ok d hg hl).resLe (by rw [h0]; simp [go_sem, leT])
theorem dc_impl_OfferedAt_p (d : TDesk) (hg : d.gok) (hl : deskF d = 0) (h0 : offL d d.engine.insts.length ≠ []) : DC Tryz.prog 38 [.agg d.ro] (.agg [.int .i64 0, .osl 3 ((offL d d.engine.insts.length).map TClaim.ro)]) [] :=
  (dc_impl_OfferedAt_ok d hg hl).eqR (by rw [nlc_ne (by simpa using h0)])

theorem dc_spec_OfferedAt_z (d : TDesk) (hg : d.gok) (hl : deskF d = 0) (h0 : offL d d.engine.insts.length = []) : DC Tryz.prog 37 [.agg d.ro] (.agg [.int .i64 0, .isl 3 []]) [] :=
  (dc_spec_OfferedAt_ok d hg hl).resLe (by rw [h0]; simp [go_sem, leT])
theorem dc_spec_OfferedAt_p (d : TDesk) (hg : d.gok) (hl : deskF d = 0) (h0 : offL d d.engine.insts.length ≠ []) : DC Tryz.prog 37 [.agg d.ro] (.agg [.int .i64 0, .osl 3 ((offL d d.engine.insts.length).map TClaim.ro)]) [] :=
  (dc_spec_OfferedAt_ok d hg hl).eqR (by rw [nlc_ne (by simpa using h0)])

end Go.AM

