/- Joined texts: G7 F3 F4 F6 F8 G8 G9 Ga H4 H5 K2 D1. -/
import Derived.Test.YtiadiaglblfjpaaGreatB1
import Derived.Test.YtiadiaglblfjpaaGreatB2
import Derived.Test.YtiadiaglblfjpaaGreatB3
import Derived.Test.YtiadiaglblfjpaaGreatB4
set_option linter.unusedVariables false
set_option linter.unusedSimpArgs false
set_option maxHeartbeats 600000
set_option maxRecDepth 100000
namespace Go.AM
open Go.Proofs

/-- spec.l4Deep -/
theorem dc_spec_l4Deep (p : List TStep) (hp : p.length ≤ 24) (m : Nat) (hm : m ≤ p.length) (hl : ParOk ((pars p).take m)) (a : Int) (ha : -1 ≤ a ∧ a < m) : DC Tryz.prog 105 [.isl 6 (p.map TStep.ro), .int .i64 a] (.int .i64 (dep ((pars p).take m) a)) [] := by
 have hL : ((pars p).take m).length = m := take_len hm
 have hd1 := dep_small hl (a := a) (by omega)
 refine DC.intro tiOk Tryz.func105 rfl rfl rfl rfl rfl rfl rfl rfl [] ?_
 refine rgA [0,1] ?_
 refine rgA [0,1,5] ?_
 refine AW.seq ?_
 refine AW.block ?_
 refine AW.loopI (fun j : Int × Int => ⟨20, [(0, .isl 6 (p.map TStep.ro)), (1, .int .i64 j.1), (5, .int .i64 j.2)], []⟩) (fun j => -1 ≤ j.1 ∧ j.1 < m ∧ j.2 + dep ((pars p).take m) j.1 = dep ((pars p).take m) a ∧ 0 ≤ j.2) (fun j => (j.1 + 1).toNat) ((a, 0)) (by refine ⟨by simp only; omega, by simp only; omega, by simp only; omega, by simp only; omega⟩) (Less.of rfl (by simp [go_sem]) (by simp [go_sem])) ?_
 rintro ⟨b, n⟩ ⟨hb1, hb2, hinv, hn0⟩
 simp only at hb1 hb2 hinv hn0
 have hd2 := dep_small hl (a := b) (by omega)
 have hn50 : n < 50 := by omega
 refine AW.seq ?_
 refine AW.cut ⟨20, [(0, .isl 6 (p.map TStep.ro)), (1, .int .i64 b), (5, .int .i64 n), (11, .bool (decide (0 ≤ b)))], []⟩ ?_ ?_
 ·skip
  refine rgK ?_
  intro k hk; simp +contextual -dsimp [go_sem, -decide_eq_true_eq, -decide_eq_false_iff_not]
  repeat' first | apply And.intro | refine hk _ ?_ | (intro hg; try simp only [decide_eq_true_eq, decide_eq_false_iff_not] at hg) | omega | exact True.intro
  all_goals clear hk k
  all_goals (show St.Less _ _; exact Less.of rfl (by simp [go_sem] <;> first | omega | grind) (by simp [go_sem]))
 ·skip
  refine AW.cond rfl ?_ ?_
  ·intro hc; try simp at hc
   all_goals try (exfalso; omega; done)
   all_goals (
    have h0 : 0 ≤ b := by simpa using hc
    obtain ⟨k, hk⟩ : ∃ k : Nat, b = k := ⟨_, (Int.toNat_of_nonneg h0).symm⟩
    subst hk
    obtain ⟨x, hx⟩ := at_some (l := p) (show k < p.length by omega)
    have hpk := hl k (by omega)
    have hpa := pars_at hx (m := m) (by omega)
    rw [hpa] at hpk
    have hde := dep_eq hl h0 (by omega)
    rw [Int.toNat_natCast, hpa] at hde
    have hwn : IntKind.wrap .i64 (n + 1) = n + 1 := wrap64 (by omega) (by omega)
    refine AW.skipN (fun _ h => h) ?_
    refine AW.block ?_
    refine rg [0,1,5] ?_
    intro k hk; simp -dsimp [go_sem, -decide_eq_true_eq, -decide_eq_false_iff_not, hx, hwn]
    repeat' first | apply And.intro | refine hk _ ?_ | intro hg | omega | exact True.intro
    all_goals clear hk k
    refine rgK ?_
    intro k hk; simp -dsimp [go_sem, -decide_eq_true_eq, -decide_eq_false_iff_not, hx, hwn]
    repeat' first | apply And.intro | refine hk _ ?_ | intro hg | omega | exact True.intro
    all_goals clear hk k
    show ∃ _, _
    refine ⟨(x.par, n + 1), ⟨by simp only; omega, by simp only; omega, by simp only; omega, by simp only; omega⟩, by simp only; omega, Less.of rfl (by simp [go_sem]) (by simp [go_sem])⟩)
  ·intro hc; try simp at hc
   all_goals try (exfalso; omega; done)
   all_goals (
    refine AW.exitN (fun _ h => h) ?_
    refine rgA [4] ?_
    refine rt ?_
    have hbn : b < 0 := (by simpa using hc)
    rw [dep_neg hbn] at hinv
    rw [← hinv]
    simp [go_sem, Tryz.results105])

/-- spec.l4Line -/
theorem dc_spec_l4Line (p : List TStep) (hp : p.length ≤ 24) (i : Nat) (x : TStep) (hx : p[i]? = some x) (h0 : 0 < i) (hl : ParOk ((pars p).take i)) : DC Tryz.prog 104 [.isl 6 (p.map TStep.ro), .int .i64 (i : Nat)] (.bool (upB ((pars p).take i) ((i : Int) - 1) x.par)) [] := by
 have hi := at_lt hx
 have hL : ((pars p).take i).length = i := take_len (by omega)
 have hwi : IntKind.wrap .i64 ((i : Int) - 1) = (i : Int) - 1 := wrap64 (by omega) (by omega)
 refine DC.intro tiOk Tryz.func104 rfl rfl rfl rfl rfl rfl rfl rfl [] ?_
 refine rg [0,1] ?_
 intro k hk; simp -dsimp [go_sem, -decide_eq_true_eq, -decide_eq_false_iff_not, hx, hwi]
 repeat' first | apply And.intro | refine hk _ ?_ | intro hg | omega | exact True.intro
 all_goals clear hk k
 refine AW.seq ?_
 refine rg [0,1,5] ?_
 intro k hk; simp -dsimp [go_sem, -decide_eq_true_eq, -decide_eq_false_iff_not, hx, hwi]
 repeat' first | apply And.intro | refine hk _ ?_ | intro hg | omega | exact True.intro
 all_goals clear hk k
 refine AW.block ?_
 refine AW.loopI (fun a : Int => ⟨22, [(0, .isl 6 (p.map TStep.ro)), (1, .int .i64 (i : Nat)), (5, .int .i64 a)], []⟩) (fun a => -1 ≤ a ∧ a < i ∧ upB ((pars p).take i) a x.par = upB ((pars p).take i) ((i : Int) - 1) x.par) (fun a => (a + 1).toNat) ((i : Int) - 1) (by refine ⟨by omega, by omega, rfl⟩) (Less.of rfl (by simp [go_sem]) (by simp [go_sem])) ?_
 rintro a ⟨ha0, ha1, hinv⟩
 refine AW.seq ?_
 refine rg [0,1,5,9] ?_
 intro k hk; simp -dsimp [go_sem, -decide_eq_true_eq, -decide_eq_false_iff_not, hx, hwi]
 repeat' first | apply And.intro | refine hk _ ?_ | intro hg | omega | exact True.intro
 all_goals clear hk k
 refine AW.cond rfl ?_ ?_
 ·intro hc; try simp at hc
  all_goals (
   have h0a : 0 ≤ a := by simpa using hc
   obtain ⟨k, hk⟩ : ∃ k : Nat, a = k := ⟨_, (Int.toNat_of_nonneg h0a).symm⟩
   subst hk
   obtain ⟨y, hy⟩ := at_some (l := p) (show k < p.length by omega)
   have hpk := hl k (by omega)
   have hpa := pars_at hy (m := i) (by omega)
   rw [hpa] at hpk
   refine AW.skipN (fun _ h => h) ?_
   refine AW.seq ?_
   refine AW.block ?_
   refine rg [0,1,5,21] ?_
   intro k hk; simp -dsimp (maxSteps := 2000000) [go_sem, -decide_eq_true_eq, -decide_eq_false_iff_not, hx, hwi, hy]
   repeat' first | apply And.intro | refine hk _ ?_ | intro hg | omega | exact True.intro
   all_goals clear hk k
   refine AW.cond rfl ?_ ?_
   ·intro hc; try simp at hc
    all_goals (
     refine rg [4] ?_
     intro k hk; simp -dsimp [go_sem, -decide_eq_true_eq, -decide_eq_false_iff_not, hx, hwi, hy]
     repeat' first | apply And.intro | refine hk _ ?_ | intro hg | omega | exact True.intro
     all_goals clear hk k
     refine rt ?_
     first | (have hu : upB ((pars p).take i) ((i : Int) - 1) x.par = true := (by rw [← hinv, upB_eq hl h0a (by omega), if_pos (by first | assumption | simpa using hc)]); simp [go_sem, Tryz.results104, hu]; done) | (have hu : upB ((pars p).take i) ((i : Int) - 1) x.par = false := (by rw [← hinv]; exact upB_neg (by omega)); simp [go_sem, Tryz.results104, hu]))
   ·intro hc; try simp at hc
    all_goals (
     refine AW.skipN (fun _ h => h) ?_
     refine rgK ?_
     intro k hk; simp -dsimp [go_sem, -decide_eq_true_eq, -decide_eq_false_iff_not, hx, hwi, hy]
     repeat' first | apply And.intro | refine hk _ ?_ | intro hg | omega | exact True.intro
     all_goals clear hk k
     show ∃ _, _
     refine ⟨y.par, ⟨by omega, by omega, ?_⟩, by omega, Less.of rfl (by simp [go_sem]) (by simp [go_sem])⟩
     rw [← hinv, upB_eq hl h0a (by omega), if_neg (by first | assumption | simpa using hc), Int.toNat_natCast, hpa]))
 ·intro hc; try simp at hc
  all_goals (
   refine AW.exitN (fun _ h => h) ?_
   refine rg [4] ?_
   intro k hk; simp -dsimp [go_sem, -decide_eq_true_eq, -decide_eq_false_iff_not, hx, hwi]
   repeat' first | apply And.intro | refine hk _ ?_ | intro hg | omega | exact True.intro
   all_goals clear hk k
   refine rt ?_
   first | (have hu : upB ((pars p).take i) ((i : Int) - 1) x.par = true := (by rw [← hinv, upB_eq hl h0a (by omega), if_pos (by first | assumption | simpa using hc)]); simp [go_sem, Tryz.results104, hu]; done) | (have hu : upB ((pars p).take i) ((i : Int) - 1) x.par = false := (by rw [← hinv]; exact upB_neg (by omega)); simp [go_sem, Tryz.results104, hu]))

end Go.AM
namespace Go.AM
open Go.Proofs

/-- spec.l3Walk -/
theorem dc_spec_l3Walk_n (e : List TNode) (hP : PartsOk e e.length) (h16 : e.length ≤ 16) (i : Nat) (hi : i < e.length) (ihn : ∀ j : Nat, j < i → DC Tryz.prog 126 [.isl 4 (e.map TNode.ro), .int .i64 ((j : Nat) : Int), .nils] (.osl 1 ((wkF e j []).map N1)) []) (iho : ∀ j : Nat, j < i → ∀ out : List Nat, out.length ≤ 40 → DC Tryz.prog 126 [.isl 4 (e.map TNode.ro), .int .i64 ((j : Nat) : Int), .osl 1 (out.map N1)] (.osl 1 ((wkF e j out).map N1)) []) : DC Tryz.prog 126 [.isl 4 (e.map TNode.ro), .int .i64 ((i : Nat) : Int), .nils] (.osl 1 ((wkF e i []).map N1)) [] := by
 obtain ⟨x, hx⟩ := at_some hi
 have hxA := nA_at hx
 have hpx := hP i hi
 rw [nodeAt_at hx] at hpx
 have hq := nodeF_parts hpx
 refine DC.intro tiOk Tryz.func126 rfl rfl rfl rfl rfl rfl rfl rfl [1000] ?_
 refine rg [0,1,2] ?_
 intro k hk; simp -dsimp [go_sem, -decide_eq_true_eq, -decide_eq_false_iff_not, hx, hxA]
 repeat' first | apply And.intro | refine hk _ ?_ | intro hg | omega | exact True.intro
 all_goals clear hk k
 refine AW.seq ?_
 refine rg [0,1,2,9] ?_
 intro k hk; simp -dsimp [go_sem, -decide_eq_true_eq, -decide_eq_false_iff_not, hx, hxA]
 repeat' first | apply And.intro | refine hk _ ?_ | intro hg | omega | exact True.intro
 all_goals clear hk k
 refine AW.cond rfl ?_ ?_
 ·intro hc; try simp at hc
  all_goals try (exfalso; first | omega | (have hk9 := inR_iff.1 hc; omega); done)
  all_goals (
   refine rg [6] ?_
   intro k hk; simp -dsimp [go_sem, -decide_eq_true_eq, -decide_eq_false_iff_not, hx, hxA]
   repeat' first | apply And.intro | refine hk _ ?_ | intro hg | omega | exact True.intro
   all_goals clear hk k
   refine rt ?_
   rw [wkF_eq hP hi]; (try (first | rw [if_neg (show ¬ 16 < out.length by omega)] | rw [if_pos (show 16 < out.length by omega)])); simp [go_sem, Tryz.results126, *] <;> first | (intro h9; omega) | (simp_all; done) | omega | grind)
 ·intro hc; try simp at hc
  all_goals try (exfalso; first | omega | (have hk9 := inR_iff.1 hc; omega); done)
  all_goals (
   refine AW.skipN (fun _ h => h) ?_
   refine AW.seq ?_
   refine rg [0,1,2,16] ?_
   intro k hk; simp -dsimp [go_sem, -decide_eq_true_eq, -decide_eq_false_iff_not, hx, hxA]
   repeat' first | apply And.intro | refine hk _ ?_ | intro hg | omega | exact True.intro
   all_goals clear hk k
   refine AW.cond rfl ?_ ?_
   ·intro hc; try simp at hc
    all_goals try (exfalso; first | omega | (have hk9 := inR_iff.1 hc; omega); done)
    all_goals (
     have hk0 : 2 < x.kind := by simpa using hc
     have hl := left_of hpx hk0
     obtain ⟨a, ha⟩ : ∃ a : Nat, x.left = a := ⟨_, (Int.toNat_of_nonneg hl.1).symm⟩
     have hla : x.left.toNat = a := by omega
     have hwa := wkF_len (e := e) (i := a) (out := []) (by first | assumption | simp) (by omega)
     refine AW.regN tiOk (fun i => if i = 7 then [2] else []) [0,1,2] (fun _ h => h) ?_
     intro k hk; simp -dsimp (maxSteps := 2000000) [go_sem, -decide_eq_true_eq, -decide_eq_false_iff_not, hx, hxA, ha]
     repeat' first | apply And.intro | refine hk _ ?_ | intro hg | ((first | refine CallK.intro (ihn a (by omega)) ?_ | refine CallK.intro (iho b (by omega) _ hwa) ?_); simp -dsimp (maxSteps := 2000000) [go_sem, -decide_eq_true_eq, -decide_eq_false_iff_not, hx, hxA, ha]) | omega | exact True.intro
     all_goals clear hk k
     refine AW.seq ?_
     refine rg [0,1,2,30] ?_
     intro k hk; simp -dsimp (maxSteps := 2000000) [go_sem, -decide_eq_true_eq, -decide_eq_false_iff_not, hx, hxA]
     repeat' first | apply And.intro | refine hk _ ?_ | intro hg | (refine CallK.intro (dc_spec_l3Two _) ?_; simp -dsimp (maxSteps := 2000000) [go_sem, -decide_eq_true_eq, -decide_eq_false_iff_not, hx, hxA]) | omega | exact True.intro
     all_goals clear hk k
     refine AW.cond rfl ?_ ?_
     ·intro hc; try simp at hc
      all_goals try (exfalso; first | omega | (have hk9 := inR_iff.1 hc; omega); done)
      all_goals (
       have hk2 : isTwoB x.kind = true := by simpa using hc
       have hr := hq.2.1 hk2
       have hk3 := inR_iff.1 hk2
       obtain ⟨b, hb⟩ : ∃ b : Nat, x.right = b := ⟨_, (Int.toNat_of_nonneg hr.2.2.1).symm⟩
       have hrb : x.right.toNat = b := by omega
       refine AW.regN tiOk (fun i => if i = 7 then [2] else []) [1,2] (fun _ h => h) ?_
       intro k hk; simp -dsimp (maxSteps := 2000000) [go_sem, -decide_eq_true_eq, -decide_eq_false_iff_not, hx, hxA, hb]
       repeat' first | apply And.intro | refine hk _ ?_ | intro hg | ((first | refine CallK.intro (ihn a (by omega)) ?_ | refine CallK.intro (iho b (by omega) _ hwa) ?_); simp -dsimp (maxSteps := 2000000) [go_sem, -decide_eq_true_eq, -decide_eq_false_iff_not, hx, hxA, hb]) | omega | exact True.intro
       all_goals clear hk k
       try (have hwb := wkF_len (e := e) (i := b) hwa (by omega))
       refine rg [6] ?_
       intro k hk; simp -dsimp [go_sem, -decide_eq_true_eq, -decide_eq_false_iff_not, hx, hxA]
       repeat' first | apply And.intro | refine hk _ ?_ | intro hg | omega | exact True.intro
       all_goals clear hk k
       refine rt ?_
       rw [wkF_eq hP hi]; (try (first | rw [if_neg (show ¬ 16 < out.length by omega)] | rw [if_pos (show 16 < out.length by omega)])); simp [go_sem, Tryz.results126, *] <;> first | (intro h9; omega) | (simp_all; done) | omega | grind)
     ·intro hc; try simp at hc
      all_goals try (exfalso; first | omega | (have hk9 := inR_iff.1 hc; omega); done)
      all_goals (
       refine AW.skipN (fun _ h => h) ?_
       try (have hwb := wkF_len (e := e) (i := b) hwa (by omega))
       refine rg [6] ?_
       intro k hk; simp -dsimp [go_sem, -decide_eq_true_eq, -decide_eq_false_iff_not, hx, hxA]
       repeat' first | apply And.intro | refine hk _ ?_ | intro hg | omega | exact True.intro
       all_goals clear hk k
       refine rt ?_
       rw [wkF_eq hP hi]; (try (first | rw [if_neg (show ¬ 16 < out.length by omega)] | rw [if_pos (show 16 < out.length by omega)])); simp [go_sem, Tryz.results126, *] <;> first | (intro h9; omega) | (simp_all; done) | omega | grind))
   ·intro hc; try simp at hc
    all_goals try (exfalso; first | omega | (have hk9 := inR_iff.1 hc; omega); done)
    all_goals (
     refine AW.skipN (fun _ h => h) ?_
     refine AW.seq ?_
     refine rg [0,1,2,30] ?_
     intro k hk; simp -dsimp (maxSteps := 2000000) [go_sem, -decide_eq_true_eq, -decide_eq_false_iff_not, hx, hxA]
     repeat' first | apply And.intro | refine hk _ ?_ | intro hg | (refine CallK.intro (dc_spec_l3Two _) ?_; simp -dsimp (maxSteps := 2000000) [go_sem, -decide_eq_true_eq, -decide_eq_false_iff_not, hx, hxA]) | omega | exact True.intro
     all_goals clear hk k
     refine AW.cond rfl ?_ ?_
     ·intro hc; try simp at hc
      all_goals try (exfalso; first | omega | (have hk9 := inR_iff.1 hc; omega); done)
      all_goals (
       have hk2 : isTwoB x.kind = true := by simpa using hc
       have hr := hq.2.1 hk2
       have hk3 := inR_iff.1 hk2
       obtain ⟨b, hb⟩ : ∃ b : Nat, x.right = b := ⟨_, (Int.toNat_of_nonneg hr.2.2.1).symm⟩
       have hrb : x.right.toNat = b := by omega
       refine AW.regN tiOk (fun i => if i = 7 then [2] else []) [1,2] (fun _ h => h) ?_
       intro k hk; simp -dsimp (maxSteps := 2000000) [go_sem, -decide_eq_true_eq, -decide_eq_false_iff_not, hx, hxA, hb]
       repeat' first | apply And.intro | refine hk _ ?_ | intro hg | ((first | refine CallK.intro (ihn a (by omega)) ?_ | refine CallK.intro (iho b (by omega) _ hwa) ?_); simp -dsimp (maxSteps := 2000000) [go_sem, -decide_eq_true_eq, -decide_eq_false_iff_not, hx, hxA, hb]) | omega | exact True.intro
       all_goals clear hk k
       try (have hwb := wkF_len (e := e) (i := b) hwa (by omega))
       refine rg [6] ?_
       intro k hk; simp -dsimp [go_sem, -decide_eq_true_eq, -decide_eq_false_iff_not, hx, hxA]
       repeat' first | apply And.intro | refine hk _ ?_ | intro hg | omega | exact True.intro
       all_goals clear hk k
       refine rt ?_
       rw [wkF_eq hP hi]; (try (first | rw [if_neg (show ¬ 16 < out.length by omega)] | rw [if_pos (show 16 < out.length by omega)])); simp [go_sem, Tryz.results126, *] <;> first | (intro h9; omega) | (simp_all; done) | omega | grind)
     ·intro hc; try simp at hc
      all_goals try (exfalso; first | omega | (have hk9 := inR_iff.1 hc; omega); done)
      all_goals (
       refine AW.skipN (fun _ h => h) ?_
       try (have hwb := wkF_len (e := e) (i := b) hwa (by omega))
       refine rg [6] ?_
       intro k hk; simp -dsimp [go_sem, -decide_eq_true_eq, -decide_eq_false_iff_not, hx, hxA]
       repeat' first | apply And.intro | refine hk _ ?_ | intro hg | omega | exact True.intro
       all_goals clear hk k
       refine rt ?_
       rw [wkF_eq hP hi]; (try (first | rw [if_neg (show ¬ 16 < out.length by omega)] | rw [if_pos (show 16 < out.length by omega)])); simp [go_sem, Tryz.results126, *] <;> first | (intro h9; omega) | (simp_all; done) | omega | grind)))

/-- spec.l3Walk -/
theorem dc_spec_l3Walk_o (e : List TNode) (hP : PartsOk e e.length) (h16 : e.length ≤ 16) (i : Nat) (hi : i < e.length) (out : List Nat) (ho : out.length ≤ 40) (ihn : ∀ j : Nat, j < i → DC Tryz.prog 126 [.isl 4 (e.map TNode.ro), .int .i64 ((j : Nat) : Int), .nils] (.osl 1 ((wkF e j []).map N1)) []) (iho : ∀ j : Nat, j < i → ∀ out : List Nat, out.length ≤ 40 → DC Tryz.prog 126 [.isl 4 (e.map TNode.ro), .int .i64 ((j : Nat) : Int), .osl 1 (out.map N1)] (.osl 1 ((wkF e j out).map N1)) []) : DC Tryz.prog 126 [.isl 4 (e.map TNode.ro), .int .i64 ((i : Nat) : Int), .osl 1 (out.map N1)] (.osl 1 ((wkF e i out).map N1)) [] := by
 obtain ⟨x, hx⟩ := at_some hi
 have hxA := nA_at hx
 have hpx := hP i hi
 rw [nodeAt_at hx] at hpx
 have hq := nodeF_parts hpx
 refine DC.intro tiOk Tryz.func126 rfl rfl rfl rfl rfl rfl rfl rfl [1000] ?_
 refine rg [0,1,2] ?_
 intro k hk; simp -dsimp [go_sem, -decide_eq_true_eq, -decide_eq_false_iff_not, hx, hxA]
 repeat' first | apply And.intro | refine hk _ ?_ | intro hg | omega | exact True.intro
 all_goals clear hk k
 refine AW.seq ?_
 refine rg [0,1,2,9] ?_
 intro k hk; simp -dsimp [go_sem, -decide_eq_true_eq, -decide_eq_false_iff_not, hx, hxA]
 repeat' first | apply And.intro | refine hk _ ?_ | intro hg | omega | exact True.intro
 all_goals clear hk k
 refine AW.cond rfl ?_ ?_
 ·intro hc; try simp at hc
  all_goals try (exfalso; first | omega | (have hk9 := inR_iff.1 hc; omega); done)
  all_goals (
   refine rg [6] ?_
   intro k hk; simp -dsimp [go_sem, -decide_eq_true_eq, -decide_eq_false_iff_not, hx, hxA]
   repeat' first | apply And.intro | refine hk _ ?_ | intro hg | omega | exact True.intro
   all_goals clear hk k
   refine rt ?_
   rw [wkF_eq hP hi]; (try (first | rw [if_neg (show ¬ 16 < out.length by omega)] | rw [if_pos (show 16 < out.length by omega)])); simp [go_sem, Tryz.results126, *] <;> first | (intro h9; omega) | (simp_all; done) | omega | grind)
 ·intro hc; try simp at hc
  all_goals try (exfalso; first | omega | (have hk9 := inR_iff.1 hc; omega); done)
  all_goals (
   refine AW.skipN (fun _ h => h) ?_
   refine AW.seq ?_
   refine rg [0,1,2,16] ?_
   intro k hk; simp -dsimp [go_sem, -decide_eq_true_eq, -decide_eq_false_iff_not, hx, hxA]
   repeat' first | apply And.intro | refine hk _ ?_ | intro hg | omega | exact True.intro
   all_goals clear hk k
   refine AW.cond rfl ?_ ?_
   ·intro hc; try simp at hc
    all_goals try (exfalso; first | omega | (have hk9 := inR_iff.1 hc; omega); done)
    all_goals (
     have hk0 : 2 < x.kind := by simpa using hc
     have hl := left_of hpx hk0
     obtain ⟨a, ha⟩ : ∃ a : Nat, x.left = a := ⟨_, (Int.toNat_of_nonneg hl.1).symm⟩
     have hla : x.left.toNat = a := by omega
     have hwa := wkF_len (e := e) (i := a) (out := out) (by first | assumption | simp) (by omega)
     refine AW.regN tiOk (fun i => if i = 7 then [2] else []) [0,1,2] (fun _ h => h) ?_
     intro k hk; simp -dsimp (maxSteps := 2000000) [go_sem, -decide_eq_true_eq, -decide_eq_false_iff_not, hx, hxA, ha]
     repeat' first | apply And.intro | refine hk _ ?_ | intro hg | ((first | refine CallK.intro (iho a (by omega) _ ho) ?_ | refine CallK.intro (iho b (by omega) _ hwa) ?_); simp -dsimp (maxSteps := 2000000) [go_sem, -decide_eq_true_eq, -decide_eq_false_iff_not, hx, hxA, ha]) | omega | exact True.intro
     all_goals clear hk k
     refine AW.seq ?_
     refine rg [0,1,2,30] ?_
     intro k hk; simp -dsimp (maxSteps := 2000000) [go_sem, -decide_eq_true_eq, -decide_eq_false_iff_not, hx, hxA]
     repeat' first | apply And.intro | refine hk _ ?_ | intro hg | (refine CallK.intro (dc_spec_l3Two _) ?_; simp -dsimp (maxSteps := 2000000) [go_sem, -decide_eq_true_eq, -decide_eq_false_iff_not, hx, hxA]) | omega | exact True.intro
     all_goals clear hk k
     refine AW.cond rfl ?_ ?_
     ·intro hc; try simp at hc
      all_goals try (exfalso; first | omega | (have hk9 := inR_iff.1 hc; omega); done)
      all_goals (
       have hk2 : isTwoB x.kind = true := by simpa using hc
       have hr := hq.2.1 hk2
       have hk3 := inR_iff.1 hk2
       obtain ⟨b, hb⟩ : ∃ b : Nat, x.right = b := ⟨_, (Int.toNat_of_nonneg hr.2.2.1).symm⟩
       have hrb : x.right.toNat = b := by omega
       refine AW.regN tiOk (fun i => if i = 7 then [2] else []) [1,2] (fun _ h => h) ?_
       intro k hk; simp -dsimp (maxSteps := 2000000) [go_sem, -decide_eq_true_eq, -decide_eq_false_iff_not, hx, hxA, hb]
       repeat' first | apply And.intro | refine hk _ ?_ | intro hg | ((first | refine CallK.intro (iho a (by omega) _ ho) ?_ | refine CallK.intro (iho b (by omega) _ hwa) ?_); simp -dsimp (maxSteps := 2000000) [go_sem, -decide_eq_true_eq, -decide_eq_false_iff_not, hx, hxA, hb]) | omega | exact True.intro
       all_goals clear hk k
       try (have hwb := wkF_len (e := e) (i := b) hwa (by omega))
       refine rg [6] ?_
       intro k hk; simp -dsimp [go_sem, -decide_eq_true_eq, -decide_eq_false_iff_not, hx, hxA]
       repeat' first | apply And.intro | refine hk _ ?_ | intro hg | omega | exact True.intro
       all_goals clear hk k
       refine rt ?_
       rw [wkF_eq hP hi]; (try (first | rw [if_neg (show ¬ 16 < out.length by omega)] | rw [if_pos (show 16 < out.length by omega)])); simp [go_sem, Tryz.results126, *] <;> first | (intro h9; omega) | (simp_all; done) | omega | grind)
     ·intro hc; try simp at hc
      all_goals try (exfalso; first | omega | (have hk9 := inR_iff.1 hc; omega); done)
      all_goals (
       refine AW.skipN (fun _ h => h) ?_
       try (have hwb := wkF_len (e := e) (i := b) hwa (by omega))
       refine rg [6] ?_
       intro k hk; simp -dsimp [go_sem, -decide_eq_true_eq, -decide_eq_false_iff_not, hx, hxA]
       repeat' first | apply And.intro | refine hk _ ?_ | intro hg | omega | exact True.intro
       all_goals clear hk k
       refine rt ?_
       rw [wkF_eq hP hi]; (try (first | rw [if_neg (show ¬ 16 < out.length by omega)] | rw [if_pos (show 16 < out.length by omega)])); simp [go_sem, Tryz.results126, *] <;> first | (intro h9; omega) | (simp_all; done) | omega | grind))
   ·intro hc; try simp at hc
    all_goals try (exfalso; first | omega | (have hk9 := inR_iff.1 hc; omega); done)
    all_goals (
     refine AW.skipN (fun _ h => h) ?_
     refine AW.seq ?_
     refine rg [0,1,2,30] ?_
     intro k hk; simp -dsimp (maxSteps := 2000000) [go_sem, -decide_eq_true_eq, -decide_eq_false_iff_not, hx, hxA]
     repeat' first | apply And.intro | refine hk _ ?_ | intro hg | (refine CallK.intro (dc_spec_l3Two _) ?_; simp -dsimp (maxSteps := 2000000) [go_sem, -decide_eq_true_eq, -decide_eq_false_iff_not, hx, hxA]) | omega | exact True.intro
     all_goals clear hk k
     refine AW.cond rfl ?_ ?_
     ·intro hc; try simp at hc
      all_goals try (exfalso; first | omega | (have hk9 := inR_iff.1 hc; omega); done)
      all_goals (
       have hk2 : isTwoB x.kind = true := by simpa using hc
       have hr := hq.2.1 hk2
       have hk3 := inR_iff.1 hk2
       obtain ⟨b, hb⟩ : ∃ b : Nat, x.right = b := ⟨_, (Int.toNat_of_nonneg hr.2.2.1).symm⟩
       have hrb : x.right.toNat = b := by omega
       refine AW.regN tiOk (fun i => if i = 7 then [2] else []) [1,2] (fun _ h => h) ?_
       intro k hk; simp -dsimp (maxSteps := 2000000) [go_sem, -decide_eq_true_eq, -decide_eq_false_iff_not, hx, hxA, hb]
       repeat' first | apply And.intro | refine hk _ ?_ | intro hg | ((first | refine CallK.intro (iho a (by omega) _ ho) ?_ | refine CallK.intro (iho b (by omega) _ hwa) ?_); simp -dsimp (maxSteps := 2000000) [go_sem, -decide_eq_true_eq, -decide_eq_false_iff_not, hx, hxA, hb]) | omega | exact True.intro
       all_goals clear hk k
       try (have hwb := wkF_len (e := e) (i := b) hwa (by omega))
       refine rg [6] ?_
       intro k hk; simp -dsimp [go_sem, -decide_eq_true_eq, -decide_eq_false_iff_not, hx, hxA]
       repeat' first | apply And.intro | refine hk _ ?_ | intro hg | omega | exact True.intro
       all_goals clear hk k
       refine rt ?_
       rw [wkF_eq hP hi]; (try (first | rw [if_neg (show ¬ 16 < out.length by omega)] | rw [if_pos (show 16 < out.length by omega)])); simp [go_sem, Tryz.results126, *] <;> first | (intro h9; omega) | (simp_all; done) | omega | grind)
     ·intro hc; try simp at hc
      all_goals try (exfalso; first | omega | (have hk9 := inR_iff.1 hc; omega); done)
      all_goals (
       refine AW.skipN (fun _ h => h) ?_
       try (have hwb := wkF_len (e := e) (i := b) hwa (by omega))
       refine rg [6] ?_
       intro k hk; simp -dsimp [go_sem, -decide_eq_true_eq, -decide_eq_false_iff_not, hx, hxA]
       repeat' first | apply And.intro | refine hk _ ?_ | intro hg | omega | exact True.intro
       all_goals clear hk k
       refine rt ?_
       rw [wkF_eq hP hi]; (try (first | rw [if_neg (show ¬ 16 < out.length by omega)] | rw [if_pos (show 16 < out.length by omega)])); simp [go_sem, Tryz.results126, *] <;> first | (intro h9; omega) | (simp_all; done) | omega | grind)))
theorem dc_spec_l3Walk (e : List TNode) (hP : PartsOk e e.length) (h16 : e.length ≤ 16) : ∀ (m i : Nat), i ≤ m → i < e.length → DC Tryz.prog 126 [.isl 4 (e.map TNode.ro), .int .i64 ((i : Nat) : Int), .nils] (.osl 1 ((wkF e i []).map N1)) [] ∧ ∀ out : List Nat, out.length ≤ 40 → DC Tryz.prog 126 [.isl 4 (e.map TNode.ro), .int .i64 ((i : Nat) : Int), .osl 1 (out.map N1)] (.osl 1 ((wkF e i out).map N1)) [] := by
  intro m
  induction m with
  | zero =>
    intro i hm hi
    have h1 : ∀ j : Nat, j < i → False := fun j hj => by omega
    exact ⟨dc_spec_l3Walk_n e hP h16 i hi (fun j hj => (h1 j hj).elim) (fun j hj => (h1 j hj).elim), fun out ho => dc_spec_l3Walk_o e hP h16 i hi out ho (fun j hj => (h1 j hj).elim) (fun j hj => (h1 j hj).elim)⟩
  | succ m ih =>
    intro i hm hi
    have h1 : ∀ j : Nat, j < i → _ := fun j hj => ih j (by omega) (by omega)
    exact ⟨dc_spec_l3Walk_n e hP h16 i hi (fun j hj => (h1 j hj).1) (fun j hj => (h1 j hj).2), fun out ho => dc_spec_l3Walk_o e hP h16 i hi out ho (fun j hj => (h1 j hj).1) (fun j hj => (h1 j hj).2)⟩
theorem dc_spec_l3Walk_nil (e : List TNode) (hP : PartsOk e e.length) (h16 : e.length ≤ 16) (i : Nat) (hi : i < e.length) : DC Tryz.prog 126 [.isl 4 (e.map TNode.ro), .int .i64 ((i : Nat) : Int), .nils] (.osl 1 ((wkF e i []).map N1)) [] := (dc_spec_l3Walk e hP h16 i i (Nat.le_refl _) hi).1

end Go.AM
namespace Go.AM
open Go.Proofs

/-- spec.l3Fault -/
theorem dc_spec_l3Fault (e : List TNode) (he : e.length ≤ 9223372036854775807) : DC Tryz.prog 108 [.isl 4 (e.map TNode.ro)] (.int .i64 (exprF e)) [] := by
 refine DC.intro tiOk Tryz.func108 rfl rfl rfl rfl rfl rfl rfl rfl [] ?_
 refine rgA [0] ?_
 refine AW.seq ?_
 refine AW.cut ⟨51, [(0, .isl 4 (e.map TNode.ro)), (14, .bool (decide (e.length < 1 ∨ 16 < e.length)))], []⟩ ?_ ?_
 ·skip
  refine rgK ?_
  intro k hk; simp +contextual -dsimp (maxSteps := 2000000) [go_sem, -decide_eq_true_eq, -decide_eq_false_iff_not]
  repeat' first | apply And.intro | refine hk _ ?_ | (intro hg; try simp only [decide_eq_true_eq, decide_eq_false_iff_not] at hg) | omega | exact True.intro
  all_goals clear hk k
  all_goals (show St.Less _ _; exact Less.of rfl (by simp [go_sem, -Nat.lt_one_iff, -List.length_eq_zero_iff] <;> first | omega | grind) (by simp [go_sem]))
 ·skip
  refine AW.cond rfl ?_ ?_
  ·intro hc; try simp at hc
   all_goals (
    refine rgA [2] ?_
    refine rt ?_
    first | (rw [exprF_len' (by simpa using hc)]; simp [go_sem, Tryz.results108]; done) | (rw [exprF_node hR hlt hall (by rw [hxn]; assumption), hxn]; simp [go_sem, Tryz.results108]; done) | (rw [exprF_wk hR hN, if_neg (wk_ne_len (by first | assumption | omega))]; simp [go_sem, Tryz.results108]; done) | (rw [exprF_wk hR hN, if_neg (wk_ne_at hy (by first | assumption | omega))]; simp [go_sem, Tryz.results108]; done) | (rw [exprF_wk hR hN, if_pos (wk_eq (by first | assumption | omega) (fun k hk => hal2 k (by omega)))]; simp [go_sem, Tryz.results108]))
  ·intro hc; try simp at hc
   all_goals (
    refine AW.skipN (fun _ h => h) ?_
    refine AW.seq ?_
    have hlen : 1 ≤ e.length ∧ e.length ≤ 16 := by obtain ⟨h8, h9⟩ := hc; have : e.length ≠ 0 := (fun h => h8 (List.length_eq_zero_iff.1 h)); omega
    have hR : inR e.length 1 16 = true := inR_iff.2 (by omega)
    refine rgA [0,3] ?_
    refine AW.block ?_
    refine AW.loopI (fun i : Nat => ⟨51, [(0, .isl 4 (e.map TNode.ro)), (3, .int .i64 i)], []⟩) (fun i => i ≤ e.length ∧ ∀ k, k < i → nodeAt e k = 0) (fun i => e.length - i) (0) (by simp) (Less.of rfl (by simp [go_sem]) (by simp [go_sem])) ?_
    rintro i ⟨hi, hall⟩
    refine AW.seq ?_
    refine rgA [0,3,18] ?_
    refine AW.cond rfl ?_ ?_
    ·intro hc; try simp at hc
     all_goals (
      have hlt : i < e.length := by assumption
      obtain ⟨x, hx⟩ := at_some hlt
      have hxn := nodeAt_at hx
      refine AW.skipN (fun _ h => h) ?_
      refine AW.seq ?_
      refine AW.block ?_
      refine rg [0,3,4] ?_
      intro k hk; simp -dsimp (maxSteps := 2000000) [go_sem, -decide_eq_true_eq, -decide_eq_false_iff_not, hx]
      repeat' first | apply And.intro | refine hk _ ?_ | intro hg | (refine CallK.intro (dc_spec_l3Node x i (by omega)) ?_; simp -dsimp (maxSteps := 2000000) [go_sem, -decide_eq_true_eq, -decide_eq_false_iff_not, hx]) | omega | exact True.intro
      all_goals clear hk k
      refine rg [0,3,4,27] ?_
      intro k hk; simp -dsimp [go_sem, -decide_eq_true_eq, -decide_eq_false_iff_not, hx]
      repeat' first | apply And.intro | refine hk _ ?_ | intro hg | omega | exact True.intro
      all_goals clear hk k
      refine AW.cond rfl ?_ ?_
      ·intro hc; try simp at hc
       all_goals (
        refine rg [2] ?_
        intro k hk; simp -dsimp [go_sem, -decide_eq_true_eq, -decide_eq_false_iff_not, hx]
        repeat' first | apply And.intro | refine hk _ ?_ | intro hg | omega | exact True.intro
        all_goals clear hk k
        refine rt ?_
        first | (rw [exprF_len' (by simpa using hc)]; simp [go_sem, Tryz.results108]; done) | (rw [exprF_node hR hlt hall (by rw [hxn]; assumption), hxn]; simp [go_sem, Tryz.results108]; done) | (rw [exprF_wk hR hN, if_neg (wk_ne_len (by first | assumption | omega))]; simp [go_sem, Tryz.results108]; done) | (rw [exprF_wk hR hN, if_neg (wk_ne_at hy (by first | assumption | omega))]; simp [go_sem, Tryz.results108]; done) | (rw [exprF_wk hR hN, if_pos (wk_eq (by first | assumption | omega) (fun k hk => hal2 k (by omega)))]; simp [go_sem, Tryz.results108]))
      ·intro hc; try simp at hc
       all_goals (
        refine AW.skipN (fun _ h => h) ?_
        refine rgK ?_
        intro k hk; simp -dsimp [go_sem, -decide_eq_true_eq, -decide_eq_false_iff_not, hx]
        repeat' first | apply And.intro | refine hk _ ?_ | intro hg | omega | exact True.intro
        all_goals clear hk k
        show ∃ _, _
        have hw := wrapi hlt (by omega)
        refine ⟨i + 1, ⟨by omega, upto hall (by rw [hxn]; first | assumption | simpa using hc)⟩, by omega, Less.of rfl (by simp [go_sem, hw]) (by simp [go_sem])⟩))
    ·intro hc; try simp at hc
     all_goals (
      refine AW.exitN (fun _ h => h) ?_
      have hN : ∀ k, k < e.length → nodeAt e k = 0 := fun k hk => hall k (by omega)
      have hP : PartsOk e e.length := hN
      have hwl : IntKind.wrap .i64 ((e.length : Int) - 1) = ((e.length - 1 : Nat) : Int) := by rw [wrap64 (by omega) (by omega)]; omega
      have hwk := wkF_len (e := e) (i := e.length - 1) (out := []) (by simp) (by omega)
      refine rg [0,5] ?_
      intro k hk; simp -dsimp (maxSteps := 2000000) [go_sem, -decide_eq_true_eq, -decide_eq_false_iff_not, hwl]
      repeat' first | apply And.intro | refine hk _ ?_ | intro hg | (refine CallK.intro (dc_spec_l3Walk_nil e hP (by omega) (e.length - 1) (by omega)) ?_; simp -dsimp (maxSteps := 2000000) [go_sem, -decide_eq_true_eq, -decide_eq_false_iff_not, hwl]) | omega | exact True.intro
      all_goals clear hk k
      refine AW.seq ?_
      refine rgA [5,38] ?_
      refine AW.cond rfl ?_ ?_
      ·intro hc; try simp at hc
       all_goals (
        refine rgA [2] ?_
        refine rt ?_
        first | (rw [exprF_len' (by simpa using hc)]; simp [go_sem, Tryz.results108]; done) | (rw [exprF_node hR hlt hall (by rw [hxn]; assumption), hxn]; simp [go_sem, Tryz.results108]; done) | (rw [exprF_wk hR hN, if_neg (wk_ne_len (by first | assumption | omega))]; simp [go_sem, Tryz.results108]; done) | (rw [exprF_wk hR hN, if_neg (wk_ne_at hy (by first | assumption | omega))]; simp [go_sem, Tryz.results108]; done) | (rw [exprF_wk hR hN, if_pos (wk_eq (by first | assumption | omega) (fun k hk => hal2 k (by omega)))]; simp [go_sem, Tryz.results108]))
      ·intro hc; try simp at hc
       all_goals (
        refine AW.skipN (fun _ h => h) ?_
        refine AW.seq ?_
        refine rgA [5,6] ?_
        refine AW.block ?_
        refine AW.loopI (fun i : Nat => ⟨51, [(5, .sl 1033 1 0 (wkF e (e.length - 1) []).length), (6, .int .i64 i)], [(1033, some ⟨1, (wkF e (e.length - 1) []).map N1⟩)]⟩) (fun i => i ≤ (wkF e (e.length - 1) []).length ∧ ∀ k, k < i → (wkF e (e.length - 1) [])[k]? = some k) (fun i => (wkF e (e.length - 1) []).length - i) (0) (by simp) (Less.of rfl (by simp [go_sem]) (by simp [go_sem])) ?_
        rintro i ⟨hi2, hal2⟩
        refine AW.seq ?_
        refine rgA [5,6,42] ?_
        refine AW.cond rfl ?_ ?_
        ·intro hc; try simp at hc
         all_goals (
          have hlt2 : i < (wkF e (e.length - 1) []).length := by assumption
          obtain ⟨y, hy⟩ := at_some hlt2
          refine AW.skipN (fun _ h => h) ?_
          refine AW.seq ?_
          refine AW.block ?_
          refine rg [5,6,50] ?_
          intro k hk; simp -dsimp [go_sem, -decide_eq_true_eq, -decide_eq_false_iff_not, hy]
          repeat' first | apply And.intro | refine hk _ ?_ | intro hg | omega | exact True.intro
          all_goals clear hk k
          refine AW.cond rfl ?_ ?_
          ·intro hc; try simp at hc
           all_goals (
            refine rg [2] ?_
            intro k hk; simp -dsimp [go_sem, -decide_eq_true_eq, -decide_eq_false_iff_not, hy]
            repeat' first | apply And.intro | refine hk _ ?_ | intro hg | omega | exact True.intro
            all_goals clear hk k
            refine rt ?_
            first | (rw [exprF_len' (by simpa using hc)]; simp [go_sem, Tryz.results108]; done) | (rw [exprF_node hR hlt hall (by rw [hxn]; assumption), hxn]; simp [go_sem, Tryz.results108]; done) | (rw [exprF_wk hR hN, if_neg (wk_ne_len (by first | assumption | omega))]; simp [go_sem, Tryz.results108]; done) | (rw [exprF_wk hR hN, if_neg (wk_ne_at hy (by first | assumption | omega))]; simp [go_sem, Tryz.results108]; done) | (rw [exprF_wk hR hN, if_pos (wk_eq (by first | assumption | omega) (fun k hk => hal2 k (by omega)))]; simp [go_sem, Tryz.results108]))
          ·intro hc; try simp at hc
           all_goals (
            refine AW.skipN (fun _ h => h) ?_
            refine rgK ?_
            intro k hk; simp -dsimp [go_sem, -decide_eq_true_eq, -decide_eq_false_iff_not, hy]
            repeat' first | apply And.intro | refine hk _ ?_ | intro hg | omega | exact True.intro
            all_goals clear hk k
            show ∃ _, _
            have hw := wrapi hlt2 (by omega)
            refine ⟨i + 1, ⟨by omega, upto_at hal2 hy (by first | assumption | omega)⟩, by omega, Less.of rfl (by simp [go_sem, hw]) (by simp [go_sem])⟩))
        ·intro hc; try simp at hc
         all_goals (
          refine AW.exitN (fun _ h => h) ?_
          refine rgA [2] ?_
          refine rt ?_
          first | (rw [exprF_len' (by simpa using hc)]; simp [go_sem, Tryz.results108]; done) | (rw [exprF_node hR hlt hall (by rw [hxn]; assumption), hxn]; simp [go_sem, Tryz.results108]; done) | (rw [exprF_wk hR hN, if_neg (wk_ne_len (by first | assumption | omega))]; simp [go_sem, Tryz.results108]; done) | (rw [exprF_wk hR hN, if_neg (wk_ne_at hy (by first | assumption | omega))]; simp [go_sem, Tryz.results108]; done) | (rw [exprF_wk hR hN, if_pos (wk_eq (by first | assumption | omega) (fun k hk => hal2 k (by omega)))]; simp [go_sem, Tryz.results108])))))

end Go.AM
namespace Go.AM
open Go.Proofs

/-- spec.l3Types -/
theorem dc_spec_l3Types_b (e : List TNode) (hP : PartsOk e e.length) (hlen : e.length ≤ 16) (hub : typU e e.length = true) : DC Tryz.prog 127 [.isl 4 (e.map TNode.ro)] (.tup [.nils, .bool false]) [] := by
 refine DC.intro tiOk Tryz.func127 rfl rfl rfl rfl rfl rfl rfl rfl [1001] ?_
 refine rg [0] ?_
 intro k hk; simp -dsimp [go_sem, -decide_eq_true_eq, -decide_eq_false_iff_not]
 repeat' first | apply And.intro | refine hk _ ?_ | intro hg | omega | exact True.intro | (have h9 := hr (by assumption); omega) | fail
 all_goals clear hk k
 refine rg [0,4] ?_
 intro k hk; simp -dsimp [go_sem, -decide_eq_true_eq, -decide_eq_false_iff_not]
 repeat' first | apply And.intro | refine hk _ ?_ | intro hg | omega | exact True.intro | (have h9 := hr (by assumption); omega) | fail
 all_goals clear hk k
 refine AW.seq ?_
 refine rg [0,4,5] ?_
 intro k hk; simp -dsimp [go_sem, -decide_eq_true_eq, -decide_eq_false_iff_not]
 repeat' first | apply And.intro | refine hk _ ?_ | intro hg | omega | exact True.intro | (have h9 := hr (by assumption); omega) | fail
 all_goals clear hk k
 refine AW.block ?_
 refine AW.rename (nd := ?nd_1) 9 60 ?h1_1 ?h2_1 ?h4_1 ?kk_1
 (case h1_1 => exact rfl)
 (case h2_1 => simp [go_sem])
 (case h4_1 => simp [go_sem])
 refine AW.loopI (fun i : Nat => ⟨62, [(0, .isl 4 (e.map TNode.ro)), (4, .sl 60 1 0 i), (5, .int .i64 i)], [(60, some ⟨1, (typesL e i).map I1⟩)]⟩) (fun i => i ≤ e.length ∧ typU e i = false) (fun i => e.length - i) (0) (by simp [typU]) (Less.of rfl (by simp [go_sem]) (by simp [go_sem, typesL])) ?_
 rintro i ⟨hi, hu⟩
 refine AW.rename (nd := ?nd_2) 60 9 ?h1_2 ?h2_2 ?h4_2 ?kk_2
 (case h1_2 => exact rfl)
 (case h2_2 => simp [go_sem])
 (case h4_2 => simp [go_sem])
 refine AW.seq ?_
 refine rg [0,4,5,13] ?_
 intro k hk; simp -dsimp [go_sem, -decide_eq_true_eq, -decide_eq_false_iff_not]
 repeat' first | apply And.intro | refine hk _ ?_ | intro hg | omega | exact True.intro | (have h9 := hr (by assumption); omega) | fail
 all_goals clear hk k
 refine AW.cond rfl ?_ ?_
 ·intro hc; try simp at hc
  all_goals try (exfalso; omega; done)
  all_goals (
   have hlt : i < e.length := by assumption
   obtain ⟨x, hx⟩ := at_some hlt
   have hxA := nA_at hx
   have hpx := hP i hlt
   rw [nodeAt_at hx] at hpx
   have hq := nodeF_parts hpx
   have hl : 2 < x.kind → 0 ≤ x.left ∧ x.left.toNat < i := left_of hpx
   have hr := hq.2.1
   have htl := typesL_len e i
   have htk : List.take i ((typesL e i).map I1) = (typesL e i).map I1 := List.take_of_length_le (by simp [htl])
   have hsA : decide (2 < x.kind) = true → (typesL e i)[x.left.toNat]? = some (ownT (nA e x.left.toNat).kind) := fun h => typesL_at (hl (by simpa using h)).2
   have hsB : isTwoB x.kind = true → (typesL e i)[x.right.toNat]? = some (ownT (nA e x.right.toNat).kind) := fun h => typesL_at (hr h).2.2.2
   refine AW.skipN (fun _ h => h) ?_
   refine AW.seq ?_
   refine AW.block ?_
   refine rg [0,4,5,6] ?_
   intro k hk; simp -dsimp [go_sem, -decide_eq_true_eq, -decide_eq_false_iff_not, hx, htl, hsA, hsB]
   repeat' first | apply And.intro | refine hk _ ?_ | intro hg | omega | exact True.intro | (have h9 := hr (by assumption); omega) | fail
   all_goals clear hk k
   refine rg [0,4,5,6,7] ?_
   intro k hk; simp -dsimp [go_sem, -decide_eq_true_eq, -decide_eq_false_iff_not, hx, htl, hsA, hsB]
   repeat' first | apply And.intro | refine hk _ ?_ | intro hg | omega | exact True.intro | (have h9 := hr (by assumption); omega) | fail
   all_goals clear hk k
   refine rg [0,4,5,6,7,8] ?_
   intro k hk; simp -dsimp [go_sem, -decide_eq_true_eq, -decide_eq_false_iff_not, hx, htl, hsA, hsB]
   repeat' first | apply And.intro | refine hk _ ?_ | intro hg | omega | exact True.intro | (have h9 := hr (by assumption); omega) | fail
   all_goals clear hk k
   refine AW.seq ?_
   refine AW.cut ⟨62, [(0, .isl 4 (e.map TNode.ro)), (4, .sl 9 1 0 i), (5, .int .i64 i), (6, .ptr 6 4 0 0), (7, .int .i64 1), (8, .int .i64 1), (27, .bool (decide (x.kind = 9 ∨ x.kind = 10)))], [(6, some ⟨4, [x.ro]⟩), (9, some ⟨1, (typesL e i).map I1⟩)]⟩ ?_ ?_
   ·skip
    refine rgK ?_
    intro k hk; simp +contextual -dsimp (maxSteps := 2000000) [go_sem, -decide_eq_true_eq, -decide_eq_false_iff_not, hx, htl, hsA, hsB]
    repeat' first | apply And.intro | refine hk _ ?_ | (intro hg; try simp only [decide_eq_true_eq, decide_eq_false_iff_not] at hg) | omega | exact True.intro | (have h9 := hr (by assumption); omega) | fail
    all_goals clear hk k
    all_goals (show St.Less _ _; exact Less.of rfl (by simp [go_sem] <;> first | omega | grind) (by simp [go_sem]))
   ·skip
    refine AW.cond rfl ?_ ?_
    ·intro hc; try simp at hc
     all_goals try (exfalso; omega; done)
     all_goals (
      have hk9 : x.kind = 9 ∨ x.kind = 10 := by simpa using hc
      refine rgN [0,4,5,6,7,8] (fun _ h => h) ?_
      intro k hk; simp -dsimp [go_sem, -decide_eq_true_eq, -decide_eq_false_iff_not, hx, htl, hsA, hsB]
      repeat' first | apply And.intro | refine hk _ ?_ | intro hg | omega | exact True.intro | (have h9 := hr (by assumption); omega) | fail
      all_goals clear hk k
      refine AW.seq ?_
      refine rg [0,4,5,6,7,8,30] ?_
      intro k hk; simp -dsimp [go_sem, -decide_eq_true_eq, -decide_eq_false_iff_not, hx, htl, hsA, hsB]
      repeat' first | apply And.intro | refine hk _ ?_ | intro hg | omega | exact True.intro | (have h9 := hr (by assumption); omega) | fail
      all_goals clear hk k
      refine AW.cond rfl ?_ ?_
      ·intro hc; try simp at hc
       all_goals try (exfalso; omega; done)
       all_goals (
        refine rgN [0,4,5,6,7,8] (fun _ h => h) ?_
        intro k hk; simp -dsimp [go_sem, -decide_eq_true_eq, -decide_eq_false_iff_not, hx, htl, hsA, hsB]
        repeat' first | apply And.intro | refine hk _ ?_ | intro hg | omega | exact True.intro | (have h9 := hr (by assumption); omega) | fail
        all_goals clear hk k
        refine AW.seq ?_
        have hpt : partT x.kind = _ := rfl
        refine AW.cut ⟨62, [(0, .isl 4 (e.map TNode.ro)), (4, .sl 9 1 0 i), (5, .int .i64 i), (8, .int .i64 (ownT x.kind)), (56, .bool (typBad e i))], [(9, some ⟨1, (typesL e i).map I1⟩)]⟩ ?_ ?_
        ·skip
         refine rgK ?_
         intro k hk; simp +contextual -dsimp (maxSteps := 2000000) [go_sem, -decide_eq_true_eq, -decide_eq_false_iff_not, hx, htl, hsA, hsB]
         repeat' first | apply And.intro | refine hk _ ?_ | (intro hg; try simp only [decide_eq_true_eq, decide_eq_false_iff_not] at hg) | (refine CallK.intro (dc_spec_l3Two _) ?_; simp +contextual -dsimp (maxSteps := 2000000) [go_sem, -decide_eq_true_eq, -decide_eq_false_iff_not, hx, htl, hsA, hsB]) | omega | exact True.intro | (have h9 := hr (by assumption); omega) | fail
         all_goals clear hk k
         all_goals (show St.Less _ _; exact Less.of rfl (by simp [go_sem, typBad, hxA] <;> grind [ownT, partT]) (by simp [go_sem]))
        ·skip
         refine AW.cond rfl ?_ ?_
         ·intro hc; try simp at hc
          all_goals try (exfalso; omega; done)
          all_goals (
           refine rg [2,3] ?_
           intro k hk; simp -dsimp [go_sem, -decide_eq_true_eq, -decide_eq_false_iff_not, hx, htl, hsA, hsB]
           repeat' first | apply And.intro | refine hk _ ?_ | intro hg | omega | exact True.intro | (have h9 := hr (by assumption); omega) | fail
           all_goals clear hk k
           refine rt ?_
           first | (simp [go_sem, Tryz.results127]; done) | (exfalso; have hie : i = e.length := (by omega); rw [hie, hub] at hu; cases hu))
         ·intro hc; try simp at hc
          all_goals try (exfalso; omega; done)
          all_goals (
           refine AW.skipN (fun _ h => h) ?_
           refine rgN [0,4,5] (fun _ h => h) ?_
           intro k hk; simp -dsimp [go_sem, -decide_eq_true_eq, -decide_eq_false_iff_not, hx, htl, hsA, hsB]
           repeat' first | apply And.intro | refine hk _ ?_ | intro hg | omega | exact True.intro | (have h9 := hr (by assumption); omega) | fail
           all_goals clear hk k
           refine rgK ?_
           intro k hk; simp -dsimp [go_sem, -decide_eq_true_eq, -decide_eq_false_iff_not, hx, htl, hsA, hsB]
           repeat' first | apply And.intro | refine hk _ ?_ | intro hg | omega | exact True.intro | (have h9 := hr (by assumption); omega) | fail
           all_goals clear hk k
           show ∃ _, _
           have hw := wrapi hlt (by omega)
           have hub : typBad e i = false := by simpa using hc
           refine ⟨i + 1, ⟨by omega, typU_go hu hub⟩, by omega, Less.of rfl (by simp [go_sem, hw]) (by simp [go_sem, typesL_succ, hxA, htk] <;> (unfold ownT; first | omega | (split <;> omega)))⟩))
      ·intro hc; try simp at hc
       all_goals try (exfalso; omega; done)
       all_goals (
        refine AW.skipN (fun _ h => h) ?_
        refine AW.seq ?_
        have hpt : partT x.kind = _ := rfl
        refine AW.cut ⟨62, [(0, .isl 4 (e.map TNode.ro)), (4, .sl 9 1 0 i), (5, .int .i64 i), (8, .int .i64 (ownT x.kind)), (56, .bool (typBad e i))], [(9, some ⟨1, (typesL e i).map I1⟩)]⟩ ?_ ?_
        ·skip
         refine rgK ?_
         intro k hk; simp +contextual -dsimp (maxSteps := 2000000) [go_sem, -decide_eq_true_eq, -decide_eq_false_iff_not, hx, htl, hsA, hsB]
         repeat' first | apply And.intro | refine hk _ ?_ | (intro hg; try simp only [decide_eq_true_eq, decide_eq_false_iff_not] at hg) | (refine CallK.intro (dc_spec_l3Two _) ?_; simp +contextual -dsimp (maxSteps := 2000000) [go_sem, -decide_eq_true_eq, -decide_eq_false_iff_not, hx, htl, hsA, hsB]) | omega | exact True.intro | (have h9 := hr (by assumption); omega) | fail
         all_goals clear hk k
         all_goals (show St.Less _ _; exact Less.of rfl (by simp [go_sem, typBad, hxA] <;> grind [ownT, partT]) (by simp [go_sem]))
        ·skip
         refine AW.cond rfl ?_ ?_
         ·intro hc; try simp at hc
          all_goals try (exfalso; omega; done)
          all_goals (
           refine rg [2,3] ?_
           intro k hk; simp -dsimp [go_sem, -decide_eq_true_eq, -decide_eq_false_iff_not, hx, htl, hsA, hsB]
           repeat' first | apply And.intro | refine hk _ ?_ | intro hg | omega | exact True.intro | (have h9 := hr (by assumption); omega) | fail
           all_goals clear hk k
           refine rt ?_
           first | (simp [go_sem, Tryz.results127]; done) | (exfalso; have hie : i = e.length := (by omega); rw [hie, hub] at hu; cases hu))
         ·intro hc; try simp at hc
          all_goals try (exfalso; omega; done)
          all_goals (
           refine AW.skipN (fun _ h => h) ?_
           refine rgN [0,4,5] (fun _ h => h) ?_
           intro k hk; simp -dsimp [go_sem, -decide_eq_true_eq, -decide_eq_false_iff_not, hx, htl, hsA, hsB]
           repeat' first | apply And.intro | refine hk _ ?_ | intro hg | omega | exact True.intro | (have h9 := hr (by assumption); omega) | fail
           all_goals clear hk k
           refine rgK ?_
           intro k hk; simp -dsimp [go_sem, -decide_eq_true_eq, -decide_eq_false_iff_not, hx, htl, hsA, hsB]
           repeat' first | apply And.intro | refine hk _ ?_ | intro hg | omega | exact True.intro | (have h9 := hr (by assumption); omega) | fail
           all_goals clear hk k
           show ∃ _, _
           have hw := wrapi hlt (by omega)
           have hub : typBad e i = false := by simpa using hc
           refine ⟨i + 1, ⟨by omega, typU_go hu hub⟩, by omega, Less.of rfl (by simp [go_sem, hw]) (by simp [go_sem, typesL_succ, hxA, htk] <;> (unfold ownT; first | omega | (split <;> omega)))⟩)))
    ·intro hc; try simp at hc
     all_goals try (exfalso; omega; done)
     all_goals (
      refine AW.skipN (fun _ h => h) ?_
      refine AW.seq ?_
      refine rg [0,4,5,6,7,8,30] ?_
      intro k hk; simp -dsimp [go_sem, -decide_eq_true_eq, -decide_eq_false_iff_not, hx, htl, hsA, hsB]
      repeat' first | apply And.intro | refine hk _ ?_ | intro hg | omega | exact True.intro | (have h9 := hr (by assumption); omega) | fail
      all_goals clear hk k
      refine AW.cond rfl ?_ ?_
      ·intro hc; try simp at hc
       all_goals try (exfalso; omega; done)
       all_goals (
        refine rgN [0,4,5,6,7,8] (fun _ h => h) ?_
        intro k hk; simp -dsimp [go_sem, -decide_eq_true_eq, -decide_eq_false_iff_not, hx, htl, hsA, hsB]
        repeat' first | apply And.intro | refine hk _ ?_ | intro hg | omega | exact True.intro | (have h9 := hr (by assumption); omega) | fail
        all_goals clear hk k
        refine AW.seq ?_
        have hpt : partT x.kind = _ := rfl
        refine AW.cut ⟨62, [(0, .isl 4 (e.map TNode.ro)), (4, .sl 9 1 0 i), (5, .int .i64 i), (8, .int .i64 (ownT x.kind)), (56, .bool (typBad e i))], [(9, some ⟨1, (typesL e i).map I1⟩)]⟩ ?_ ?_
        ·skip
         refine rgK ?_
         intro k hk; simp +contextual -dsimp (maxSteps := 2000000) [go_sem, -decide_eq_true_eq, -decide_eq_false_iff_not, hx, htl, hsA, hsB]
         repeat' first | apply And.intro | refine hk _ ?_ | (intro hg; try simp only [decide_eq_true_eq, decide_eq_false_iff_not] at hg) | (refine CallK.intro (dc_spec_l3Two _) ?_; simp +contextual -dsimp (maxSteps := 2000000) [go_sem, -decide_eq_true_eq, -decide_eq_false_iff_not, hx, htl, hsA, hsB]) | omega | exact True.intro | (have h9 := hr (by assumption); omega) | fail
         all_goals clear hk k
         all_goals (show St.Less _ _; exact Less.of rfl (by simp [go_sem, typBad, hxA] <;> grind [ownT, partT]) (by simp [go_sem]))
        ·skip
         refine AW.cond rfl ?_ ?_
         ·intro hc; try simp at hc
          all_goals try (exfalso; omega; done)
          all_goals (
           refine rg [2,3] ?_
           intro k hk; simp -dsimp [go_sem, -decide_eq_true_eq, -decide_eq_false_iff_not, hx, htl, hsA, hsB]
           repeat' first | apply And.intro | refine hk _ ?_ | intro hg | omega | exact True.intro | (have h9 := hr (by assumption); omega) | fail
           all_goals clear hk k
           refine rt ?_
           first | (simp [go_sem, Tryz.results127]; done) | (exfalso; have hie : i = e.length := (by omega); rw [hie, hub] at hu; cases hu))
         ·intro hc; try simp at hc
          all_goals try (exfalso; omega; done)
          all_goals (
           refine AW.skipN (fun _ h => h) ?_
           refine rgN [0,4,5] (fun _ h => h) ?_
           intro k hk; simp -dsimp [go_sem, -decide_eq_true_eq, -decide_eq_false_iff_not, hx, htl, hsA, hsB]
           repeat' first | apply And.intro | refine hk _ ?_ | intro hg | omega | exact True.intro | (have h9 := hr (by assumption); omega) | fail
           all_goals clear hk k
           refine rgK ?_
           intro k hk; simp -dsimp [go_sem, -decide_eq_true_eq, -decide_eq_false_iff_not, hx, htl, hsA, hsB]
           repeat' first | apply And.intro | refine hk _ ?_ | intro hg | omega | exact True.intro | (have h9 := hr (by assumption); omega) | fail
           all_goals clear hk k
           show ∃ _, _
           have hw := wrapi hlt (by omega)
           have hub : typBad e i = false := by simpa using hc
           refine ⟨i + 1, ⟨by omega, typU_go hu hub⟩, by omega, Less.of rfl (by simp [go_sem, hw]) (by simp [go_sem, typesL_succ, hxA, htk] <;> (unfold ownT; first | omega | (split <;> omega)))⟩))
      ·intro hc; try simp at hc
       all_goals try (exfalso; omega; done)
       all_goals (
        refine AW.skipN (fun _ h => h) ?_
        refine AW.seq ?_
        have hpt : partT x.kind = _ := rfl
        refine AW.cut ⟨62, [(0, .isl 4 (e.map TNode.ro)), (4, .sl 9 1 0 i), (5, .int .i64 i), (8, .int .i64 (ownT x.kind)), (56, .bool (typBad e i))], [(9, some ⟨1, (typesL e i).map I1⟩)]⟩ ?_ ?_
        ·skip
         refine rgK ?_
         intro k hk; simp +contextual -dsimp (maxSteps := 2000000) [go_sem, -decide_eq_true_eq, -decide_eq_false_iff_not, hx, htl, hsA, hsB]
         repeat' first | apply And.intro | refine hk _ ?_ | (intro hg; try simp only [decide_eq_true_eq, decide_eq_false_iff_not] at hg) | (refine CallK.intro (dc_spec_l3Two _) ?_; simp +contextual -dsimp (maxSteps := 2000000) [go_sem, -decide_eq_true_eq, -decide_eq_false_iff_not, hx, htl, hsA, hsB]) | omega | exact True.intro | (have h9 := hr (by assumption); omega) | fail
         all_goals clear hk k
         all_goals (show St.Less _ _; exact Less.of rfl (by simp [go_sem, typBad, hxA] <;> grind [ownT, partT]) (by simp [go_sem]))
        ·skip
         refine AW.cond rfl ?_ ?_
         ·intro hc; try simp at hc
          all_goals try (exfalso; omega; done)
          all_goals (
           refine rg [2,3] ?_
           intro k hk; simp -dsimp [go_sem, -decide_eq_true_eq, -decide_eq_false_iff_not, hx, htl, hsA, hsB]
           repeat' first | apply And.intro | refine hk _ ?_ | intro hg | omega | exact True.intro | (have h9 := hr (by assumption); omega) | fail
           all_goals clear hk k
           refine rt ?_
           first | (simp [go_sem, Tryz.results127]; done) | (exfalso; have hie : i = e.length := (by omega); rw [hie, hub] at hu; cases hu))
         ·intro hc; try simp at hc
          all_goals try (exfalso; omega; done)
          all_goals (
           refine AW.skipN (fun _ h => h) ?_
           refine rgN [0,4,5] (fun _ h => h) ?_
           intro k hk; simp -dsimp [go_sem, -decide_eq_true_eq, -decide_eq_false_iff_not, hx, htl, hsA, hsB]
           repeat' first | apply And.intro | refine hk _ ?_ | intro hg | omega | exact True.intro | (have h9 := hr (by assumption); omega) | fail
           all_goals clear hk k
           refine rgK ?_
           intro k hk; simp -dsimp [go_sem, -decide_eq_true_eq, -decide_eq_false_iff_not, hx, htl, hsA, hsB]
           repeat' first | apply And.intro | refine hk _ ?_ | intro hg | omega | exact True.intro | (have h9 := hr (by assumption); omega) | fail
           all_goals clear hk k
           show ∃ _, _
           have hw := wrapi hlt (by omega)
           have hub : typBad e i = false := by simpa using hc
           refine ⟨i + 1, ⟨by omega, typU_go hu hub⟩, by omega, Less.of rfl (by simp [go_sem, hw]) (by simp [go_sem, typesL_succ, hxA, htk] <;> (unfold ownT; first | omega | (split <;> omega)))⟩))))
 ·intro hc; try simp at hc
  all_goals try (exfalso; omega; done)
  all_goals (
   refine AW.exitN (fun _ h => h) ?_
   refine rg [2,3] ?_
   intro k hk; simp -dsimp [go_sem, -decide_eq_true_eq, -decide_eq_false_iff_not]
   repeat' first | apply And.intro | refine hk _ ?_ | intro hg | omega | exact True.intro | (have h9 := hr (by assumption); omega) | fail
   all_goals clear hk k
   refine rt ?_
   first | (simp [go_sem, Tryz.results127]; done) | (exfalso; have hie : i = e.length := (by omega); rw [hie, hub] at hu; cases hu))

/-- spec.l3Types -/
theorem dc_spec_l3Types_k (e : List TNode) (hP : PartsOk e e.length) (hlen : e.length ≤ 16) (huk : typU e e.length = false) : DC Tryz.prog 127 [.isl 4 (e.map TNode.ro)] (.tup [.osl 1 ((typesL e e.length).map I1), .bool true]) [] := by
 refine DC.intro tiOk Tryz.func127 rfl rfl rfl rfl rfl rfl rfl rfl [1001] ?_
 refine rg [0] ?_
 intro k hk; simp -dsimp [go_sem, -decide_eq_true_eq, -decide_eq_false_iff_not]
 repeat' first | apply And.intro | refine hk _ ?_ | intro hg | omega | exact True.intro | (have h9 := hr (by assumption); omega) | fail
 all_goals clear hk k
 refine rg [0,4] ?_
 intro k hk; simp -dsimp [go_sem, -decide_eq_true_eq, -decide_eq_false_iff_not]
 repeat' first | apply And.intro | refine hk _ ?_ | intro hg | omega | exact True.intro | (have h9 := hr (by assumption); omega) | fail
 all_goals clear hk k
 refine AW.seq ?_
 refine rg [0,4,5] ?_
 intro k hk; simp -dsimp [go_sem, -decide_eq_true_eq, -decide_eq_false_iff_not]
 repeat' first | apply And.intro | refine hk _ ?_ | intro hg | omega | exact True.intro | (have h9 := hr (by assumption); omega) | fail
 all_goals clear hk k
 refine AW.block ?_
 refine AW.rename (nd := ?nd_1) 9 60 ?h1_1 ?h2_1 ?h4_1 ?kk_1
 (case h1_1 => exact rfl)
 (case h2_1 => simp [go_sem])
 (case h4_1 => simp [go_sem])
 refine AW.loopI (fun i : Nat => ⟨62, [(0, .isl 4 (e.map TNode.ro)), (4, .sl 60 1 0 i), (5, .int .i64 i)], [(60, some ⟨1, (typesL e i).map I1⟩)]⟩) (fun i => i ≤ e.length ∧ typU e i = false) (fun i => e.length - i) (0) (by simp [typU]) (Less.of rfl (by simp [go_sem]) (by simp [go_sem, typesL])) ?_
 rintro i ⟨hi, hu⟩
 refine AW.rename (nd := ?nd_2) 60 9 ?h1_2 ?h2_2 ?h4_2 ?kk_2
 (case h1_2 => exact rfl)
 (case h2_2 => simp [go_sem])
 (case h4_2 => simp [go_sem])
 refine AW.seq ?_
 refine rg [0,4,5,13] ?_
 intro k hk; simp -dsimp [go_sem, -decide_eq_true_eq, -decide_eq_false_iff_not]
 repeat' first | apply And.intro | refine hk _ ?_ | intro hg | omega | exact True.intro | (have h9 := hr (by assumption); omega) | fail
 all_goals clear hk k
 refine AW.cond rfl ?_ ?_
 ·intro hc; try simp at hc
  all_goals try (exfalso; omega; done)
  all_goals (
   have hlt : i < e.length := by assumption
   obtain ⟨x, hx⟩ := at_some hlt
   have hxA := nA_at hx
   have hpx := hP i hlt
   rw [nodeAt_at hx] at hpx
   have hq := nodeF_parts hpx
   have hl : 2 < x.kind → 0 ≤ x.left ∧ x.left.toNat < i := left_of hpx
   have hr := hq.2.1
   have htl := typesL_len e i
   have htk : List.take i ((typesL e i).map I1) = (typesL e i).map I1 := List.take_of_length_le (by simp [htl])
   have hsA : decide (2 < x.kind) = true → (typesL e i)[x.left.toNat]? = some (ownT (nA e x.left.toNat).kind) := fun h => typesL_at (hl (by simpa using h)).2
   have hsB : isTwoB x.kind = true → (typesL e i)[x.right.toNat]? = some (ownT (nA e x.right.toNat).kind) := fun h => typesL_at (hr h).2.2.2
   refine AW.skipN (fun _ h => h) ?_
   refine AW.seq ?_
   refine AW.block ?_
   refine rg [0,4,5,6] ?_
   intro k hk; simp -dsimp [go_sem, -decide_eq_true_eq, -decide_eq_false_iff_not, hx, htl, hsA, hsB]
   repeat' first | apply And.intro | refine hk _ ?_ | intro hg | omega | exact True.intro | (have h9 := hr (by assumption); omega) | fail
   all_goals clear hk k
   refine rg [0,4,5,6,7] ?_
   intro k hk; simp -dsimp [go_sem, -decide_eq_true_eq, -decide_eq_false_iff_not, hx, htl, hsA, hsB]
   repeat' first | apply And.intro | refine hk _ ?_ | intro hg | omega | exact True.intro | (have h9 := hr (by assumption); omega) | fail
   all_goals clear hk k
   refine rg [0,4,5,6,7,8] ?_
   intro k hk; simp -dsimp [go_sem, -decide_eq_true_eq, -decide_eq_false_iff_not, hx, htl, hsA, hsB]
   repeat' first | apply And.intro | refine hk _ ?_ | intro hg | omega | exact True.intro | (have h9 := hr (by assumption); omega) | fail
   all_goals clear hk k
   refine AW.seq ?_
   refine AW.cut ⟨62, [(0, .isl 4 (e.map TNode.ro)), (4, .sl 9 1 0 i), (5, .int .i64 i), (6, .ptr 6 4 0 0), (7, .int .i64 1), (8, .int .i64 1), (27, .bool (decide (x.kind = 9 ∨ x.kind = 10)))], [(6, some ⟨4, [x.ro]⟩), (9, some ⟨1, (typesL e i).map I1⟩)]⟩ ?_ ?_
   ·skip
    refine rgK ?_
    intro k hk; simp +contextual -dsimp (maxSteps := 2000000) [go_sem, -decide_eq_true_eq, -decide_eq_false_iff_not, hx, htl, hsA, hsB]
    repeat' first | apply And.intro | refine hk _ ?_ | (intro hg; try simp only [decide_eq_true_eq, decide_eq_false_iff_not] at hg) | omega | exact True.intro | (have h9 := hr (by assumption); omega) | fail
    all_goals clear hk k
    all_goals (show St.Less _ _; exact Less.of rfl (by simp [go_sem] <;> first | omega | grind) (by simp [go_sem]))
   ·skip
    refine AW.cond rfl ?_ ?_
    ·intro hc; try simp at hc
     all_goals try (exfalso; omega; done)
     all_goals (
      have hk9 : x.kind = 9 ∨ x.kind = 10 := by simpa using hc
      refine rgN [0,4,5,6,7,8] (fun _ h => h) ?_
      intro k hk; simp -dsimp [go_sem, -decide_eq_true_eq, -decide_eq_false_iff_not, hx, htl, hsA, hsB]
      repeat' first | apply And.intro | refine hk _ ?_ | intro hg | omega | exact True.intro | (have h9 := hr (by assumption); omega) | fail
      all_goals clear hk k
      refine AW.seq ?_
      refine rg [0,4,5,6,7,8,30] ?_
      intro k hk; simp -dsimp [go_sem, -decide_eq_true_eq, -decide_eq_false_iff_not, hx, htl, hsA, hsB]
      repeat' first | apply And.intro | refine hk _ ?_ | intro hg | omega | exact True.intro | (have h9 := hr (by assumption); omega) | fail
      all_goals clear hk k
      refine AW.cond rfl ?_ ?_
      ·intro hc; try simp at hc
       all_goals try (exfalso; omega; done)
       all_goals (
        refine rgN [0,4,5,6,7,8] (fun _ h => h) ?_
        intro k hk; simp -dsimp [go_sem, -decide_eq_true_eq, -decide_eq_false_iff_not, hx, htl, hsA, hsB]
        repeat' first | apply And.intro | refine hk _ ?_ | intro hg | omega | exact True.intro | (have h9 := hr (by assumption); omega) | fail
        all_goals clear hk k
        refine AW.seq ?_
        have hpt : partT x.kind = _ := rfl
        refine AW.cut ⟨62, [(0, .isl 4 (e.map TNode.ro)), (4, .sl 9 1 0 i), (5, .int .i64 i), (8, .int .i64 (ownT x.kind)), (56, .bool (typBad e i))], [(9, some ⟨1, (typesL e i).map I1⟩)]⟩ ?_ ?_
        ·skip
         refine rgK ?_
         intro k hk; simp +contextual -dsimp (maxSteps := 2000000) [go_sem, -decide_eq_true_eq, -decide_eq_false_iff_not, hx, htl, hsA, hsB]
         repeat' first | apply And.intro | refine hk _ ?_ | (intro hg; try simp only [decide_eq_true_eq, decide_eq_false_iff_not] at hg) | (refine CallK.intro (dc_spec_l3Two _) ?_; simp +contextual -dsimp (maxSteps := 2000000) [go_sem, -decide_eq_true_eq, -decide_eq_false_iff_not, hx, htl, hsA, hsB]) | omega | exact True.intro | (have h9 := hr (by assumption); omega) | fail
         all_goals clear hk k
         all_goals (show St.Less _ _; exact Less.of rfl (by simp [go_sem, typBad, hxA] <;> grind [ownT, partT]) (by simp [go_sem]))
        ·skip
         refine AW.cond rfl ?_ ?_
         ·intro hc; try simp at hc
          all_goals try (exfalso; omega; done)
          all_goals (
           refine rg [2,3] ?_
           intro k hk; simp -dsimp [go_sem, -decide_eq_true_eq, -decide_eq_false_iff_not, hx, htl, hsA, hsB]
           repeat' first | apply And.intro | refine hk _ ?_ | intro hg | omega | exact True.intro | (have h9 := hr (by assumption); omega) | fail
           all_goals clear hk k
           refine rt ?_
           first | (exfalso; have h8 := typU_hit hlt (by first | assumption | simpa using hc); rw [huk] at h8; cases h8) | (have hie : i = e.length := (by omega); simp [go_sem, Tryz.results127, hie, typesL_len]))
         ·intro hc; try simp at hc
          all_goals try (exfalso; omega; done)
          all_goals (
           refine AW.skipN (fun _ h => h) ?_
           refine rgN [0,4,5] (fun _ h => h) ?_
           intro k hk; simp -dsimp [go_sem, -decide_eq_true_eq, -decide_eq_false_iff_not, hx, htl, hsA, hsB]
           repeat' first | apply And.intro | refine hk _ ?_ | intro hg | omega | exact True.intro | (have h9 := hr (by assumption); omega) | fail
           all_goals clear hk k
           refine rgK ?_
           intro k hk; simp -dsimp [go_sem, -decide_eq_true_eq, -decide_eq_false_iff_not, hx, htl, hsA, hsB]
           repeat' first | apply And.intro | refine hk _ ?_ | intro hg | omega | exact True.intro | (have h9 := hr (by assumption); omega) | fail
           all_goals clear hk k
           show ∃ _, _
           have hw := wrapi hlt (by omega)
           have hub : typBad e i = false := by simpa using hc
           refine ⟨i + 1, ⟨by omega, typU_go hu hub⟩, by omega, Less.of rfl (by simp [go_sem, hw]) (by simp [go_sem, typesL_succ, hxA, htk] <;> (unfold ownT; first | omega | (split <;> omega)))⟩))
      ·intro hc; try simp at hc
       all_goals try (exfalso; omega; done)
       all_goals (
        refine AW.skipN (fun _ h => h) ?_
        refine AW.seq ?_
        have hpt : partT x.kind = _ := rfl
        refine AW.cut ⟨62, [(0, .isl 4 (e.map TNode.ro)), (4, .sl 9 1 0 i), (5, .int .i64 i), (8, .int .i64 (ownT x.kind)), (56, .bool (typBad e i))], [(9, some ⟨1, (typesL e i).map I1⟩)]⟩ ?_ ?_
        ·skip
         refine rgK ?_
         intro k hk; simp +contextual -dsimp (maxSteps := 2000000) [go_sem, -decide_eq_true_eq, -decide_eq_false_iff_not, hx, htl, hsA, hsB]
         repeat' first | apply And.intro | refine hk _ ?_ | (intro hg; try simp only [decide_eq_true_eq, decide_eq_false_iff_not] at hg) | (refine CallK.intro (dc_spec_l3Two _) ?_; simp +contextual -dsimp (maxSteps := 2000000) [go_sem, -decide_eq_true_eq, -decide_eq_false_iff_not, hx, htl, hsA, hsB]) | omega | exact True.intro | (have h9 := hr (by assumption); omega) | fail
         all_goals clear hk k
         all_goals (show St.Less _ _; exact Less.of rfl (by simp [go_sem, typBad, hxA] <;> grind [ownT, partT]) (by simp [go_sem]))
        ·skip
         refine AW.cond rfl ?_ ?_
         ·intro hc; try simp at hc
          all_goals try (exfalso; omega; done)
          all_goals (
           refine rg [2,3] ?_
           intro k hk; simp -dsimp [go_sem, -decide_eq_true_eq, -decide_eq_false_iff_not, hx, htl, hsA, hsB]
           repeat' first | apply And.intro | refine hk _ ?_ | intro hg | omega | exact True.intro | (have h9 := hr (by assumption); omega) | fail
           all_goals clear hk k
           refine rt ?_
           first | (exfalso; have h8 := typU_hit hlt (by first | assumption | simpa using hc); rw [huk] at h8; cases h8) | (have hie : i = e.length := (by omega); simp [go_sem, Tryz.results127, hie, typesL_len]))
         ·intro hc; try simp at hc
          all_goals try (exfalso; omega; done)
          all_goals (
           refine AW.skipN (fun _ h => h) ?_
           refine rgN [0,4,5] (fun _ h => h) ?_
           intro k hk; simp -dsimp [go_sem, -decide_eq_true_eq, -decide_eq_false_iff_not, hx, htl, hsA, hsB]
           repeat' first | apply And.intro | refine hk _ ?_ | intro hg | omega | exact True.intro | (have h9 := hr (by assumption); omega) | fail
           all_goals clear hk k
           refine rgK ?_
           intro k hk; simp -dsimp [go_sem, -decide_eq_true_eq, -decide_eq_false_iff_not, hx, htl, hsA, hsB]
           repeat' first | apply And.intro | refine hk _ ?_ | intro hg | omega | exact True.intro | (have h9 := hr (by assumption); omega) | fail
           all_goals clear hk k
           show ∃ _, _
           have hw := wrapi hlt (by omega)
           have hub : typBad e i = false := by simpa using hc
           refine ⟨i + 1, ⟨by omega, typU_go hu hub⟩, by omega, Less.of rfl (by simp [go_sem, hw]) (by simp [go_sem, typesL_succ, hxA, htk] <;> (unfold ownT; first | omega | (split <;> omega)))⟩)))
    ·intro hc; try simp at hc
     all_goals try (exfalso; omega; done)
     all_goals (
      refine AW.skipN (fun _ h => h) ?_
      refine AW.seq ?_
      refine rg [0,4,5,6,7,8,30] ?_
      intro k hk; simp -dsimp [go_sem, -decide_eq_true_eq, -decide_eq_false_iff_not, hx, htl, hsA, hsB]
      repeat' first | apply And.intro | refine hk _ ?_ | intro hg | omega | exact True.intro | (have h9 := hr (by assumption); omega) | fail
      all_goals clear hk k
      refine AW.cond rfl ?_ ?_
      ·intro hc; try simp at hc
       all_goals try (exfalso; omega; done)
       all_goals (
        refine rgN [0,4,5,6,7,8] (fun _ h => h) ?_
        intro k hk; simp -dsimp [go_sem, -decide_eq_true_eq, -decide_eq_false_iff_not, hx, htl, hsA, hsB]
        repeat' first | apply And.intro | refine hk _ ?_ | intro hg | omega | exact True.intro | (have h9 := hr (by assumption); omega) | fail
        all_goals clear hk k
        refine AW.seq ?_
        have hpt : partT x.kind = _ := rfl
        refine AW.cut ⟨62, [(0, .isl 4 (e.map TNode.ro)), (4, .sl 9 1 0 i), (5, .int .i64 i), (8, .int .i64 (ownT x.kind)), (56, .bool (typBad e i))], [(9, some ⟨1, (typesL e i).map I1⟩)]⟩ ?_ ?_
        ·skip
         refine rgK ?_
         intro k hk; simp +contextual -dsimp (maxSteps := 2000000) [go_sem, -decide_eq_true_eq, -decide_eq_false_iff_not, hx, htl, hsA, hsB]
         repeat' first | apply And.intro | refine hk _ ?_ | (intro hg; try simp only [decide_eq_true_eq, decide_eq_false_iff_not] at hg) | (refine CallK.intro (dc_spec_l3Two _) ?_; simp +contextual -dsimp (maxSteps := 2000000) [go_sem, -decide_eq_true_eq, -decide_eq_false_iff_not, hx, htl, hsA, hsB]) | omega | exact True.intro | (have h9 := hr (by assumption); omega) | fail
         all_goals clear hk k
         all_goals (show St.Less _ _; exact Less.of rfl (by simp [go_sem, typBad, hxA] <;> grind [ownT, partT]) (by simp [go_sem]))
        ·skip
         refine AW.cond rfl ?_ ?_
         ·intro hc; try simp at hc
          all_goals try (exfalso; omega; done)
          all_goals (
           refine rg [2,3] ?_
           intro k hk; simp -dsimp [go_sem, -decide_eq_true_eq, -decide_eq_false_iff_not, hx, htl, hsA, hsB]
           repeat' first | apply And.intro | refine hk _ ?_ | intro hg | omega | exact True.intro | (have h9 := hr (by assumption); omega) | fail
           all_goals clear hk k
           refine rt ?_
           first | (exfalso; have h8 := typU_hit hlt (by first | assumption | simpa using hc); rw [huk] at h8; cases h8) | (have hie : i = e.length := (by omega); simp [go_sem, Tryz.results127, hie, typesL_len]))
         ·intro hc; try simp at hc
          all_goals try (exfalso; omega; done)
          all_goals (
           refine AW.skipN (fun _ h => h) ?_
           refine rgN [0,4,5] (fun _ h => h) ?_
           intro k hk; simp -dsimp [go_sem, -decide_eq_true_eq, -decide_eq_false_iff_not, hx, htl, hsA, hsB]
           repeat' first | apply And.intro | refine hk _ ?_ | intro hg | omega | exact True.intro | (have h9 := hr (by assumption); omega) | fail
           all_goals clear hk k
           refine rgK ?_
           intro k hk; simp -dsimp [go_sem, -decide_eq_true_eq, -decide_eq_false_iff_not, hx, htl, hsA, hsB]
           repeat' first | apply And.intro | refine hk _ ?_ | intro hg | omega | exact True.intro | (have h9 := hr (by assumption); omega) | fail
           all_goals clear hk k
           show ∃ _, _
           have hw := wrapi hlt (by omega)
           have hub : typBad e i = false := by simpa using hc
           refine ⟨i + 1, ⟨by omega, typU_go hu hub⟩, by omega, Less.of rfl (by simp [go_sem, hw]) (by simp [go_sem, typesL_succ, hxA, htk] <;> (unfold ownT; first | omega | (split <;> omega)))⟩))
      ·intro hc; try simp at hc
       all_goals try (exfalso; omega; done)
       all_goals (
        refine AW.skipN (fun _ h => h) ?_
        refine AW.seq ?_
        have hpt : partT x.kind = _ := rfl
        refine AW.cut ⟨62, [(0, .isl 4 (e.map TNode.ro)), (4, .sl 9 1 0 i), (5, .int .i64 i), (8, .int .i64 (ownT x.kind)), (56, .bool (typBad e i))], [(9, some ⟨1, (typesL e i).map I1⟩)]⟩ ?_ ?_
        ·skip
         refine rgK ?_
         intro k hk; simp +contextual -dsimp (maxSteps := 2000000) [go_sem, -decide_eq_true_eq, -decide_eq_false_iff_not, hx, htl, hsA, hsB]
         repeat' first | apply And.intro | refine hk _ ?_ | (intro hg; try simp only [decide_eq_true_eq, decide_eq_false_iff_not] at hg) | (refine CallK.intro (dc_spec_l3Two _) ?_; simp +contextual -dsimp (maxSteps := 2000000) [go_sem, -decide_eq_true_eq, -decide_eq_false_iff_not, hx, htl, hsA, hsB]) | omega | exact True.intro | (have h9 := hr (by assumption); omega) | fail
         all_goals clear hk k
         all_goals (show St.Less _ _; exact Less.of rfl (by simp [go_sem, typBad, hxA] <;> grind [ownT, partT]) (by simp [go_sem]))
        ·skip
         refine AW.cond rfl ?_ ?_
         ·intro hc; try simp at hc
          all_goals try (exfalso; omega; done)
          all_goals (
           refine rg [2,3] ?_
           intro k hk; simp -dsimp [go_sem, -decide_eq_true_eq, -decide_eq_false_iff_not, hx, htl, hsA, hsB]
           repeat' first | apply And.intro | refine hk _ ?_ | intro hg | omega | exact True.intro | (have h9 := hr (by assumption); omega) | fail
           all_goals clear hk k
           refine rt ?_
           first | (exfalso; have h8 := typU_hit hlt (by first | assumption | simpa using hc); rw [huk] at h8; cases h8) | (have hie : i = e.length := (by omega); simp [go_sem, Tryz.results127, hie, typesL_len]))
         ·intro hc; try simp at hc
          all_goals try (exfalso; omega; done)
          all_goals (
           refine AW.skipN (fun _ h => h) ?_
           refine rgN [0,4,5] (fun _ h => h) ?_
           intro k hk; simp -dsimp [go_sem, -decide_eq_true_eq, -decide_eq_false_iff_not, hx, htl, hsA, hsB]
           repeat' first | apply And.intro | refine hk _ ?_ | intro hg | omega | exact True.intro | (have h9 := hr (by assumption); omega) | fail
           all_goals clear hk k
           refine rgK ?_
           intro k hk; simp -dsimp [go_sem, -decide_eq_true_eq, -decide_eq_false_iff_not, hx, htl, hsA, hsB]
           repeat' first | apply And.intro | refine hk _ ?_ | intro hg | omega | exact True.intro | (have h9 := hr (by assumption); omega) | fail
           all_goals clear hk k
           show ∃ _, _
           have hw := wrapi hlt (by omega)
           have hub : typBad e i = false := by simpa using hc
           refine ⟨i + 1, ⟨by omega, typU_go hu hub⟩, by omega, Less.of rfl (by simp [go_sem, hw]) (by simp [go_sem, typesL_succ, hxA, htk] <;> (unfold ownT; first | omega | (split <;> omega)))⟩))))
 ·intro hc; try simp at hc
  all_goals try (exfalso; omega; done)
  all_goals (
   refine AW.exitN (fun _ h => h) ?_
   refine rg [2,3] ?_
   intro k hk; simp -dsimp [go_sem, -decide_eq_true_eq, -decide_eq_false_iff_not]
   repeat' first | apply And.intro | refine hk _ ?_ | intro hg | omega | exact True.intro | (have h9 := hr (by assumption); omega) | fail
   all_goals clear hk k
   refine rt ?_
   first | (exfalso; have h8 := typU_hit hlt (by first | assumption | simpa using hc); rw [huk] at h8; cases h8) | (have hie : i = e.length := (by omega); simp [go_sem, Tryz.results127, hie, typesL_len]))

end Go.AM
namespace Go.AM
open Go.Proofs

/-- spec.l3Type -/
theorem dc_spec_l3Type_f (e : List TNode) (he : e.length ≤ 9223372036854775807) (h0 : exprF e ≠ 0) : DC Tryz.prog 111 [.isl 4 (e.map TNode.ro)] (.tup [.int .i64 (typV e), .int .i64 (typC e)]) [] := by
 obtain ⟨hC, hV⟩ := typC_f h0
 refine DC.intro tiOk Tryz.func111 rfl rfl rfl rfl rfl rfl rfl rfl [] ?_
 refine rg [0] ?_
 intro k hk; simp -dsimp [go_sem, -decide_eq_true_eq, -decide_eq_false_iff_not, h0, hC, hV]
 repeat' first | apply And.intro | refine hk _ ?_ | intro hg | omega | exact True.intro
 all_goals clear hk k
 refine AW.seq ?_
 refine rg [0,4] ?_
 intro k hk; simp -dsimp (maxSteps := 2000000) [go_sem, -decide_eq_true_eq, -decide_eq_false_iff_not, h0, hC, hV]
 repeat' first | apply And.intro | refine hk _ ?_ | intro hg | (refine CallK.intro (dc_spec_l3Fault e he) ?_; simp -dsimp (maxSteps := 2000000) [go_sem, -decide_eq_true_eq, -decide_eq_false_iff_not, h0, hC, hV]) | omega | exact True.intro
 all_goals clear hk k
 refine rg [0,4,10] ?_
 intro k hk; simp -dsimp [go_sem, -decide_eq_true_eq, -decide_eq_false_iff_not, h0, hC, hV]
 repeat' first | apply And.intro | refine hk _ ?_ | intro hg | omega | exact True.intro
 all_goals clear hk k
 refine AW.cond rfl ?_ ?_
 ·intro hc; try simp at hc
  all_goals try (exfalso; contradiction; done)
  all_goals (
   refine rg [2,3] ?_
   intro k hk; simp -dsimp [go_sem, -decide_eq_true_eq, -decide_eq_false_iff_not, h0, hC, hV]
   repeat' first | apply And.intro | refine hk _ ?_ | intro hg | omega | exact True.intro
   all_goals clear hk k
   refine rt ?_
   simp [go_sem, Tryz.results111, hC, hV])
 ·intro hc; try simp at hc
  all_goals try (exfalso; contradiction; done)
  all_goals (
   refine AW.skipN (fun _ h => h) ?_
   refine rg [5,6] ?_
   intro k hk; simp -dsimp (maxSteps := 2000000) [go_sem, -decide_eq_true_eq, -decide_eq_false_iff_not, h0, hC, hV]
   repeat' first | apply And.intro | refine hk _ ?_ | intro hg | (refine CallK.intro (skip) ?_; simp -dsimp (maxSteps := 2000000) [go_sem, -decide_eq_true_eq, -decide_eq_false_iff_not, h0, hC, hV]) | omega | exact True.intro
   all_goals clear hk k
   refine AW.seq ?_
   refine rg [5,18] ?_
   intro k hk; simp -dsimp [go_sem, -decide_eq_true_eq, -decide_eq_false_iff_not, h0, hC, hV]
   repeat' first | apply And.intro | refine hk _ ?_ | intro hg | omega | exact True.intro
   all_goals clear hk k
   refine AW.cond rfl ?_ ?_
   ·intro hc; try simp at hc
    all_goals try (exfalso; contradiction; done)
    all_goals (
     refine rg [2,3] ?_
     intro k hk; simp -dsimp [go_sem, -decide_eq_true_eq, -decide_eq_false_iff_not, h0, hC, hV]
     repeat' first | apply And.intro | refine hk _ ?_ | intro hg | omega | exact True.intro
     all_goals clear hk k
     refine rt ?_
     simp [go_sem, Tryz.results111, hC, hV])
   ·intro hc; try simp at hc
    all_goals try (exfalso; contradiction; done)
    all_goals (
     refine AW.skipN (fun _ h => h) ?_
     have htl := typesL_len e e.length
     have hlast := typesL_at (e := e) (show e.length - 1 < e.length by omega)
     have hwl : IntKind.wrap .i64 ((e.length : Int) - 1) = (e.length : Int) - 1 := wrap64 (by omega) (by omega)
     have hwt : ((e.length : Int) - 1).toNat = e.length - 1 := by omega
     refine rg [2,3] ?_
     intro k hk; simp -dsimp (maxSteps := 2000000) [go_sem, -decide_eq_true_eq, -decide_eq_false_iff_not, h0, hC, hV, htl, hlast, hwl, hwt]
     repeat' first | apply And.intro | refine hk _ ?_ | intro hg | omega | exact True.intro
     all_goals clear hk k
     refine rt ?_
     simp [go_sem, Tryz.results111, hC, hV]))

/-- spec.l3Type -/
theorem dc_spec_l3Type_b (e : List TNode) (he : e.length ≤ 9223372036854775807) (h0 : exprF e = 0) (hub : typU e e.length = true) : DC Tryz.prog 111 [.isl 4 (e.map TNode.ro)] (.tup [.int .i64 (typV e), .int .i64 (typC e)]) [] := by
 obtain ⟨hR, hP⟩ := exprF_zero h0
 have hlen := inR_iff.1 hR
 obtain ⟨hC, hV⟩ := typC_b h0 hub
 refine DC.intro tiOk Tryz.func111 rfl rfl rfl rfl rfl rfl rfl rfl [] ?_
 refine rg [0] ?_
 intro k hk; simp -dsimp [go_sem, -decide_eq_true_eq, -decide_eq_false_iff_not, h0, hC, hV]
 repeat' first | apply And.intro | refine hk _ ?_ | intro hg | omega | exact True.intro
 all_goals clear hk k
 refine AW.seq ?_
 refine rg [0,4] ?_
 intro k hk; simp -dsimp (maxSteps := 2000000) [go_sem, -decide_eq_true_eq, -decide_eq_false_iff_not, h0, hC, hV]
 repeat' first | apply And.intro | refine hk _ ?_ | intro hg | (refine CallK.intro (dc_spec_l3Fault e he) ?_; simp -dsimp (maxSteps := 2000000) [go_sem, -decide_eq_true_eq, -decide_eq_false_iff_not, h0, hC, hV]) | omega | exact True.intro
 all_goals clear hk k
 refine rg [0,4,10] ?_
 intro k hk; simp -dsimp [go_sem, -decide_eq_true_eq, -decide_eq_false_iff_not, h0, hC, hV]
 repeat' first | apply And.intro | refine hk _ ?_ | intro hg | omega | exact True.intro
 all_goals clear hk k
 refine AW.cond rfl ?_ ?_
 ·intro hc; try simp at hc
  all_goals try (exfalso; contradiction; done)
  all_goals (
   refine rg [2,3] ?_
   intro k hk; simp -dsimp [go_sem, -decide_eq_true_eq, -decide_eq_false_iff_not, h0, hC, hV]
   repeat' first | apply And.intro | refine hk _ ?_ | intro hg | omega | exact True.intro
   all_goals clear hk k
   refine rt ?_
   simp [go_sem, Tryz.results111, hC, hV])
 ·intro hc; try simp at hc
  all_goals try (exfalso; contradiction; done)
  all_goals (
   refine AW.skipN (fun _ h => h) ?_
   refine rg [5,6] ?_
   intro k hk; simp -dsimp (maxSteps := 2000000) [go_sem, -decide_eq_true_eq, -decide_eq_false_iff_not, h0, hC, hV]
   repeat' first | apply And.intro | refine hk _ ?_ | intro hg | (refine CallK.intro (dc_spec_l3Types_b e hP (by omega) hub) ?_; simp -dsimp (maxSteps := 2000000) [go_sem, -decide_eq_true_eq, -decide_eq_false_iff_not, h0, hC, hV]) | omega | exact True.intro
   all_goals clear hk k
   refine AW.seq ?_
   refine rg [5,18] ?_
   intro k hk; simp -dsimp [go_sem, -decide_eq_true_eq, -decide_eq_false_iff_not, h0, hC, hV]
   repeat' first | apply And.intro | refine hk _ ?_ | intro hg | omega | exact True.intro
   all_goals clear hk k
   refine AW.cond rfl ?_ ?_
   ·intro hc; try simp at hc
    all_goals try (exfalso; contradiction; done)
    all_goals (
     refine rg [2,3] ?_
     intro k hk; simp -dsimp [go_sem, -decide_eq_true_eq, -decide_eq_false_iff_not, h0, hC, hV]
     repeat' first | apply And.intro | refine hk _ ?_ | intro hg | omega | exact True.intro
     all_goals clear hk k
     refine rt ?_
     simp [go_sem, Tryz.results111, hC, hV])
   ·intro hc; try simp at hc
    all_goals try (exfalso; contradiction; done)
    all_goals (
     refine AW.skipN (fun _ h => h) ?_
     have htl := typesL_len e e.length
     have hlast := typesL_at (e := e) (show e.length - 1 < e.length by omega)
     have hwl : IntKind.wrap .i64 ((e.length : Int) - 1) = (e.length : Int) - 1 := wrap64 (by omega) (by omega)
     have hwt : ((e.length : Int) - 1).toNat = e.length - 1 := by omega
     refine rg [2,3] ?_
     intro k hk; simp -dsimp (maxSteps := 2000000) [go_sem, -decide_eq_true_eq, -decide_eq_false_iff_not, h0, hC, hV, htl, hlast, hwl, hwt]
     repeat' first | apply And.intro | refine hk _ ?_ | intro hg | omega | exact True.intro
     all_goals clear hk k
     refine rt ?_
     simp [go_sem, Tryz.results111, hC, hV]))

/-- spec.l3Type -/
theorem dc_spec_l3Type_k (e : List TNode) (he : e.length ≤ 9223372036854775807) (h0 : exprF e = 0) (huk : typU e e.length = false) : DC Tryz.prog 111 [.isl 4 (e.map TNode.ro)] (.tup [.int .i64 (typV e), .int .i64 (typC e)]) [] := by
 obtain ⟨hR, hP⟩ := exprF_zero h0
 have hlen := inR_iff.1 hR
 obtain ⟨hC, hV⟩ := typC_k h0 huk
 refine DC.intro tiOk Tryz.func111 rfl rfl rfl rfl rfl rfl rfl rfl [] ?_
 refine rg [0] ?_
 intro k hk; simp -dsimp [go_sem, -decide_eq_true_eq, -decide_eq_false_iff_not, h0, hC, hV]
 repeat' first | apply And.intro | refine hk _ ?_ | intro hg | omega | exact True.intro
 all_goals clear hk k
 refine AW.seq ?_
 refine rg [0,4] ?_
 intro k hk; simp -dsimp (maxSteps := 2000000) [go_sem, -decide_eq_true_eq, -decide_eq_false_iff_not, h0, hC, hV]
 repeat' first | apply And.intro | refine hk _ ?_ | intro hg | (refine CallK.intro (dc_spec_l3Fault e he) ?_; simp -dsimp (maxSteps := 2000000) [go_sem, -decide_eq_true_eq, -decide_eq_false_iff_not, h0, hC, hV]) | omega | exact True.intro
 all_goals clear hk k
 refine rg [0,4,10] ?_
 intro k hk; simp -dsimp [go_sem, -decide_eq_true_eq, -decide_eq_false_iff_not, h0, hC, hV]
 repeat' first | apply And.intro | refine hk _ ?_ | intro hg | omega | exact True.intro
 all_goals clear hk k
 refine AW.cond rfl ?_ ?_
 ·intro hc; try simp at hc
  all_goals try (exfalso; contradiction; done)
  all_goals (
   refine rg [2,3] ?_
   intro k hk; simp -dsimp [go_sem, -decide_eq_true_eq, -decide_eq_false_iff_not, h0, hC, hV]
   repeat' first | apply And.intro | refine hk _ ?_ | intro hg | omega | exact True.intro
   all_goals clear hk k
   refine rt ?_
   simp [go_sem, Tryz.results111, hC, hV])
 ·intro hc; try simp at hc
  all_goals try (exfalso; contradiction; done)
  all_goals (
   refine AW.skipN (fun _ h => h) ?_
   refine rg [5,6] ?_
   intro k hk; simp -dsimp (maxSteps := 2000000) [go_sem, -decide_eq_true_eq, -decide_eq_false_iff_not, h0, hC, hV]
   repeat' first | apply And.intro | refine hk _ ?_ | intro hg | (refine CallK.intro (dc_spec_l3Types_k e hP (by omega) huk) ?_; simp -dsimp (maxSteps := 2000000) [go_sem, -decide_eq_true_eq, -decide_eq_false_iff_not, h0, hC, hV]) | omega | exact True.intro
   all_goals clear hk k
   refine AW.seq ?_
   refine rg [5,18] ?_
   intro k hk; simp -dsimp [go_sem, -decide_eq_true_eq, -decide_eq_false_iff_not, h0, hC, hV]
   repeat' first | apply And.intro | refine hk _ ?_ | intro hg | omega | exact True.intro
   all_goals clear hk k
   refine AW.cond rfl ?_ ?_
   ·intro hc; try simp at hc
    all_goals try (exfalso; contradiction; done)
    all_goals (
     refine rg [2,3] ?_
     intro k hk; simp -dsimp [go_sem, -decide_eq_true_eq, -decide_eq_false_iff_not, h0, hC, hV]
     repeat' first | apply And.intro | refine hk _ ?_ | intro hg | omega | exact True.intro
     all_goals clear hk k
     refine rt ?_
     simp [go_sem, Tryz.results111, hC, hV])
   ·intro hc; try simp at hc
    all_goals try (exfalso; contradiction; done)
    all_goals (
     refine AW.skipN (fun _ h => h) ?_
     have htl := typesL_len e e.length
     have hlast := typesL_at (e := e) (show e.length - 1 < e.length by omega)
     have hwl : IntKind.wrap .i64 ((e.length : Int) - 1) = (e.length : Int) - 1 := wrap64 (by omega) (by omega)
     have hwt : ((e.length : Int) - 1).toNat = e.length - 1 := by omega
     refine rg [2,3] ?_
     intro k hk; simp -dsimp (maxSteps := 2000000) [go_sem, -decide_eq_true_eq, -decide_eq_false_iff_not, h0, hC, hV, htl, hlast, hwl, hwt]
     repeat' first | apply And.intro | refine hk _ ?_ | intro hg | omega | exact True.intro
     all_goals clear hk k
     refine rt ?_
     simp [go_sem, Tryz.results111, hC, hV]))
theorem dc_spec_l3Type (e : List TNode) (he : e.length ≤ 9223372036854775807) : DC Tryz.prog 111 [.isl 4 (e.map TNode.ro)] (.tup [.int .i64 (typV e), .int .i64 (typC e)]) [] := by
  by_cases h0 : exprF e = 0
  · by_cases hu : typU e e.length = true
    · exact dc_spec_l3Type_b e he h0 hu
    · exact dc_spec_l3Type_k e he h0 (by simpa using hu)
  · exact dc_spec_l3Type_f e he h0

/-- spec.l4Typed -/
theorem dc_spec_l4Typed (e : List TNode) (w : Int) (he : e.length ≤ 9223372036854775807) : DC Tryz.prog 89 [.isl 4 (e.map TNode.ro), .int .i64 w] (.int .i64 (typF e w)) [] := by
 refine DC.intro tiOk Tryz.func89 rfl rfl rfl rfl rfl rfl rfl rfl [] ?_
 refine rgA [0,1] ?_
 refine AW.seq ?_
 refine rgA [0,1,9] ?_
 refine AW.cond rfl ?_ ?_
 ·intro hc; try simp at hc
  all_goals (
   refine rgA [4] ?_
   refine rt ?_
   simp [go_sem, Tryz.results89, typF, firstC_cons, firstC_nil] <;> grind)
 ·intro hc; try simp at hc
  all_goals (
   refine AW.skipN (fun _ h => h) ?_
   refine rg [1,5,6] ?_
   intro k hk; simp -dsimp (maxSteps := 2000000) [go_sem, -decide_eq_true_eq, -decide_eq_false_iff_not]
   repeat' first | apply And.intro | refine hk _ ?_ | intro hg | (refine CallK.intro (dc_spec_l3Type e he) ?_; simp -dsimp (maxSteps := 2000000) [go_sem, -decide_eq_true_eq, -decide_eq_false_iff_not]) | omega | exact True.intro
   all_goals clear hk k
   refine AW.seq ?_
   refine rgA [1,5,6,16] ?_
   refine AW.cond rfl ?_ ?_
   ·intro hc; try simp at hc
    all_goals (
     refine rgA [4] ?_
     refine rt ?_
     simp [go_sem, Tryz.results89, typF, firstC_cons, firstC_nil] <;> grind)
   ·intro hc; try simp at hc
    all_goals (
     refine AW.skipN (fun _ h => h) ?_
     refine AW.seq ?_
     refine rgA [20] ?_
     refine AW.cond rfl ?_ ?_
     ·intro hc; try simp at hc
      all_goals (
       refine rgA [4] ?_
       refine rt ?_
       simp [go_sem, Tryz.results89, typF, firstC_cons, firstC_nil] <;> grind)
     ·intro hc; try simp at hc
      all_goals (
       refine AW.skipN (fun _ h => h) ?_
       refine rgA [4] ?_
       refine rt ?_
       simp [go_sem, Tryz.results89, typF, firstC_cons, firstC_nil] <;> grind)))

/-- spec.l1Name -/
theorem dc_spec_l1Name (s : List UInt8) (hs : s.length ≤ 9223372036854775807) : DC Tryz.prog 106 [.str s] (.int .i64 (nameF s)) [] := by
 refine DC.intro tiOk Tryz.func106 rfl rfl rfl rfl rfl rfl rfl rfl [] ?_
 refine rgA [0] ?_
 refine AW.seq ?_
 refine rgA [0,3] ?_
 refine AW.block ?_
 refine AW.loopI (fun i : Nat => ⟨25, [(0, .str s), (3, .int .i64 i)], []⟩) (fun i => i ≤ s.length ∧ (s.take i).all isLow = true) (fun i => s.length - i) (0) (by simp) (Less.of rfl (by simp [go_sem]) (by simp [go_sem])) ?_
 rintro i ⟨hi, hall⟩
 refine AW.seq ?_
 refine rgA [0,3,7] ?_
 refine AW.cond rfl ?_ ?_
 ·intro hc; try simp at hc
  all_goals (
   have hlt : i < s.length := by assumption
   obtain ⟨x, hx⟩ := at_some hlt
   refine AW.skipN (fun _ h => h) ?_
   refine AW.seq ?_
   refine AW.block ?_
   refine rg [0,3,19] ?_
   intro k hk; simp +contextual -dsimp (maxSteps := 2000000) [go_sem, -decide_eq_true_eq, -decide_eq_false_iff_not, hx]
   repeat' first | apply And.intro | refine hk _ ?_ | (intro hg; try simp only [decide_eq_true_eq, decide_eq_false_iff_not] at hg) | omega | exact True.intro
   all_goals clear hk k
   all_goals (
    refine AW.cond rfl ?_ ?_
    ·intro hc; try simp at hc
     all_goals (
      refine rg [2] ?_
      intro k hk; simp -dsimp [go_sem, -decide_eq_true_eq, -decide_eq_false_iff_not, hx]
      repeat' first | apply And.intro | refine hk _ ?_ | intro hg | omega | exact True.intro
      all_goals clear hk k
      refine rt ?_
      first | (have hr := all_not (p := isLow) hx (by simp [isLow]; omega); simp [go_sem, Tryz.results106, nameF, hr]; done) | (have hr := all_end (p := isLow) (show s.length ≤ i by omega) hall; simp [go_sem, Tryz.results106, nameF, hr] at * <;> grind))
    ·intro hc; try simp at hc
     all_goals (
      refine AW.skipN (fun _ h => h) ?_
      refine rgK ?_
      intro k hk; simp -dsimp [go_sem, -decide_eq_true_eq, -decide_eq_false_iff_not, hx]
      repeat' first | apply And.intro | refine hk _ ?_ | intro hg | omega | exact True.intro
      all_goals clear hk k
      show ∃ _, _
      have hw := wrapi hlt (by omega)
      refine ⟨i + 1, ⟨by omega, by rw [all_take hx hall]; simp [isLow]; omega⟩, by omega, Less.of rfl (by simp [go_sem, hw]) (by simp [go_sem])⟩)))
 ·intro hc; try simp at hc
  all_goals (
   refine AW.exitN (fun _ h => h) ?_
   refine AW.seq ?_
   refine rgA [0,21] ?_
   refine AW.cond rfl ?_ ?_
   ·intro hc; try simp at hc
    all_goals (
     refine rgA [2] ?_
     refine rt ?_
     first | (have hr := all_not (p := isLow) hx (by simp [isLow]; omega); simp [go_sem, Tryz.results106, nameF, hr]; done) | (have hr := all_end (p := isLow) (show s.length ≤ i by omega) hall; simp [go_sem, Tryz.results106, nameF, hr] at * <;> grind))
   ·intro hc; try simp at hc
    all_goals (
     refine AW.skipN (fun _ h => h) ?_
     refine AW.seq ?_
     refine rgA [24] ?_
     refine AW.cond rfl ?_ ?_
     ·intro hc; try simp at hc
      all_goals (
       refine rgA [2] ?_
       refine rt ?_
       first | (have hr := all_not (p := isLow) hx (by simp [isLow]; omega); simp [go_sem, Tryz.results106, nameF, hr]; done) | (have hr := all_end (p := isLow) (show s.length ≤ i by omega) hall; simp [go_sem, Tryz.results106, nameF, hr] at * <;> grind))
     ·intro hc; try simp at hc
      all_goals (
       refine AW.skipN (fun _ h => h) ?_
       refine rgA [2] ?_
       refine rt ?_
       first | (have hr := all_not (p := isLow) hx (by simp [isLow]; omega); simp [go_sem, Tryz.results106, nameF, hr]; done) | (have hr := all_end (p := isLow) (show s.length ≤ i by omega) hall; simp [go_sem, Tryz.results106, nameF, hr] at * <;> grind))))

end Go.AM
namespace Go.AM
open Go.Proofs

/-- spec.l4One -/
theorem dc_spec_l4One (p : List TStep) (hp : 1 ≤ p.length ∧ p.length ≤ 24) (hg : ∀ e ∈ p, e.gok) (i : Nat) (hi : i < p.length) (h1 : ∀ k, k < i → oneF p k = 0) : DC Tryz.prog 87 [.isl 6 (p.map TStep.ro), .int .i64 (i : Nat)] (.int .i64 (oneF p i)) [] := by
 obtain ⟨x, hx⟩ := at_some hi
 obtain ⟨g0, g1, g2⟩ := hg x (List.mem_of_getElem? hx)
 have hl := ones_ok i (by omega) h1
 have hL : ((pars p).take i).length = i := take_len (by omega)
 have hxo := oneF_at hx
 have hwi : IntKind.wrap .i64 ((i : Int) - 1) = (i : Int) - 1 := wrap64 (by omega) (by omega)
 have hdi : (decide ((i : Int) = 0)) = decide (i = 0) := by by_cases h : i = 0 <;> simp [h]
 refine DC.intro tiOk Tryz.func87 rfl rfl rfl rfl rfl rfl rfl rfl [] ?_
 refine rg [0,1] ?_
 intro k hk; simp -dsimp [go_sem, -decide_eq_true_eq, -decide_eq_false_iff_not, hx, hwi]
 repeat' first | apply And.intro | refine hk _ ?_ | intro hg | omega | exact True.intro
 all_goals clear hk k
 refine rg [0,1,5] ?_
 intro k hk; simp -dsimp [go_sem, -decide_eq_true_eq, -decide_eq_false_iff_not, hx, hwi]
 repeat' first | apply And.intro | refine hk _ ?_ | intro hg | omega | exact True.intro
 all_goals clear hk k
 refine AW.seq ?_
 refine AW.cut ⟨82, [(0, .isl 6 (p.map TStep.ro)), (1, .int .i64 (i : Nat)), (5, .ip x.ro), (20, .bool (decide (inR x.kind 1 8 = false ∨ alien x = true)))], []⟩ ?_ ?_
 ·skip
  refine rgK ?_
  intro k hk; simp +contextual -dsimp (maxSteps := 2000000) [go_sem, -decide_eq_true_eq, -decide_eq_false_iff_not, hx, hwi]
  repeat' first | apply And.intro | refine hk _ ?_ | (intro hg; try simp only [decide_eq_true_eq, decide_eq_false_iff_not] at hg) | ((first | refine CallK.intro (dc_spec_l1In _ _ _) ?_ | refine CallK.intro (dc_spec_l4Bare x ⟨g0, g1, g2⟩) ?_); simp +contextual -dsimp (maxSteps := 2000000) [go_sem, -decide_eq_true_eq, -decide_eq_false_iff_not, hx, hwi]) | omega | exact True.intro
  all_goals clear hk k
  all_goals (show St.Less _ _; exact Less.of rfl (by simp [go_sem] <;> first | omega | grind) (by simp [go_sem]))
 ·skip
  refine AW.cond rfl ?_ ?_
  ·intro hc; try simp at hc
   all_goals try (exfalso; omega; done)
   all_goals (
    refine rg [4] ?_
    intro k hk; simp -dsimp [go_sem, -decide_eq_true_eq, -decide_eq_false_iff_not, hx, hwi]
    repeat' first | apply And.intro | refine hk _ ?_ | intro hg | omega | exact True.intro
    all_goals clear hk k
    refine rt ?_
    rw [hxo]
    first | (have hs : stepF ((pars p).take i) x = 1 := (by have := @inR_iff x.kind 1 8; unfold stepF; grind); rw [hs]; simp [go_sem, Tryz.results87]; done) | (have hs : stepF ((pars p).take i) x = 3 := (by have := @inR_iff x.kind 1 8; unfold stepF; grind); rw [hs]; simp [go_sem, Tryz.results87]; done) | (have hs : stepF ((pars p).take i) x = 2 := (by have := @inR_iff x.kind 1 8; unfold stepF; grind); rw [hs]; simp [go_sem, Tryz.results87]; done) | (have hs : stepF ((pars p).take i) x = nameF x.name := (by have := @inR_iff x.kind 1 8; unfold stepF; grind); rw [hs]; simp [go_sem, Tryz.results87]; done) | (have hs : stepF ((pars p).take i) x = exprF x.expr := (by have := @inR_iff x.kind 1 8; unfold stepF; grind); rw [hs]; simp [go_sem, Tryz.results87]; done) | (have hs : stepF ((pars p).take i) x = 0 := (by have := @inR_iff x.kind 1 8; unfold stepF; unfold alien at *; unfold lowA highA at *; grind); rw [hs]; simp [go_sem, Tryz.results87]))
  ·intro hc; try simp at hc
   all_goals try (exfalso; omega; done)
   all_goals (
    refine AW.skipN (fun _ h => h) ?_
    refine AW.seq ?_
    refine AW.cut ⟨82, [(0, .isl 6 (p.map TStep.ro)), (1, .int .i64 (i : Nat)), (5, .ip x.ro), (43, .bool (decide (parF ((pars p).take i) x.par = 3)))], []⟩ ?_ ?_
    ·skip
     refine rgK ?_
     intro k hk; simp +contextual -dsimp (maxSteps := 2000000) [go_sem, -decide_eq_true_eq, -decide_eq_false_iff_not, hx, hwi]
     repeat' first | apply And.intro | refine hk _ ?_ | (intro hg; try simp only [decide_eq_true_eq, decide_eq_false_iff_not] at hg) | (refine CallK.intro (dc_spec_l1In _ _ _) ?_; simp +contextual -dsimp (maxSteps := 2000000) [go_sem, -decide_eq_true_eq, -decide_eq_false_iff_not, hx, hwi]) | omega | exact True.intro
     all_goals clear hk k
     all_goals (show St.Less _ _; exact Less.of rfl (by simp [go_sem, parF, hL, inR] at * <;> grind) (by simp [go_sem]))
    ·skip
     refine AW.cond rfl ?_ ?_
     ·intro hc; try simp at hc
      all_goals try (exfalso; omega; done)
      all_goals (
       refine rg [4] ?_
       intro k hk; simp -dsimp [go_sem, -decide_eq_true_eq, -decide_eq_false_iff_not, hx, hwi]
       repeat' first | apply And.intro | refine hk _ ?_ | intro hg | omega | exact True.intro
       all_goals clear hk k
       refine rt ?_
       rw [hxo]
       first | (have hs : stepF ((pars p).take i) x = 1 := (by have := @inR_iff x.kind 1 8; unfold stepF; grind); rw [hs]; simp [go_sem, Tryz.results87]; done) | (have hs : stepF ((pars p).take i) x = 3 := (by have := @inR_iff x.kind 1 8; unfold stepF; grind); rw [hs]; simp [go_sem, Tryz.results87]; done) | (have hs : stepF ((pars p).take i) x = 2 := (by have := @inR_iff x.kind 1 8; unfold stepF; grind); rw [hs]; simp [go_sem, Tryz.results87]; done) | (have hs : stepF ((pars p).take i) x = nameF x.name := (by have := @inR_iff x.kind 1 8; unfold stepF; grind); rw [hs]; simp [go_sem, Tryz.results87]; done) | (have hs : stepF ((pars p).take i) x = exprF x.expr := (by have := @inR_iff x.kind 1 8; unfold stepF; grind); rw [hs]; simp [go_sem, Tryz.results87]; done) | (have hs : stepF ((pars p).take i) x = 0 := (by have := @inR_iff x.kind 1 8; unfold stepF; unfold alien at *; unfold lowA highA at *; grind); rw [hs]; simp [go_sem, Tryz.results87]))
     ·intro hc; try simp at hc
      all_goals try (exfalso; omega; done)
      all_goals (
       refine AW.skipN (fun _ h => h) ?_
       refine AW.seq ?_
       refine AW.cut ⟨82, [(0, .isl 6 (p.map TStep.ro)), (1, .int .i64 (i : Nat)), (5, .ip x.ro), (51, .bool (decide (parF ((pars p).take i) x.par = 1)))], []⟩ ?_ ?_
       ·skip
        refine rgK ?_
        intro k hk; simp +contextual -dsimp (maxSteps := 2000000) [go_sem, -decide_eq_true_eq, -decide_eq_false_iff_not, hx, hwi]
        repeat' first | apply And.intro | refine hk _ ?_ | (intro hg; try simp only [decide_eq_true_eq, decide_eq_false_iff_not] at hg) | (refine CallK.intro (dc_spec_l4Line p hp.2 i x hx (by omega) hl) ?_; simp +contextual -dsimp (maxSteps := 2000000) [go_sem, -decide_eq_true_eq, -decide_eq_false_iff_not, hx, hwi]) | omega | exact True.intro
        all_goals clear hk k
        all_goals (show St.Less _ _; exact Less.of rfl (by simp [go_sem, parF, hL] at * <;> grind) (by simp [go_sem]))
       ·skip
        refine AW.cond rfl ?_ ?_
        ·intro hc; try simp at hc
         all_goals try (exfalso; omega; done)
         all_goals (
          refine rg [4] ?_
          intro k hk; simp -dsimp [go_sem, -decide_eq_true_eq, -decide_eq_false_iff_not, hx, hwi]
          repeat' first | apply And.intro | refine hk _ ?_ | intro hg | omega | exact True.intro
          all_goals clear hk k
          refine rt ?_
          rw [hxo]
          first | (have hs : stepF ((pars p).take i) x = 1 := (by have := @inR_iff x.kind 1 8; unfold stepF; grind); rw [hs]; simp [go_sem, Tryz.results87]; done) | (have hs : stepF ((pars p).take i) x = 3 := (by have := @inR_iff x.kind 1 8; unfold stepF; grind); rw [hs]; simp [go_sem, Tryz.results87]; done) | (have hs : stepF ((pars p).take i) x = 2 := (by have := @inR_iff x.kind 1 8; unfold stepF; grind); rw [hs]; simp [go_sem, Tryz.results87]; done) | (have hs : stepF ((pars p).take i) x = nameF x.name := (by have := @inR_iff x.kind 1 8; unfold stepF; grind); rw [hs]; simp [go_sem, Tryz.results87]; done) | (have hs : stepF ((pars p).take i) x = exprF x.expr := (by have := @inR_iff x.kind 1 8; unfold stepF; grind); rw [hs]; simp [go_sem, Tryz.results87]; done) | (have hs : stepF ((pars p).take i) x = 0 := (by have := @inR_iff x.kind 1 8; unfold stepF; unfold alien at *; unfold lowA highA at *; grind); rw [hs]; simp [go_sem, Tryz.results87]))
        ·intro hc; try simp at hc
         all_goals try (exfalso; omega; done)
         all_goals (
          refine AW.skipN (fun _ h => h) ?_
          refine AW.seq ?_
          have hz : parF ((pars p).take i) x.par = 0 := by have : parF ((pars p).take i) x.par = 0 ∨ parF ((pars p).take i) x.par = 1 ∨ parF ((pars p).take i) x.par = 3 := (by unfold parF; split; exact Or.inr (Or.inr rfl); split; exact Or.inr (Or.inl rfl); exact Or.inl rfl); grind
          have hpo := parF_ok hz
          have htn := take_next hx
          have hl2 : ParOk ((pars p).take (i + 1)) := by rw [htn]; exact hl.snoc hpo.1 hpo.2.1
          refine rg [5,55] ?_
          intro k hk; simp -dsimp (maxSteps := 2000000) [go_sem, -decide_eq_true_eq, -decide_eq_false_iff_not, hx, hwi, htn]
          repeat' first | apply And.intro | refine hk _ ?_ | intro hg | (refine CallK.intro (dc_spec_l4Deep p hp.2 (i + 1) (by omega) hl2 (i : Int) (by omega)) ?_; simp -dsimp (maxSteps := 2000000) [go_sem, -decide_eq_true_eq, -decide_eq_false_iff_not, hx, hwi, htn]) | omega | exact True.intro
          all_goals clear hk k
          refine AW.cond rfl ?_ ?_
          ·intro hc; try simp at hc
           all_goals try (exfalso; omega; done)
           all_goals (
            refine rg [4] ?_
            intro k hk; simp -dsimp [go_sem, -decide_eq_true_eq, -decide_eq_false_iff_not, hx, hwi]
            repeat' first | apply And.intro | refine hk _ ?_ | intro hg | omega | exact True.intro
            all_goals clear hk k
            refine rt ?_
            rw [hxo]
            first | (have hs : stepF ((pars p).take i) x = 1 := (by have := @inR_iff x.kind 1 8; unfold stepF; grind); rw [hs]; simp [go_sem, Tryz.results87]; done) | (have hs : stepF ((pars p).take i) x = 3 := (by have := @inR_iff x.kind 1 8; unfold stepF; grind); rw [hs]; simp [go_sem, Tryz.results87]; done) | (have hs : stepF ((pars p).take i) x = 2 := (by have := @inR_iff x.kind 1 8; unfold stepF; grind); rw [hs]; simp [go_sem, Tryz.results87]; done) | (have hs : stepF ((pars p).take i) x = nameF x.name := (by have := @inR_iff x.kind 1 8; unfold stepF; grind); rw [hs]; simp [go_sem, Tryz.results87]; done) | (have hs : stepF ((pars p).take i) x = exprF x.expr := (by have := @inR_iff x.kind 1 8; unfold stepF; grind); rw [hs]; simp [go_sem, Tryz.results87]; done) | (have hs : stepF ((pars p).take i) x = 0 := (by have := @inR_iff x.kind 1 8; unfold stepF; unfold alien at *; unfold lowA highA at *; grind); rw [hs]; simp [go_sem, Tryz.results87]))
          ·intro hc; try simp at hc
           all_goals try (exfalso; omega; done)
           all_goals (
            refine AW.skipN (fun _ h => h) ?_
            refine AW.seq ?_
            refine rg [5,60] ?_
            intro k hk; simp -dsimp [go_sem, -decide_eq_true_eq, -decide_eq_false_iff_not, hx, hwi]
            repeat' first | apply And.intro | refine hk _ ?_ | intro hg | omega | exact True.intro
            all_goals clear hk k
            refine AW.cond rfl ?_ ?_
            ·intro hc; try simp at hc
             all_goals try (exfalso; omega; done)
             all_goals (
              refine rg [5,6] ?_
              intro k hk; simp -dsimp (maxSteps := 2000000) [go_sem, -decide_eq_true_eq, -decide_eq_false_iff_not, hx, hwi]
              repeat' first | apply And.intro | refine hk _ ?_ | intro hg | (refine CallK.intro (dc_spec_l1Name x.name g0) ?_; simp -dsimp (maxSteps := 2000000) [go_sem, -decide_eq_true_eq, -decide_eq_false_iff_not, hx, hwi]) | omega | exact True.intro
              all_goals clear hk k
              refine rg [5,6,67] ?_
              intro k hk; simp -dsimp [go_sem, -decide_eq_true_eq, -decide_eq_false_iff_not, hx, hwi]
              repeat' first | apply And.intro | refine hk _ ?_ | intro hg | omega | exact True.intro
              all_goals clear hk k
              refine AW.cond rfl ?_ ?_
              ·intro hc; try simp at hc
               all_goals try (exfalso; omega; done)
               all_goals (
                refine rg [4] ?_
                intro k hk; simp -dsimp [go_sem, -decide_eq_true_eq, -decide_eq_false_iff_not, hx, hwi]
                repeat' first | apply And.intro | refine hk _ ?_ | intro hg | omega | exact True.intro
                all_goals clear hk k
                refine rt ?_
                rw [hxo]
                first | (have hs : stepF ((pars p).take i) x = 1 := (by have := @inR_iff x.kind 1 8; unfold stepF; grind); rw [hs]; simp [go_sem, Tryz.results87]; done) | (have hs : stepF ((pars p).take i) x = 3 := (by have := @inR_iff x.kind 1 8; unfold stepF; grind); rw [hs]; simp [go_sem, Tryz.results87]; done) | (have hs : stepF ((pars p).take i) x = 2 := (by have := @inR_iff x.kind 1 8; unfold stepF; grind); rw [hs]; simp [go_sem, Tryz.results87]; done) | (have hs : stepF ((pars p).take i) x = nameF x.name := (by have := @inR_iff x.kind 1 8; unfold stepF; grind); rw [hs]; simp [go_sem, Tryz.results87]; done) | (have hs : stepF ((pars p).take i) x = exprF x.expr := (by have := @inR_iff x.kind 1 8; unfold stepF; grind); rw [hs]; simp [go_sem, Tryz.results87]; done) | (have hs : stepF ((pars p).take i) x = 0 := (by have := @inR_iff x.kind 1 8; unfold stepF; unfold alien at *; unfold lowA highA at *; grind); rw [hs]; simp [go_sem, Tryz.results87]))
              ·intro hc; try simp at hc
               all_goals try (exfalso; omega; done)
               all_goals (
                refine AW.skipN (fun _ h => h) ?_
                refine AW.seq ?_
                refine rg [5,71] ?_
                intro k hk; simp -dsimp (maxSteps := 2000000) [go_sem, -decide_eq_true_eq, -decide_eq_false_iff_not, hx, hwi]
                repeat' first | apply And.intro | refine hk _ ?_ | intro hg | (refine CallK.intro (dc_spec_l4Arg _) ?_; simp -dsimp (maxSteps := 2000000) [go_sem, -decide_eq_true_eq, -decide_eq_false_iff_not, hx, hwi]) | omega | exact True.intro
                all_goals clear hk k
                refine AW.cond rfl ?_ ?_
                ·intro hc; try simp at hc
                 all_goals try (exfalso; omega; done)
                 all_goals (
                  refine rg [4] ?_
                  intro k hk; simp -dsimp [go_sem, -decide_eq_true_eq, -decide_eq_false_iff_not, hx, hwi]
                  repeat' first | apply And.intro | refine hk _ ?_ | intro hg | omega | exact True.intro
                  all_goals clear hk k
                  refine rt ?_
                  rw [hxo]
                  first | (have hs : stepF ((pars p).take i) x = 1 := (by have := @inR_iff x.kind 1 8; unfold stepF; grind); rw [hs]; simp [go_sem, Tryz.results87]; done) | (have hs : stepF ((pars p).take i) x = 3 := (by have := @inR_iff x.kind 1 8; unfold stepF; grind); rw [hs]; simp [go_sem, Tryz.results87]; done) | (have hs : stepF ((pars p).take i) x = 2 := (by have := @inR_iff x.kind 1 8; unfold stepF; grind); rw [hs]; simp [go_sem, Tryz.results87]; done) | (have hs : stepF ((pars p).take i) x = nameF x.name := (by have := @inR_iff x.kind 1 8; unfold stepF; grind); rw [hs]; simp [go_sem, Tryz.results87]; done) | (have hs : stepF ((pars p).take i) x = exprF x.expr := (by have := @inR_iff x.kind 1 8; unfold stepF; grind); rw [hs]; simp [go_sem, Tryz.results87]; done) | (have hs : stepF ((pars p).take i) x = 0 := (by have := @inR_iff x.kind 1 8; unfold stepF; unfold alien at *; unfold lowA highA at *; grind); rw [hs]; simp [go_sem, Tryz.results87]))
                ·intro hc; try simp at hc
                 all_goals try (exfalso; omega; done)
                 all_goals (
                  refine AW.skipN (fun _ h => h) ?_
                  refine AW.seq ?_
                  refine rg [5,76] ?_
                  intro k hk; simp -dsimp [go_sem, -decide_eq_true_eq, -decide_eq_false_iff_not, hx, hwi]
                  repeat' first | apply And.intro | refine hk _ ?_ | intro hg | omega | exact True.intro
                  all_goals clear hk k
                  refine AW.cond rfl ?_ ?_
                  ·intro hc; try simp at hc
                   all_goals try (exfalso; omega; done)
                   all_goals (
                    refine rg [4] ?_
                    intro k hk; simp -dsimp (maxSteps := 2000000) [go_sem, -decide_eq_true_eq, -decide_eq_false_iff_not, hx, hwi]
                    repeat' first | apply And.intro | refine hk _ ?_ | intro hg | (refine CallK.intro (dc_spec_l3Fault x.expr g2) ?_; simp -dsimp (maxSteps := 2000000) [go_sem, -decide_eq_true_eq, -decide_eq_false_iff_not, hx, hwi]) | omega | exact True.intro
                    all_goals clear hk k
                    refine rt ?_
                    rw [hxo]
                    first | (have hs : stepF ((pars p).take i) x = 1 := (by have := @inR_iff x.kind 1 8; unfold stepF; grind); rw [hs]; simp [go_sem, Tryz.results87]; done) | (have hs : stepF ((pars p).take i) x = 3 := (by have := @inR_iff x.kind 1 8; unfold stepF; grind); rw [hs]; simp [go_sem, Tryz.results87]; done) | (have hs : stepF ((pars p).take i) x = 2 := (by have := @inR_iff x.kind 1 8; unfold stepF; grind); rw [hs]; simp [go_sem, Tryz.results87]; done) | (have hs : stepF ((pars p).take i) x = nameF x.name := (by have := @inR_iff x.kind 1 8; unfold stepF; grind); rw [hs]; simp [go_sem, Tryz.results87]; done) | (have hs : stepF ((pars p).take i) x = exprF x.expr := (by have := @inR_iff x.kind 1 8; unfold stepF; grind); rw [hs]; simp [go_sem, Tryz.results87]; done) | (have hs : stepF ((pars p).take i) x = 0 := (by have := @inR_iff x.kind 1 8; unfold stepF; unfold alien at *; unfold lowA highA at *; grind); rw [hs]; simp [go_sem, Tryz.results87]))
                  ·intro hc; try simp at hc
                   all_goals try (exfalso; omega; done)
                   all_goals (
                    refine AW.skipN (fun _ h => h) ?_
                    refine rg [4] ?_
                    intro k hk; simp -dsimp [go_sem, -decide_eq_true_eq, -decide_eq_false_iff_not, hx, hwi]
                    repeat' first | apply And.intro | refine hk _ ?_ | intro hg | omega | exact True.intro
                    all_goals clear hk k
                    refine rt ?_
                    rw [hxo]
                    first | (have hs : stepF ((pars p).take i) x = 1 := (by have := @inR_iff x.kind 1 8; unfold stepF; grind); rw [hs]; simp [go_sem, Tryz.results87]; done) | (have hs : stepF ((pars p).take i) x = 3 := (by have := @inR_iff x.kind 1 8; unfold stepF; grind); rw [hs]; simp [go_sem, Tryz.results87]; done) | (have hs : stepF ((pars p).take i) x = 2 := (by have := @inR_iff x.kind 1 8; unfold stepF; grind); rw [hs]; simp [go_sem, Tryz.results87]; done) | (have hs : stepF ((pars p).take i) x = nameF x.name := (by have := @inR_iff x.kind 1 8; unfold stepF; grind); rw [hs]; simp [go_sem, Tryz.results87]; done) | (have hs : stepF ((pars p).take i) x = exprF x.expr := (by have := @inR_iff x.kind 1 8; unfold stepF; grind); rw [hs]; simp [go_sem, Tryz.results87]; done) | (have hs : stepF ((pars p).take i) x = 0 := (by have := @inR_iff x.kind 1 8; unfold stepF; unfold alien at *; unfold lowA highA at *; grind); rw [hs]; simp [go_sem, Tryz.results87])))))
            ·intro hc; try simp at hc
             all_goals try (exfalso; omega; done)
             all_goals (
              refine AW.skipN (fun _ h => h) ?_
              refine AW.seq ?_
              refine rg [5,71] ?_
              intro k hk; simp -dsimp (maxSteps := 2000000) [go_sem, -decide_eq_true_eq, -decide_eq_false_iff_not, hx, hwi]
              repeat' first | apply And.intro | refine hk _ ?_ | intro hg | (refine CallK.intro (dc_spec_l4Arg _) ?_; simp -dsimp (maxSteps := 2000000) [go_sem, -decide_eq_true_eq, -decide_eq_false_iff_not, hx, hwi]) | omega | exact True.intro
              all_goals clear hk k
              refine AW.cond rfl ?_ ?_
              ·intro hc; try simp at hc
               all_goals try (exfalso; omega; done)
               all_goals (
                refine rg [4] ?_
                intro k hk; simp -dsimp [go_sem, -decide_eq_true_eq, -decide_eq_false_iff_not, hx, hwi]
                repeat' first | apply And.intro | refine hk _ ?_ | intro hg | omega | exact True.intro
                all_goals clear hk k
                refine rt ?_
                rw [hxo]
                first | (have hs : stepF ((pars p).take i) x = 1 := (by have := @inR_iff x.kind 1 8; unfold stepF; grind); rw [hs]; simp [go_sem, Tryz.results87]; done) | (have hs : stepF ((pars p).take i) x = 3 := (by have := @inR_iff x.kind 1 8; unfold stepF; grind); rw [hs]; simp [go_sem, Tryz.results87]; done) | (have hs : stepF ((pars p).take i) x = 2 := (by have := @inR_iff x.kind 1 8; unfold stepF; grind); rw [hs]; simp [go_sem, Tryz.results87]; done) | (have hs : stepF ((pars p).take i) x = nameF x.name := (by have := @inR_iff x.kind 1 8; unfold stepF; grind); rw [hs]; simp [go_sem, Tryz.results87]; done) | (have hs : stepF ((pars p).take i) x = exprF x.expr := (by have := @inR_iff x.kind 1 8; unfold stepF; grind); rw [hs]; simp [go_sem, Tryz.results87]; done) | (have hs : stepF ((pars p).take i) x = 0 := (by have := @inR_iff x.kind 1 8; unfold stepF; unfold alien at *; unfold lowA highA at *; grind); rw [hs]; simp [go_sem, Tryz.results87]))
              ·intro hc; try simp at hc
               all_goals try (exfalso; omega; done)
               all_goals (
                refine AW.skipN (fun _ h => h) ?_
                refine AW.seq ?_
                refine rg [5,76] ?_
                intro k hk; simp -dsimp [go_sem, -decide_eq_true_eq, -decide_eq_false_iff_not, hx, hwi]
                repeat' first | apply And.intro | refine hk _ ?_ | intro hg | omega | exact True.intro
                all_goals clear hk k
                refine AW.cond rfl ?_ ?_
                ·intro hc; try simp at hc
                 all_goals try (exfalso; omega; done)
                 all_goals (
                  refine rg [4] ?_
                  intro k hk; simp -dsimp (maxSteps := 2000000) [go_sem, -decide_eq_true_eq, -decide_eq_false_iff_not, hx, hwi]
                  repeat' first | apply And.intro | refine hk _ ?_ | intro hg | (refine CallK.intro (dc_spec_l3Fault x.expr g2) ?_; simp -dsimp (maxSteps := 2000000) [go_sem, -decide_eq_true_eq, -decide_eq_false_iff_not, hx, hwi]) | omega | exact True.intro
                  all_goals clear hk k
                  refine rt ?_
                  rw [hxo]
                  first | (have hs : stepF ((pars p).take i) x = 1 := (by have := @inR_iff x.kind 1 8; unfold stepF; grind); rw [hs]; simp [go_sem, Tryz.results87]; done) | (have hs : stepF ((pars p).take i) x = 3 := (by have := @inR_iff x.kind 1 8; unfold stepF; grind); rw [hs]; simp [go_sem, Tryz.results87]; done) | (have hs : stepF ((pars p).take i) x = 2 := (by have := @inR_iff x.kind 1 8; unfold stepF; grind); rw [hs]; simp [go_sem, Tryz.results87]; done) | (have hs : stepF ((pars p).take i) x = nameF x.name := (by have := @inR_iff x.kind 1 8; unfold stepF; grind); rw [hs]; simp [go_sem, Tryz.results87]; done) | (have hs : stepF ((pars p).take i) x = exprF x.expr := (by have := @inR_iff x.kind 1 8; unfold stepF; grind); rw [hs]; simp [go_sem, Tryz.results87]; done) | (have hs : stepF ((pars p).take i) x = 0 := (by have := @inR_iff x.kind 1 8; unfold stepF; unfold alien at *; unfold lowA highA at *; grind); rw [hs]; simp [go_sem, Tryz.results87]))
                ·intro hc; try simp at hc
                 all_goals try (exfalso; omega; done)
                 all_goals (
                  refine AW.skipN (fun _ h => h) ?_
                  refine rg [4] ?_
                  intro k hk; simp -dsimp [go_sem, -decide_eq_true_eq, -decide_eq_false_iff_not, hx, hwi]
                  repeat' first | apply And.intro | refine hk _ ?_ | intro hg | omega | exact True.intro
                  all_goals clear hk k
                  refine rt ?_
                  rw [hxo]
                  first | (have hs : stepF ((pars p).take i) x = 1 := (by have := @inR_iff x.kind 1 8; unfold stepF; grind); rw [hs]; simp [go_sem, Tryz.results87]; done) | (have hs : stepF ((pars p).take i) x = 3 := (by have := @inR_iff x.kind 1 8; unfold stepF; grind); rw [hs]; simp [go_sem, Tryz.results87]; done) | (have hs : stepF ((pars p).take i) x = 2 := (by have := @inR_iff x.kind 1 8; unfold stepF; grind); rw [hs]; simp [go_sem, Tryz.results87]; done) | (have hs : stepF ((pars p).take i) x = nameF x.name := (by have := @inR_iff x.kind 1 8; unfold stepF; grind); rw [hs]; simp [go_sem, Tryz.results87]; done) | (have hs : stepF ((pars p).take i) x = exprF x.expr := (by have := @inR_iff x.kind 1 8; unfold stepF; grind); rw [hs]; simp [go_sem, Tryz.results87]; done) | (have hs : stepF ((pars p).take i) x = 0 := (by have := @inR_iff x.kind 1 8; unfold stepF; unfold alien at *; unfold lowA highA at *; grind); rw [hs]; simp [go_sem, Tryz.results87]))))))))

end Go.AM
namespace Go.AM
open Go.Proofs

/-- spec.l4Shape -/
theorem dc_spec_l4Shape (p : List TStep) (ho : StepsOk p) (hg : ∀ e ∈ p, e.gok) : DC Tryz.prog 88 [.isl 6 (p.map TStep.ro)] (.int .i64 (sc (shapeF p) p.length 0)) [] := by
 have hlen := ho.len
 refine DC.intro tiOk Tryz.func88 rfl rfl rfl rfl rfl rfl rfl rfl [] ?_
 refine rgA [0] ?_
 refine AW.seq ?_
 refine rgA [0,3] ?_
 refine AW.block ?_
 refine AW.loopI (fun i : Nat => ⟨49, [(0, .isl 6 (p.map TStep.ro)), (3, .int .i64 i)], []⟩) (fun i => i ≤ p.length ∧ ∀ k, k < i → shapeF p k = 0) (fun i => p.length - i) (0) (by simp) (Less.of rfl (by simp [go_sem]) (by simp [go_sem])) ?_
 rintro i ⟨hi, hall⟩
 refine AW.seq ?_
 refine rgA [0,3,8] ?_
 refine AW.cond rfl ?_ ?_
 ·intro hc; try simp at hc
  all_goals (
   have hlt : i < p.length := by assumption
   obtain ⟨x, hx⟩ := at_some hlt
   have hxS := nS_at hx
   obtain ⟨g0, g1, g2⟩ := hg x (List.mem_of_getElem? hx)
   have hkm := kids_len p (i : Int)
   refine AW.skipN (fun _ h => h) ?_
   refine AW.seq ?_
   refine AW.block ?_
   refine AW.seq ?_
   refine rg [0,3,21] ?_
   intro k hk; simp -dsimp (maxSteps := 2000000) [go_sem, -decide_eq_true_eq, -decide_eq_false_iff_not, hx]
   repeat' first | (refine Chk.keys ?_; simp only [go_sem, List.map_cons, List.map_nil, List.flatMap_cons, List.flatMap_nil, List.flatMap_append, List.append_nil, List.nil_append, List.cons_append]; decide +kernel) | apply And.intro | refine hk _ ?_ | intro hg | ((first | refine CallK.intro (dc_spec_l4Kids p (i : Int) (by omega) (by rw [ho.par0]; omega)) ?_ | refine CallK.intro (dc_spec_l4Many x.kind (kids p (i : Int)).length (by omega)) ?_); simp -dsimp (maxSteps := 2000000) [go_sem, -decide_eq_true_eq, -decide_eq_false_iff_not, hx]) | omega | exact True.intro
   all_goals clear hk k
   refine AW.cond rfl ?_ ?_
   ·intro hc; try simp at hc
    all_goals (
     refine rg [2] ?_
     intro k hk; simp -dsimp [go_sem, -decide_eq_true_eq, -decide_eq_false_iff_not, hx]
     repeat' first | apply And.intro | refine hk _ ?_ | intro hg | omega | exact True.intro
     all_goals clear hk k
     refine rt ?_
     first | (rw [sc_none (fun k hk => hall k (by omega))]; simp [go_sem, Tryz.results88]; done) | (have hs : shapeF p i = 1 := (by simp [shapeF, hxS] at * <;> grind); rw [shape_sc hlt hall (by rw [hs]; decide), hs]; simp [go_sem, Tryz.results88]; done) | (have hs : shapeF p i = exprF x.cond := (by simp [shapeF, hxS] at * <;> grind); rw [shape_sc hlt hall (by rw [hs]; first | assumption | simpa using hc), hs]; simp [go_sem, Tryz.results88]))
   ·intro hc; try simp at hc
    all_goals (
     refine AW.skipN (fun _ h => h) ?_
     refine AW.seq ?_
     refine rg [0,3,32] ?_
     intro k hk; simp -dsimp (maxSteps := 2000000) [go_sem, -decide_eq_true_eq, -decide_eq_false_iff_not, hx]
     repeat' first | (refine Chk.keys ?_; simp only [go_sem, List.map_cons, List.map_nil, List.flatMap_cons, List.flatMap_nil, List.flatMap_append, List.append_nil, List.nil_append, List.cons_append]; decide +kernel) | apply And.intro | refine hk _ ?_ | intro hg | (refine CallK.intro (dc_spec_l4Needs p ho i hlt) ?_; simp -dsimp (maxSteps := 2000000) [go_sem, -decide_eq_true_eq, -decide_eq_false_iff_not, hx]) | omega | exact True.intro
     all_goals clear hk k
     refine AW.cond rfl ?_ ?_
     ·intro hc; try simp at hc
      all_goals (
       refine rg [2] ?_
       intro k hk; simp -dsimp [go_sem, -decide_eq_true_eq, -decide_eq_false_iff_not, hx]
       repeat' first | apply And.intro | refine hk _ ?_ | intro hg | omega | exact True.intro
       all_goals clear hk k
       refine rt ?_
       first | (rw [sc_none (fun k hk => hall k (by omega))]; simp [go_sem, Tryz.results88]; done) | (have hs : shapeF p i = 1 := (by simp [shapeF, hxS] at * <;> grind); rw [shape_sc hlt hall (by rw [hs]; decide), hs]; simp [go_sem, Tryz.results88]; done) | (have hs : shapeF p i = exprF x.cond := (by simp [shapeF, hxS] at * <;> grind); rw [shape_sc hlt hall (by rw [hs]; first | assumption | simpa using hc), hs]; simp [go_sem, Tryz.results88]))
     ·intro hc; try simp at hc
      all_goals (
       refine AW.skipN (fun _ h => h) ?_
       refine rg [0,3,39] ?_
       intro k hk; simp -dsimp (maxSteps := 2000000) [go_sem, -decide_eq_true_eq, -decide_eq_false_iff_not, hx]
       repeat' first | apply And.intro | refine hk _ ?_ | intro hg | omega | exact True.intro
       all_goals clear hk k
       refine AW.cond rfl ?_ ?_
       ·intro hc; try simp at hc
        all_goals (
         refine rg [0,3,4] ?_
         intro k hk; simp -dsimp (maxSteps := 2000000) [go_sem, -decide_eq_true_eq, -decide_eq_false_iff_not, hx]
         repeat' first | apply And.intro | refine hk _ ?_ | intro hg | (refine CallK.intro (dc_spec_l3Fault x.cond g1) ?_; simp -dsimp (maxSteps := 2000000) [go_sem, -decide_eq_true_eq, -decide_eq_false_iff_not, hx]) | omega | exact True.intro
         all_goals clear hk k
         refine rg [0,3,4,47] ?_
         intro k hk; simp -dsimp [go_sem, -decide_eq_true_eq, -decide_eq_false_iff_not, hx]
         repeat' first | apply And.intro | refine hk _ ?_ | intro hg | omega | exact True.intro
         all_goals clear hk k
         refine AW.cond rfl ?_ ?_
         ·intro hc; try simp at hc
          all_goals (
           refine rg [2] ?_
           intro k hk; simp -dsimp [go_sem, -decide_eq_true_eq, -decide_eq_false_iff_not, hx]
           repeat' first | apply And.intro | refine hk _ ?_ | intro hg | omega | exact True.intro
           all_goals clear hk k
           refine rt ?_
           first | (rw [sc_none (fun k hk => hall k (by omega))]; simp [go_sem, Tryz.results88]; done) | (have hs : shapeF p i = 1 := (by simp [shapeF, hxS] at * <;> grind); rw [shape_sc hlt hall (by rw [hs]; decide), hs]; simp [go_sem, Tryz.results88]; done) | (have hs : shapeF p i = exprF x.cond := (by simp [shapeF, hxS] at * <;> grind); rw [shape_sc hlt hall (by rw [hs]; first | assumption | simpa using hc), hs]; simp [go_sem, Tryz.results88]))
         ·intro hc; try simp at hc
          all_goals (
           refine AW.skipN (fun _ h => h) ?_
           refine rgK ?_
           intro k hk; simp -dsimp [go_sem, -decide_eq_true_eq, -decide_eq_false_iff_not, hx]
           repeat' first | apply And.intro | refine hk _ ?_ | intro hg | omega | exact True.intro
           all_goals clear hk k
           show ∃ _, _
           have hw := wrapi hlt (by omega)
           refine ⟨i + 1, ⟨by omega, upto hall (by simp [shapeF, hxS] at * <;> grind)⟩, by omega, Less.of rfl (by simp [go_sem, hw]) (by simp [go_sem])⟩))
       ·intro hc; try simp at hc
        all_goals (
         refine AW.skipN (fun _ h => h) ?_
         refine rgK ?_
         intro k hk; simp -dsimp [go_sem, -decide_eq_true_eq, -decide_eq_false_iff_not, hx]
         repeat' first | apply And.intro | refine hk _ ?_ | intro hg | omega | exact True.intro
         all_goals clear hk k
         show ∃ _, _
         have hw := wrapi hlt (by omega)
         refine ⟨i + 1, ⟨by omega, upto hall (by simp [shapeF, hxS] at * <;> grind)⟩, by omega, Less.of rfl (by simp [go_sem, hw]) (by simp [go_sem])⟩))))
 ·intro hc; try simp at hc
  all_goals (
   refine AW.exitN (fun _ h => h) ?_
   refine rgA [2] ?_
   refine rt ?_
   first | (rw [sc_none (fun k hk => hall k (by omega))]; simp [go_sem, Tryz.results88]; done) | (have hs : shapeF p i = 1 := (by simp [shapeF, hxS] at * <;> grind); rw [shape_sc hlt hall (by rw [hs]; decide), hs]; simp [go_sem, Tryz.results88]; done) | (have hs : shapeF p i = exprF x.cond := (by simp [shapeF, hxS] at * <;> grind); rw [shape_sc hlt hall (by rw [hs]; first | assumption | simpa using hc), hs]; simp [go_sem, Tryz.results88]))

end Go.AM
namespace Go.AM
open Go.Proofs

/-- spec.l4Fault -/
theorem dc_spec_l4Fault (p : List TStep) (hp : p.length ≤ 9223372036854775807) (hg : ∀ e ∈ p, e.gok) : DC Tryz.prog 71 [.isl 6 (p.map TStep.ro)] (.int .i64 (procF p)) [] := by
 refine DC.intro tiOk Tryz.func71 rfl rfl rfl rfl rfl rfl rfl rfl [] ?_
 refine rgA [0] ?_
 refine AW.seq ?_
 refine AW.cut ⟨58, [(0, .isl 6 (p.map TStep.ro)), (16, .bool (decide (p.length < 1 ∨ 24 < p.length)))], []⟩ ?_ ?_
 ·skip
  refine rgK ?_
  intro k hk; simp +contextual -dsimp (maxSteps := 2000000) [go_sem, -decide_eq_true_eq, -decide_eq_false_iff_not]
  repeat' first | apply And.intro | refine hk _ ?_ | (intro hg; try simp only [decide_eq_true_eq, decide_eq_false_iff_not] at hg) | omega | exact True.intro
  all_goals clear hk k
  all_goals (show St.Less _ _; exact Less.of rfl (by simp [go_sem, -Nat.lt_one_iff, -List.length_eq_zero_iff] <;> first | omega | grind) (by simp [go_sem]))
 ·skip
  refine AW.cond rfl ?_ ?_
  ·intro hc; try simp at hc
   all_goals (
    refine rgA [2] ?_
    refine rt ?_
    first | (rw [procF_len' (by simpa using hc)]; simp [go_sem, Tryz.results71]; done) | (rw [procF_ok hR h1 h2 h3]; simp [go_sem, Tryz.results71]; done) | (have hty : tyF p i = typF x.cond 2 := (by rw [hxt]; grind); rw [procF_ty hR h1 h2 hlt hal3 (by rw [hty]; first | assumption | simpa using hc), hty]; simp [go_sem, Tryz.results71]; done) | (have hty : tyF p i = typF x.expr 1 := (by rw [hxt]; grind); rw [procF_ty hR h1 h2 hlt hal3 (by rw [hty]; first | assumption | simpa using hc), hty]; simp [go_sem, Tryz.results71]; done) | (rw [procF_shape' hR h1 (by first | assumption | simpa using hc)]; simp [go_sem, Tryz.results71]; done) | (rw [procF_one hR hlt hall (by first | assumption | simpa using hc)]; simp [go_sem, Tryz.results71]))
  ·intro hc; try simp at hc
   all_goals (
    refine AW.skipN (fun _ h => h) ?_
    refine AW.seq ?_
    have hlen : 1 ≤ p.length ∧ p.length ≤ 24 := by obtain ⟨h8, h9⟩ := hc; have : p.length ≠ 0 := (fun h => h8 (List.length_eq_zero_iff.1 h)); omega
    have hR : inR p.length 1 24 = true := inR_iff.2 (by omega)
    refine rgA [0,3] ?_
    refine AW.block ?_
    refine AW.loopI (fun i : Nat => ⟨58, [(0, .isl 6 (p.map TStep.ro)), (3, .int .i64 i)], []⟩) (fun i => i ≤ p.length ∧ ∀ k, k < i → oneF p k = 0) (fun i => p.length - i) (0) (by simp) (Less.of rfl (by simp [go_sem]) (by simp [go_sem])) ?_
    rintro i ⟨hi, hall⟩
    refine AW.seq ?_
    refine rgA [0,3,20] ?_
    refine AW.cond rfl ?_ ?_
    ·intro hc; try simp at hc
     all_goals (
      have hlt : i < p.length := by assumption
      refine AW.skipN (fun _ h => h) ?_
      refine AW.seq ?_
      refine AW.block ?_
      refine rg [0,3,4] ?_
      intro k hk; simp -dsimp (maxSteps := 2000000) [go_sem, -decide_eq_true_eq, -decide_eq_false_iff_not]
      repeat' first | apply And.intro | refine hk _ ?_ | intro hg | (refine CallK.intro (dc_spec_l4One p (by omega) hg i hlt hall) ?_; simp -dsimp (maxSteps := 2000000) [go_sem, -decide_eq_true_eq, -decide_eq_false_iff_not]) | omega | exact True.intro
      all_goals clear hk k
      refine rgA [0,3,4,27] ?_
      refine AW.cond rfl ?_ ?_
      ·intro hc; try simp at hc
       all_goals (
        refine rgA [2] ?_
        refine rt ?_
        first | (rw [procF_len' (by simpa using hc)]; simp [go_sem, Tryz.results71]; done) | (rw [procF_ok hR h1 h2 h3]; simp [go_sem, Tryz.results71]; done) | (have hty : tyF p i = typF x.cond 2 := (by rw [hxt]; grind); rw [procF_ty hR h1 h2 hlt hal3 (by rw [hty]; first | assumption | simpa using hc), hty]; simp [go_sem, Tryz.results71]; done) | (have hty : tyF p i = typF x.expr 1 := (by rw [hxt]; grind); rw [procF_ty hR h1 h2 hlt hal3 (by rw [hty]; first | assumption | simpa using hc), hty]; simp [go_sem, Tryz.results71]; done) | (rw [procF_shape' hR h1 (by first | assumption | simpa using hc)]; simp [go_sem, Tryz.results71]; done) | (rw [procF_one hR hlt hall (by first | assumption | simpa using hc)]; simp [go_sem, Tryz.results71]))
      ·intro hc; try simp at hc
       all_goals (
        refine AW.skipN (fun _ h => h) ?_
        refine rgKA ?_
        show ∃ _, _
        have hw := wrapi hlt (by omega)
        refine ⟨i + 1, ⟨by omega, upto hall (by first | assumption | simpa using hc)⟩, by omega, Less.of rfl (by simp [go_sem, hw]) (by simp [go_sem])⟩))
    ·intro hc; try simp at hc
     all_goals (
      refine AW.exitN (fun _ h => h) ?_
      refine AW.seq ?_
      have h1 : ∀ k, k < p.length → oneF p k = 0 := fun k hk => hall k (by omega)
      have ho : StepsOk p := ⟨by omega, h1⟩
      refine rg [0,5] ?_
      intro k hk; simp -dsimp (maxSteps := 2000000) [go_sem, -decide_eq_true_eq, -decide_eq_false_iff_not]
      repeat' first | apply And.intro | refine hk _ ?_ | intro hg | (refine CallK.intro (dc_spec_l4Shape p ho hg) ?_; simp -dsimp (maxSteps := 2000000) [go_sem, -decide_eq_true_eq, -decide_eq_false_iff_not]) | omega | exact True.intro
      all_goals clear hk k
      refine rgA [0,5,32] ?_
      refine AW.cond rfl ?_ ?_
      ·intro hc; try simp at hc
       all_goals (
        refine rgA [2] ?_
        refine rt ?_
        first | (rw [procF_len' (by simpa using hc)]; simp [go_sem, Tryz.results71]; done) | (rw [procF_ok hR h1 h2 h3]; simp [go_sem, Tryz.results71]; done) | (have hty : tyF p i = typF x.cond 2 := (by rw [hxt]; grind); rw [procF_ty hR h1 h2 hlt hal3 (by rw [hty]; first | assumption | simpa using hc), hty]; simp [go_sem, Tryz.results71]; done) | (have hty : tyF p i = typF x.expr 1 := (by rw [hxt]; grind); rw [procF_ty hR h1 h2 hlt hal3 (by rw [hty]; first | assumption | simpa using hc), hty]; simp [go_sem, Tryz.results71]; done) | (rw [procF_shape' hR h1 (by first | assumption | simpa using hc)]; simp [go_sem, Tryz.results71]; done) | (rw [procF_one hR hlt hall (by first | assumption | simpa using hc)]; simp [go_sem, Tryz.results71]))
      ·intro hc; try simp at hc
       all_goals (
        refine AW.skipN (fun _ h => h) ?_
        refine AW.seq ?_
        have h2 : ∀ k, k < p.length → shapeF p k = 0 := sc_all (by first | assumption | simpa using hc)
        refine rgA [0,6] ?_
        refine AW.block ?_
        refine AW.loopI (fun i : Nat => ⟨58, [(0, .isl 6 (p.map TStep.ro)), (6, .int .i64 i)], []⟩) (fun i => i ≤ p.length ∧ ∀ k, k < i → tyF p k = 0) (fun i => p.length - i) (0) (by simp) (Less.of rfl (by simp [go_sem]) (by simp [go_sem])) ?_
        rintro i ⟨hi, hal3⟩
        refine AW.seq ?_
        refine rgA [0,6,37] ?_
        refine AW.cond rfl ?_ ?_
        ·intro hc; try simp at hc
         all_goals (
          have hlt : i < p.length := by assumption
          obtain ⟨x, hx⟩ := at_some hlt
          have hxt := tyF_at hx
          obtain ⟨g0, g1, g2⟩ := hg x (List.mem_of_getElem? hx)
          refine AW.skipN (fun _ h => h) ?_
          refine AW.seq ?_
          refine AW.block ?_
          refine AW.seq ?_
          refine rg [0,6,7] ?_
          intro k hk; simp -dsimp (maxSteps := 2000000) [go_sem, -decide_eq_true_eq, -decide_eq_false_iff_not, hx]
          repeat' first | apply And.intro | refine hk _ ?_ | intro hg | ((first | refine CallK.intro (dc_spec_l4Typed x.cond 2 g1) ?_ | refine CallK.intro (dc_spec_l4Typed x.expr 1 g2) ?_); simp -dsimp (maxSteps := 2000000) [go_sem, -decide_eq_true_eq, -decide_eq_false_iff_not, hx]) | omega | exact True.intro
          all_goals clear hk k
          refine rg [0,6,7,47] ?_
          intro k hk; simp -dsimp [go_sem, -decide_eq_true_eq, -decide_eq_false_iff_not, hx]
          repeat' first | apply And.intro | refine hk _ ?_ | intro hg | omega | exact True.intro
          all_goals clear hk k
          refine AW.cond rfl ?_ ?_
          ·intro hc; try simp at hc
           all_goals (
            refine rg [2] ?_
            intro k hk; simp -dsimp [go_sem, -decide_eq_true_eq, -decide_eq_false_iff_not, hx]
            repeat' first | apply And.intro | refine hk _ ?_ | intro hg | omega | exact True.intro
            all_goals clear hk k
            refine rt ?_
            first | (rw [procF_len' (by simpa using hc)]; simp [go_sem, Tryz.results71]; done) | (rw [procF_ok hR h1 h2 h3]; simp [go_sem, Tryz.results71]; done) | (have hty : tyF p i = typF x.cond 2 := (by rw [hxt]; grind); rw [procF_ty hR h1 h2 hlt hal3 (by rw [hty]; first | assumption | simpa using hc), hty]; simp [go_sem, Tryz.results71]; done) | (have hty : tyF p i = typF x.expr 1 := (by rw [hxt]; grind); rw [procF_ty hR h1 h2 hlt hal3 (by rw [hty]; first | assumption | simpa using hc), hty]; simp [go_sem, Tryz.results71]; done) | (rw [procF_shape' hR h1 (by first | assumption | simpa using hc)]; simp [go_sem, Tryz.results71]; done) | (rw [procF_one hR hlt hall (by first | assumption | simpa using hc)]; simp [go_sem, Tryz.results71]))
          ·intro hc; try simp at hc
           all_goals (
            refine AW.skipN (fun _ h => h) ?_
            refine rg [0,6,8] ?_
            intro k hk; simp -dsimp (maxSteps := 2000000) [go_sem, -decide_eq_true_eq, -decide_eq_false_iff_not, hx]
            repeat' first | apply And.intro | refine hk _ ?_ | intro hg | ((first | refine CallK.intro (dc_spec_l4Typed x.cond 2 g1) ?_ | refine CallK.intro (dc_spec_l4Typed x.expr 1 g2) ?_); simp -dsimp (maxSteps := 2000000) [go_sem, -decide_eq_true_eq, -decide_eq_false_iff_not, hx]) | omega | exact True.intro
            all_goals clear hk k
            refine rg [0,6,8,56] ?_
            intro k hk; simp -dsimp [go_sem, -decide_eq_true_eq, -decide_eq_false_iff_not, hx]
            repeat' first | apply And.intro | refine hk _ ?_ | intro hg | omega | exact True.intro
            all_goals clear hk k
            refine AW.cond rfl ?_ ?_
            ·intro hc; try simp at hc
             all_goals (
              refine rg [2] ?_
              intro k hk; simp -dsimp [go_sem, -decide_eq_true_eq, -decide_eq_false_iff_not, hx]
              repeat' first | apply And.intro | refine hk _ ?_ | intro hg | omega | exact True.intro
              all_goals clear hk k
              refine rt ?_
              first | (rw [procF_len' (by simpa using hc)]; simp [go_sem, Tryz.results71]; done) | (rw [procF_ok hR h1 h2 h3]; simp [go_sem, Tryz.results71]; done) | (have hty : tyF p i = typF x.cond 2 := (by rw [hxt]; grind); rw [procF_ty hR h1 h2 hlt hal3 (by rw [hty]; first | assumption | simpa using hc), hty]; simp [go_sem, Tryz.results71]; done) | (have hty : tyF p i = typF x.expr 1 := (by rw [hxt]; grind); rw [procF_ty hR h1 h2 hlt hal3 (by rw [hty]; first | assumption | simpa using hc), hty]; simp [go_sem, Tryz.results71]; done) | (rw [procF_shape' hR h1 (by first | assumption | simpa using hc)]; simp [go_sem, Tryz.results71]; done) | (rw [procF_one hR hlt hall (by first | assumption | simpa using hc)]; simp [go_sem, Tryz.results71]))
            ·intro hc; try simp at hc
             all_goals (
              refine AW.skipN (fun _ h => h) ?_
              refine rgK ?_
              intro k hk; simp -dsimp [go_sem, -decide_eq_true_eq, -decide_eq_false_iff_not, hx]
              repeat' first | apply And.intro | refine hk _ ?_ | intro hg | omega | exact True.intro
              all_goals clear hk k
              show ∃ _, _
              have hw := wrapi hlt (by omega)
              have htz : tyF p i = 0 := by rw [hxt]; grind
              refine ⟨i + 1, ⟨by omega, upto hal3 htz⟩, by omega, Less.of rfl (by simp [go_sem, hw]) (by simp [go_sem])⟩)))
        ·intro hc; try simp at hc
         all_goals (
          refine AW.exitN (fun _ h => h) ?_
          have h3 : ∀ k, k < p.length → tyF p k = 0 := fun k hk => hal3 k (by omega)
          refine rgA [2] ?_
          refine rt ?_
          first | (rw [procF_len' (by simpa using hc)]; simp [go_sem, Tryz.results71]; done) | (rw [procF_ok hR h1 h2 h3]; simp [go_sem, Tryz.results71]; done) | (have hty : tyF p i = typF x.cond 2 := (by rw [hxt]; grind); rw [procF_ty hR h1 h2 hlt hal3 (by rw [hty]; first | assumption | simpa using hc), hty]; simp [go_sem, Tryz.results71]; done) | (have hty : tyF p i = typF x.expr 1 := (by rw [hxt]; grind); rw [procF_ty hR h1 h2 hlt hal3 (by rw [hty]; first | assumption | simpa using hc), hty]; simp [go_sem, Tryz.results71]; done) | (rw [procF_shape' hR h1 (by first | assumption | simpa using hc)]; simp [go_sem, Tryz.results71]; done) | (rw [procF_one hR hlt hall (by first | assumption | simpa using hc)]; simp [go_sem, Tryz.results71])))))

end Go.AM
namespace Go.AM
open Go.Proofs

set_option maxHeartbeats 4000000 in
/-- spec.l9Wrong -/
theorem dc_spec_l9Wrong (p : List TStep) (c : TChart) (ho : StepsOk p) (hla : c.acts.length = p.length) (hld : c.dues.length = p.length) (i : Nat) (hi : i < p.length) : DC Tryz.prog 73 [.isl 6 (p.map TStep.ro), .ip c.ro, .int .i64 (i : Nat)] (.bool (wrong9 p c (i : Int))) [] := by
 have hlen := ho.len
 obtain ⟨x, hx⟩ := at_some hi
 have hxS := nS_at hx
 have haa := actN_at (c := c) (show i < c.acts.length by omega)
 have hdd := dueN_at (c := c) (show i < c.dues.length by omega)
 have hkl := kids_len p (i : Int)
 have hkb : ∀ k ∈ (kids p (i : Int)), 0 ≤ k ∧ k.toNat < c.acts.length := fun k hk => by have := kids_bd hk; omega
 have hc1 := cnt_le c 1 (kids p (i : Int))
 have hc2 := cnt_le c 2 (kids p (i : Int))
 have hwn : IntKind.wrap .i64 (cnt c 1 (kids p (i : Int)) + cnt c 2 (kids p (i : Int))) = cnt c 1 (kids p (i : Int)) + cnt c 2 (kids p (i : Int)) := wrap64 (by omega) (by omega)
 refine DC.intro tiOk Tryz.func73 rfl rfl rfl rfl rfl rfl rfl rfl [] ?_
 refine rg [0,1,2] ?_
 intro k hk; simp -dsimp [go_sem, -decide_eq_true_eq, -decide_eq_false_iff_not, hx, haa, hdd]
 repeat' first | apply And.intro | refine hk _ ?_ | intro hg | omega | exact True.intro | (refine And.elim (fun h8 h9 => ?_) (hho ?_) <;> first | assumption | omega) | fail
 all_goals clear hk k
 refine rg [0,1,2,7] ?_
 intro k hk; simp -dsimp (maxSteps := 2000000) [go_sem, -decide_eq_true_eq, -decide_eq_false_iff_not, hx, haa, hdd]
 repeat' first | apply And.intro | refine hk _ ?_ | intro hg | (refine CallK.intro (dc_spec_l4Kids p (i : Int) (by omega) (by rw [ho.par0]; omega)) ?_; simp -dsimp (maxSteps := 2000000) [go_sem, -decide_eq_true_eq, -decide_eq_false_iff_not, hx, haa, hdd]) | omega | exact True.intro | (refine And.elim (fun h8 h9 => ?_) (hho ?_) <;> first | assumption | omega) | fail
 all_goals clear hk k
 refine rg [0,1,2,7,8] ?_
 intro k hk; simp -dsimp [go_sem, -decide_eq_true_eq, -decide_eq_false_iff_not, hx, haa, hdd]
 repeat' first | apply And.intro | refine hk _ ?_ | intro hg | omega | exact True.intro | (refine And.elim (fun h8 h9 => ?_) (hho ?_) <;> first | assumption | omega) | fail
 all_goals clear hk k
 refine rg [0,1,2,7,8,9] ?_
 intro k hk; simp -dsimp [go_sem, -decide_eq_true_eq, -decide_eq_false_iff_not, hx, haa, hdd]
 repeat' first | apply And.intro | refine hk _ ?_ | intro hg | omega | exact True.intro | (refine And.elim (fun h8 h9 => ?_) (hho ?_) <;> first | assumption | omega) | fail
 all_goals clear hk k
 refine AW.seq ?_
 refine rg [0,1,2,7,8,9,10] ?_
 intro k hk; simp -dsimp [go_sem, -decide_eq_true_eq, -decide_eq_false_iff_not, hx, haa, hdd]
 repeat' first | apply And.intro | refine hk _ ?_ | intro hg | omega | exact True.intro | (refine And.elim (fun h8 h9 => ?_) (hho ?_) <;> first | assumption | omega) | fail
 all_goals clear hk k
 refine AW.block ?_
 refine AW.loopI (fun j : Nat => ⟨130, [(0, .isl 6 (p.map TStep.ro)), (1, .ip c.ro), (2, .int .i64 (i : Nat)), (7, .sl 1014 1 0 (kids p (i : Int)).length), (8, .int .i64 (cnt c 1 ((kids p (i : Int)).take j))), (9, .int .i64 (cnt c 2 ((kids p (i : Int)).take j))), (10, .int .i64 j)], [(1014, some ⟨1, (kids p (i : Int)).map I1⟩)]⟩) (fun j => j ≤ (kids p (i : Int)).length) (fun j => (kids p (i : Int)).length - j) (0) (by simp) (Less.of rfl (by simp [go_sem, cnt]) (by simp [go_sem])) ?_
 rintro j hj
 refine AW.seq ?_
 refine rg [0,1,2,7,8,9,10,18] ?_
 intro k hk; simp -dsimp [go_sem, -decide_eq_true_eq, -decide_eq_false_iff_not, hx, haa, hdd]
 repeat' first | apply And.intro | refine hk _ ?_ | intro hg | omega | exact True.intro | (refine And.elim (fun h8 h9 => ?_) (hho ?_) <;> first | assumption | omega) | fail
 all_goals clear hk k
 refine AW.cond rfl ?_ ?_
 ·intro hc; try simp at hc
  all_goals try (exfalso; omega; done)
  all_goals (
   have hlt : j < (kids p (i : Int)).length := by assumption
   obtain ⟨y, hy⟩ := at_some hlt
   obtain ⟨hy0, hy1⟩ := hkb y (List.mem_of_getElem? hy)
   have hya := actA_at hy1
   have hs1 := cnt_step (c := c) (a := 1) hy
   have hs2 := cnt_step (c := c) (a := 2) hy
   have hcl1 := cnt_le c 1 ((kids p (i : Int)).take j)
   have hcl2 := cnt_le c 2 ((kids p (i : Int)).take j)
   have hcl3 : ((kids p (i : Int)).take j).length ≤ 24 := by rw [List.length_take]; omega
   have hwc1 : IntKind.wrap .i64 (cnt c 1 ((kids p (i : Int)).take j) + 1) = cnt c 1 ((kids p (i : Int)).take j) + 1 := wrap64 (by omega) (by omega)
   have hwc2 : IntKind.wrap .i64 (cnt c 2 ((kids p (i : Int)).take j) + 1) = cnt c 2 ((kids p (i : Int)).take j) + 1 := wrap64 (by omega) (by omega)
   refine AW.skipN (fun _ h => h) ?_
   refine AW.seq ?_
   refine AW.block ?_
   refine rg [0,1,2,7,8,9,10,30] ?_
   intro k hk; simp -dsimp (maxSteps := 2000000) [go_sem, -decide_eq_true_eq, -decide_eq_false_iff_not, hx, haa, hdd, hy, hya, hwc1, hwc2]
   repeat' first | (refine Chk.keys ?_; simp only [go_sem, List.map_cons, List.map_nil, List.flatMap_cons, List.flatMap_nil, List.flatMap_append, List.append_nil, List.nil_append, List.cons_append]; decide +kernel) | apply And.intro | refine hk _ ?_ | intro hg | omega | exact True.intro | (refine And.elim (fun h8 h9 => ?_) (hho ?_) <;> first | assumption | omega) | fail
   all_goals clear hk k
   refine AW.block ?_
   refine rg [0,1,2,7,8,9,10,30,31] ?_
   intro k hk; simp -dsimp [go_sem, -decide_eq_true_eq, -decide_eq_false_iff_not, hx, haa, hdd, hy, hya, hwc1, hwc2]
   repeat' first | apply And.intro | refine hk _ ?_ | intro hg | omega | exact True.intro | (refine And.elim (fun h8 h9 => ?_) (hho ?_) <;> first | assumption | omega) | fail
   all_goals clear hk k
   refine AW.cond rfl ?_ ?_
   ·intro hc; try simp at hc
    all_goals try (exfalso; omega; done)
    all_goals (
     refine rgN [0,1,2,7,8,9,10] (fun _ h => h) ?_
     intro k hk; simp -dsimp [go_sem, -decide_eq_true_eq, -decide_eq_false_iff_not, hx, haa, hdd, hy, hya, hwc1, hwc2]
     repeat' first | apply And.intro | refine hk _ ?_ | intro hg | omega | exact True.intro | (refine And.elim (fun h8 h9 => ?_) (hho ?_) <;> first | assumption | omega) | fail
     all_goals clear hk k
     refine rgK ?_
     intro k hk; simp -dsimp [go_sem, -decide_eq_true_eq, -decide_eq_false_iff_not, hx, haa, hdd, hy, hya, hwc1, hwc2]
     repeat' first | apply And.intro | refine hk _ ?_ | intro hg | omega | exact True.intro | (refine And.elim (fun h8 h9 => ?_) (hho ?_) <;> first | assumption | omega) | fail
     all_goals clear hk k
     show ∃ _, _
     have hw := wrapi hlt (by omega)
     refine ⟨j + 1, by omega, by omega, Less.of rfl (by simp [go_sem, hw, hs1, hs2] <;> grind) (by simp [go_sem])⟩)
   ·intro hc; try simp at hc
    all_goals try (exfalso; omega; done)
    all_goals (
     refine rg [0,1,2,7,8,9,10,35] ?_
     intro k hk; simp -dsimp [go_sem, -decide_eq_true_eq, -decide_eq_false_iff_not, hx, haa, hdd, hy, hya, hwc1, hwc2]
     repeat' first | apply And.intro | refine hk _ ?_ | intro hg | omega | exact True.intro | (refine And.elim (fun h8 h9 => ?_) (hho ?_) <;> first | assumption | omega) | fail
     all_goals clear hk k
     refine AW.cond rfl ?_ ?_
     ·intro hc; try simp at hc
      all_goals try (exfalso; omega; done)
      all_goals (
       refine rgN [0,1,2,7,8,9,10] (fun _ h => h) ?_
       intro k hk; simp -dsimp [go_sem, -decide_eq_true_eq, -decide_eq_false_iff_not, hx, haa, hdd, hy, hya, hwc1, hwc2]
       repeat' first | apply And.intro | refine hk _ ?_ | intro hg | omega | exact True.intro | (refine And.elim (fun h8 h9 => ?_) (hho ?_) <;> first | assumption | omega) | fail
       all_goals clear hk k
       refine rgK ?_
       intro k hk; simp -dsimp [go_sem, -decide_eq_true_eq, -decide_eq_false_iff_not, hx, haa, hdd, hy, hya, hwc1, hwc2]
       repeat' first | apply And.intro | refine hk _ ?_ | intro hg | omega | exact True.intro | (refine And.elim (fun h8 h9 => ?_) (hho ?_) <;> first | assumption | omega) | fail
       all_goals clear hk k
       show ∃ _, _
       have hw := wrapi hlt (by omega)
       refine ⟨j + 1, by omega, by omega, Less.of rfl (by simp [go_sem, hw, hs1, hs2] <;> grind) (by simp [go_sem])⟩)
     ·intro hc; try simp at hc
      all_goals try (exfalso; omega; done)
      all_goals (
       refine AW.skipN (fun _ h => h) ?_
       refine rgK ?_
       intro k hk; simp -dsimp [go_sem, -decide_eq_true_eq, -decide_eq_false_iff_not, hx, haa, hdd, hy, hya, hwc1, hwc2]
       repeat' first | apply And.intro | refine hk _ ?_ | intro hg | omega | exact True.intro | (refine And.elim (fun h8 h9 => ?_) (hho ?_) <;> first | assumption | omega) | fail
       all_goals clear hk k
       show ∃ _, _
       have hw := wrapi hlt (by omega)
       refine ⟨j + 1, by omega, by omega, Less.of rfl (by simp [go_sem, hw, hs1, hs2] <;> grind) (by simp [go_sem])⟩)))
 ·intro hc; try simp at hc
  all_goals try (exfalso; omega; done)
  all_goals (
   refine AW.exitN (fun _ h => h) ?_
   refine AW.seq ?_
   have htk : ((kids p (i : Int)).take j) = (kids p (i : Int)) := List.take_of_length_le (by omega)
   rw [htk]
   refine rg [0,1,2,7,8,9,46] ?_
   intro k hk; simp -dsimp (maxSteps := 2000000) [go_sem, -decide_eq_true_eq, -decide_eq_false_iff_not, hx, haa, hdd]
   repeat' first | apply And.intro | refine hk _ ?_ | intro hg | omega | exact True.intro | (refine And.elim (fun h8 h9 => ?_) (hho ?_) <;> first | assumption | omega) | fail
   all_goals clear hk k
   refine AW.cond rfl ?_ ?_
   ·intro hc; try simp at hc
    all_goals try (exfalso; omega; done)
    all_goals (
     refine rg [6] ?_
     intro k hk; simp +contextual -dsimp (maxSteps := 2000000) [go_sem, -decide_eq_true_eq, -decide_eq_false_iff_not, hx, haa, hdd, hwn]
     repeat' first | apply And.intro | refine hk _ ?_ | (intro hg; try simp only [decide_eq_true_eq, decide_eq_false_iff_not] at hg) | omega | exact True.intro | (refine And.elim (fun h8 h9 => ?_) (hho ?_) <;> first | assumption | omega) | fail
     all_goals clear hk k
     all_goals (
      refine rt ?_
      rw [wrong9_at hx]
      simp [go_sem, Tryz.results73] at * <;> grind))
   ·intro hc; try simp at hc
    all_goals try (exfalso; omega; done)
    all_goals (
     refine AW.skipN (fun _ h => h) ?_
     refine rg [0,1,2,7,8,9,11] ?_
     intro k hk; simp -dsimp (maxSteps := 2000000) [go_sem, -decide_eq_true_eq, -decide_eq_false_iff_not, hx, haa, hdd]
     repeat' first | apply And.intro | refine hk _ ?_ | intro hg | omega | exact True.intro | (refine And.elim (fun h8 h9 => ?_) (hho ?_) <;> first | assumption | omega) | fail
     all_goals clear hk k
     refine AW.seq ?_
     refine rg [1,7,8,9,11,73] ?_
     intro k hk; simp -dsimp [go_sem, -decide_eq_true_eq, -decide_eq_false_iff_not, hx, haa, hdd]
     repeat' first | apply And.intro | refine hk _ ?_ | intro hg | omega | exact True.intro | (refine And.elim (fun h8 h9 => ?_) (hho ?_) <;> first | assumption | omega) | fail
     all_goals clear hk k
     refine AW.block ?_
     refine AW.seq ?_
     refine rg [1,7,8,9,11,73,74] ?_
     intro k hk; simp -dsimp [go_sem, -decide_eq_true_eq, -decide_eq_false_iff_not, hx, haa, hdd]
     repeat' first | apply And.intro | refine hk _ ?_ | intro hg | omega | exact True.intro | (refine And.elim (fun h8 h9 => ?_) (hho ?_) <;> first | assumption | omega) | fail
     all_goals clear hk k
     refine AW.cond rfl ?_ ?_
     ·intro hc; try simp at hc
      all_goals try (exfalso; omega; done)
      all_goals (
       refine AW.skipN (fun _ h => h) ?_
       refine AW.cond rfl ?_ ?_
       ·intro hc; try simp at hc
        all_goals try (exfalso; omega; done)
        all_goals (
         refine rg [6] ?_
         intro k hk; simp +contextual -dsimp (maxSteps := 2000000) [go_sem, -decide_eq_true_eq, -decide_eq_false_iff_not, hx, haa, hdd]
         repeat' first | apply And.intro | refine hk _ ?_ | (intro hg; try simp only [decide_eq_true_eq, decide_eq_false_iff_not] at hg) | omega | exact True.intro | (refine And.elim (fun h8 h9 => ?_) (hho ?_) <;> first | assumption | omega) | fail
         all_goals clear hk k
         all_goals (
          refine rt ?_
          rw [wrong9_at hx]
          simp [go_sem, Tryz.results73] at * <;> grind))
       ·intro hc; try simp at hc
        all_goals try (exfalso; omega; done)
        all_goals (
         refine rg [1,7,8,9,11,73,86] ?_
         intro k hk; simp -dsimp [go_sem, -decide_eq_true_eq, -decide_eq_false_iff_not, hx, haa, hdd]
         repeat' first | apply And.intro | refine hk _ ?_ | intro hg | omega | exact True.intro | (refine And.elim (fun h8 h9 => ?_) (hho ?_) <;> first | assumption | omega) | fail
         all_goals clear hk k
         refine AW.cond rfl ?_ ?_
         ·intro hc; try simp at hc
          all_goals try (exfalso; omega; done)
          all_goals (
           refine rg [6] ?_
           intro k hk; simp +contextual -dsimp (maxSteps := 2000000) [go_sem, -decide_eq_true_eq, -decide_eq_false_iff_not, hx, haa, hdd, hwn]
           repeat' first | apply And.intro | refine hk _ ?_ | (intro hg; try simp only [decide_eq_true_eq, decide_eq_false_iff_not] at hg) | omega | exact True.intro | (refine And.elim (fun h8 h9 => ?_) (hho ?_) <;> first | assumption | omega) | fail
           all_goals clear hk k
           all_goals (
            refine rt ?_
            rw [wrong9_at hx]
            simp [go_sem, Tryz.results73] at * <;> grind))
         ·intro hc; try simp at hc
          all_goals try (exfalso; omega; done)
          all_goals (
           refine rg [1,7,8,9,11,73,101] ?_
           intro k hk; simp -dsimp [go_sem, -decide_eq_true_eq, -decide_eq_false_iff_not, hx, haa, hdd]
           repeat' first | apply And.intro | refine hk _ ?_ | intro hg | omega | exact True.intro | (refine And.elim (fun h8 h9 => ?_) (hho ?_) <;> first | assumption | omega) | fail
           all_goals clear hk k
           refine AW.cond rfl ?_ ?_
           ·intro hc; try simp at hc
            all_goals try (exfalso; omega; done)
            all_goals (
             have hh0 : cnt c 1 (kids p (i : Int)) = 1 → (kids p (i : Int)) ≠ [] := fun h => cnt_kids (show 0 < cnt c 1 (kids p (i : Int)) by omega)
             have hho : cnt c 1 (kids p (i : Int)) = 1 → 0 ≤ headI (kids p (i : Int)) ∧ (headI (kids p (i : Int))).toNat < c.acts.length := fun h => hkb _ (List.mem_of_getElem? (head_at (hh0 h)))
             have hhd : decide (cnt c 1 (kids p (i : Int)) = 1) = true → (kids p (i : Int))[0]? = some (headI (kids p (i : Int))) := fun h => head_at (hh0 (by simpa using h))
             have hha : decide (cnt c 1 (kids p (i : Int)) = 1) = true → c.acts[(headI (kids p (i : Int))).toNat]? = some (actA c (headI (kids p (i : Int)))) := fun h => actA_at (hho (by simpa using h)).2
             refine rg [6] ?_
             intro k hk; simp +contextual -dsimp (maxSteps := 2000000) [go_sem, -decide_eq_true_eq, -decide_eq_false_iff_not, hx, haa, hdd, hhd, hha]
             repeat' first | (refine Chk.keys ?_; simp only [go_sem, List.map_cons, List.map_nil, List.flatMap_cons, List.flatMap_nil, List.flatMap_append, List.append_nil, List.nil_append, List.cons_append]; decide +kernel) | apply And.intro | refine hk _ ?_ | (intro hg; try simp only [decide_eq_true_eq, decide_eq_false_iff_not] at hg) | omega | exact True.intro | (refine And.elim (fun h8 h9 => ?_) (hho ?_) <;> first | assumption | omega) | fail
             all_goals clear hk k
             all_goals (
              refine rt ?_
              rw [wrong9_at hx]
              simp [go_sem, Tryz.results73] at * <;> grind))
           ·intro hc; try simp at hc
            all_goals try (exfalso; omega; done)
            all_goals (
             refine rg [11,73,123] ?_
             intro k hk; simp -dsimp [go_sem, -decide_eq_true_eq, -decide_eq_false_iff_not, hx, haa, hdd]
             repeat' first | apply And.intro | refine hk _ ?_ | intro hg | omega | exact True.intro | (refine And.elim (fun h8 h9 => ?_) (hho ?_) <;> first | assumption | omega) | fail
             all_goals clear hk k
             refine AW.cond rfl ?_ ?_
             ·intro hc; try simp at hc
              all_goals try (exfalso; omega; done)
              all_goals (
               refine rg [6] ?_
               intro k hk; simp -dsimp [go_sem, -decide_eq_true_eq, -decide_eq_false_iff_not, hx, haa, hdd]
               repeat' first | apply And.intro | refine hk _ ?_ | intro hg | omega | exact True.intro | (refine And.elim (fun h8 h9 => ?_) (hho ?_) <;> first | assumption | omega) | fail
               all_goals clear hk k
               refine rt ?_
               rw [wrong9_at hx]
               simp [go_sem, Tryz.results73] at * <;> grind)
             ·intro hc; try simp at hc
              all_goals try (exfalso; omega; done)
              all_goals (
               refine rg [11,127] ?_
               intro k hk; simp -dsimp [go_sem, -decide_eq_true_eq, -decide_eq_false_iff_not, hx, haa, hdd]
               repeat' first | apply And.intro | refine hk _ ?_ | intro hg | omega | exact True.intro | (refine And.elim (fun h8 h9 => ?_) (hho ?_) <;> first | assumption | omega) | fail
               all_goals clear hk k
               refine AW.cond rfl ?_ ?_
               ·intro hc; try simp at hc
                all_goals try (exfalso; omega; done)
                all_goals (
                 refine rg [6] ?_
                 intro k hk; simp -dsimp [go_sem, -decide_eq_true_eq, -decide_eq_false_iff_not, hx, haa, hdd]
                 repeat' first | apply And.intro | refine hk _ ?_ | intro hg | omega | exact True.intro | (refine And.elim (fun h8 h9 => ?_) (hho ?_) <;> first | assumption | omega) | fail
                 all_goals clear hk k
                 refine rt ?_
                 rw [wrong9_at hx]
                 simp [go_sem, Tryz.results73] at * <;> grind)
               ·intro hc; try simp at hc
                all_goals try (exfalso; omega; done)
                all_goals (
                 refine AW.skipN (fun _ h => h) ?_
                 refine rg [6] ?_
                 intro k hk; simp -dsimp [go_sem, -decide_eq_true_eq, -decide_eq_false_iff_not, hx, haa, hdd]
                 repeat' first | apply And.intro | refine hk _ ?_ | intro hg | omega | exact True.intro | (refine And.elim (fun h8 h9 => ?_) (hho ?_) <;> first | assumption | omega) | fail
                 all_goals clear hk k
                 refine rt ?_
                 rw [wrong9_at hx]
                 simp [go_sem, Tryz.results73] at * <;> grind))))))
     ·intro hc; try simp at hc
      all_goals try (exfalso; omega; done)
      all_goals (
       refine rgN [1,7,8,9,11,73,74] (fun _ h => h) ?_
       intro k hk; simp -dsimp [go_sem, -decide_eq_true_eq, -decide_eq_false_iff_not, hx, haa, hdd]
       repeat' first | apply And.intro | refine hk _ ?_ | intro hg | omega | exact True.intro | (refine And.elim (fun h8 h9 => ?_) (hho ?_) <;> first | assumption | omega) | fail
       all_goals clear hk k
       refine AW.cond rfl ?_ ?_
       ·intro hc; try simp at hc
        all_goals try (exfalso; omega; done)
        all_goals (
         refine rg [6] ?_
         intro k hk; simp +contextual -dsimp (maxSteps := 2000000) [go_sem, -decide_eq_true_eq, -decide_eq_false_iff_not, hx, haa, hdd]
         repeat' first | apply And.intro | refine hk _ ?_ | (intro hg; try simp only [decide_eq_true_eq, decide_eq_false_iff_not] at hg) | omega | exact True.intro | (refine And.elim (fun h8 h9 => ?_) (hho ?_) <;> first | assumption | omega) | fail
         all_goals clear hk k
         all_goals (
          refine rt ?_
          rw [wrong9_at hx]
          simp [go_sem, Tryz.results73] at * <;> grind))
       ·intro hc; try simp at hc
        all_goals try (exfalso; omega; done)
        all_goals (
         refine rg [1,7,8,9,11,73,86] ?_
         intro k hk; simp -dsimp [go_sem, -decide_eq_true_eq, -decide_eq_false_iff_not, hx, haa, hdd]
         repeat' first | apply And.intro | refine hk _ ?_ | intro hg | omega | exact True.intro | (refine And.elim (fun h8 h9 => ?_) (hho ?_) <;> first | assumption | omega) | fail
         all_goals clear hk k
         refine AW.cond rfl ?_ ?_
         ·intro hc; try simp at hc
          all_goals try (exfalso; omega; done)
          all_goals (
           refine rg [6] ?_
           intro k hk; simp +contextual -dsimp (maxSteps := 2000000) [go_sem, -decide_eq_true_eq, -decide_eq_false_iff_not, hx, haa, hdd, hwn]
           repeat' first | apply And.intro | refine hk _ ?_ | (intro hg; try simp only [decide_eq_true_eq, decide_eq_false_iff_not] at hg) | omega | exact True.intro | (refine And.elim (fun h8 h9 => ?_) (hho ?_) <;> first | assumption | omega) | fail
           all_goals clear hk k
           all_goals (
            refine rt ?_
            rw [wrong9_at hx]
            simp [go_sem, Tryz.results73] at * <;> grind))
         ·intro hc; try simp at hc
          all_goals try (exfalso; omega; done)
          all_goals (
           refine rg [1,7,8,9,11,73,101] ?_
           intro k hk; simp -dsimp [go_sem, -decide_eq_true_eq, -decide_eq_false_iff_not, hx, haa, hdd]
           repeat' first | apply And.intro | refine hk _ ?_ | intro hg | omega | exact True.intro | (refine And.elim (fun h8 h9 => ?_) (hho ?_) <;> first | assumption | omega) | fail
           all_goals clear hk k
           refine AW.cond rfl ?_ ?_
           ·intro hc; try simp at hc
            all_goals try (exfalso; omega; done)
            all_goals (
             have hh0 : cnt c 1 (kids p (i : Int)) = 1 → (kids p (i : Int)) ≠ [] := fun h => cnt_kids (show 0 < cnt c 1 (kids p (i : Int)) by omega)
             have hho : cnt c 1 (kids p (i : Int)) = 1 → 0 ≤ headI (kids p (i : Int)) ∧ (headI (kids p (i : Int))).toNat < c.acts.length := fun h => hkb _ (List.mem_of_getElem? (head_at (hh0 h)))
             have hhd : decide (cnt c 1 (kids p (i : Int)) = 1) = true → (kids p (i : Int))[0]? = some (headI (kids p (i : Int))) := fun h => head_at (hh0 (by simpa using h))
             have hha : decide (cnt c 1 (kids p (i : Int)) = 1) = true → c.acts[(headI (kids p (i : Int))).toNat]? = some (actA c (headI (kids p (i : Int)))) := fun h => actA_at (hho (by simpa using h)).2
             refine rg [6] ?_
             intro k hk; simp +contextual -dsimp (maxSteps := 2000000) [go_sem, -decide_eq_true_eq, -decide_eq_false_iff_not, hx, haa, hdd, hhd, hha]
             repeat' first | (refine Chk.keys ?_; simp only [go_sem, List.map_cons, List.map_nil, List.flatMap_cons, List.flatMap_nil, List.flatMap_append, List.append_nil, List.nil_append, List.cons_append]; decide +kernel) | apply And.intro | refine hk _ ?_ | (intro hg; try simp only [decide_eq_true_eq, decide_eq_false_iff_not] at hg) | omega | exact True.intro | (refine And.elim (fun h8 h9 => ?_) (hho ?_) <;> first | assumption | omega) | fail
             all_goals clear hk k
             all_goals (
              refine rt ?_
              rw [wrong9_at hx]
              simp [go_sem, Tryz.results73] at * <;> grind))
           ·intro hc; try simp at hc
            all_goals try (exfalso; omega; done)
            all_goals (
             refine rg [11,73,123] ?_
             intro k hk; simp -dsimp [go_sem, -decide_eq_true_eq, -decide_eq_false_iff_not, hx, haa, hdd]
             repeat' first | apply And.intro | refine hk _ ?_ | intro hg | omega | exact True.intro | (refine And.elim (fun h8 h9 => ?_) (hho ?_) <;> first | assumption | omega) | fail
             all_goals clear hk k
             refine AW.cond rfl ?_ ?_
             ·intro hc; try simp at hc
              all_goals try (exfalso; omega; done)
              all_goals (
               refine rg [6] ?_
               intro k hk; simp -dsimp [go_sem, -decide_eq_true_eq, -decide_eq_false_iff_not, hx, haa, hdd]
               repeat' first | apply And.intro | refine hk _ ?_ | intro hg | omega | exact True.intro | (refine And.elim (fun h8 h9 => ?_) (hho ?_) <;> first | assumption | omega) | fail
               all_goals clear hk k
               refine rt ?_
               rw [wrong9_at hx]
               simp [go_sem, Tryz.results73] at * <;> grind)
             ·intro hc; try simp at hc
              all_goals try (exfalso; omega; done)
              all_goals (
               refine rg [11,127] ?_
               intro k hk; simp -dsimp [go_sem, -decide_eq_true_eq, -decide_eq_false_iff_not, hx, haa, hdd]
               repeat' first | apply And.intro | refine hk _ ?_ | intro hg | omega | exact True.intro | (refine And.elim (fun h8 h9 => ?_) (hho ?_) <;> first | assumption | omega) | fail
               all_goals clear hk k
               refine AW.cond rfl ?_ ?_
               ·intro hc; try simp at hc
                all_goals try (exfalso; omega; done)
                all_goals (
                 refine rg [6] ?_
                 intro k hk; simp -dsimp [go_sem, -decide_eq_true_eq, -decide_eq_false_iff_not, hx, haa, hdd]
                 repeat' first | apply And.intro | refine hk _ ?_ | intro hg | omega | exact True.intro | (refine And.elim (fun h8 h9 => ?_) (hho ?_) <;> first | assumption | omega) | fail
                 all_goals clear hk k
                 refine rt ?_
                 rw [wrong9_at hx]
                 simp [go_sem, Tryz.results73] at * <;> grind)
               ·intro hc; try simp at hc
                all_goals try (exfalso; omega; done)
                all_goals (
                 refine AW.skipN (fun _ h => h) ?_
                 refine rg [6] ?_
                 intro k hk; simp -dsimp [go_sem, -decide_eq_true_eq, -decide_eq_false_iff_not, hx, haa, hdd]
                 repeat' first | apply And.intro | refine hk _ ?_ | intro hg | omega | exact True.intro | (refine And.elim (fun h8 h9 => ?_) (hho ?_) <;> first | assumption | omega) | fail
                 all_goals clear hk k
                 refine rt ?_
                 rw [wrong9_at hx]
                 simp [go_sem, Tryz.results73] at * <;> grind))))))))

end Go.AM
namespace Go.AM
open Go.Proofs

/-- spec.l9Fault -/
theorem dc_spec_l9Fault (p : List TStep) (c : TChart) (hp : p.length ≤ 9223372036854775807) (hg : ∀ e ∈ p, e.gok) (hc0 : c.gok) : DC Tryz.prog 55 [.isl 6 (p.map TStep.ro), .ip c.ro] (.int .i64 (chartF p c)) [] := by
 obtain ⟨g0, g1, g2⟩ := hc0
 refine DC.intro tiOk Tryz.func55 rfl rfl rfl rfl rfl rfl rfl rfl [] ?_
 refine rgA [0,1] ?_
 refine AW.seq ?_
 refine rg [0,1,5] ?_
 intro k hk; simp -dsimp (maxSteps := 2000000) [go_sem, -decide_eq_true_eq, -decide_eq_false_iff_not]
 repeat' first | apply And.intro | refine hk _ ?_ | intro hg | (refine CallK.intro (dc_spec_l4Fault p hp hg) ?_; simp -dsimp (maxSteps := 2000000) [go_sem, -decide_eq_true_eq, -decide_eq_false_iff_not]) | omega | exact True.intro
 all_goals clear hk k
 refine rgA [0,1,5,13] ?_
 refine AW.cond rfl ?_ ?_
 ·intro hc; try simp at hc
  all_goals (
   refine rgA [4] ?_
   refine rt ?_
   first | (rw [chartF_2 h0, if_neg hs, if_neg (by simp [hst]), if_neg (fun h8 => by have h9 := someWrong_hit hlt (show wrong9 p c (i : Int) = true by first | assumption | simpa using hc); rw [h8.2] at h9; cases h9)]; simp [go_sem, Tryz.results55]; done) | (have hie2 : i = p.length := (by omega); rw [hie2] at hwr; rw [chartF_2 h0, if_neg hs, if_neg (by simp [hst]), if_pos ⟨hon, hwr⟩]; simp [go_sem, Tryz.results55]; done) | (rw [chartF_2 h0, if_neg hs, if_neg (by simp [hst]), if_neg (fun h8 => absurd h8.1 (by first | assumption | simpa using hc))]; simp [go_sem, Tryz.results55]; done) | (rw [chartF_2 h0, if_neg hs, if_pos (by assumption), if_pos (hz.1 (by first | assumption | simpa using hc))]; simp [go_sem, Tryz.results55]; done) | (rw [chartF_2 h0, if_neg hs, if_pos (by assumption), if_neg (fun h8 => by have h9 := hz.2 h8; simp_all)]; simp [go_sem, Tryz.results55]; done) | (rw [chartF_2 h0, if_pos (by have h9 := @smallB_miss c.acts 2 i (by omega); have h8 := @smallB_miss c.dues (c.now + 99) i (by omega); rw [← actA_nat] at h9; rw [← dueA_nat] at h8; grind)]; simp [go_sem, Tryz.results55]; done) | (simp [go_sem, Tryz.results55]; unfold chartF; grind))
 ·intro hc; try simp at hc
  all_goals (
   refine AW.skipN (fun _ h => h) ?_
   refine AW.seq ?_
   refine AW.cut ⟨130, [(0, .isl 6 (p.map TStep.ro)), (1, .ip c.ro), (28, .bool (decide (inR c.status 1 3 = false ∨ inR c.now 0 1000000 = false)))], []⟩ ?_ ?_
   ·skip
    refine rgK ?_
    intro k hk; simp +contextual -dsimp (maxSteps := 2000000) [go_sem, -decide_eq_true_eq, -decide_eq_false_iff_not]
    repeat' first | apply And.intro | refine hk _ ?_ | (intro hg; try simp only [decide_eq_true_eq, decide_eq_false_iff_not] at hg) | ((first | refine CallK.intro (dc_spec_l1In _ _ _) ?_ | refine CallK.intro (dc_spec_l8Time _) ?_); simp +contextual -dsimp (maxSteps := 2000000) [go_sem, -decide_eq_true_eq, -decide_eq_false_iff_not]) | omega | exact True.intro
    all_goals clear hk k
    all_goals (show St.Less _ _; exact Less.of rfl (by simp [go_sem] <;> first | omega | grind) (by simp [go_sem]))
   ·skip
    refine AW.cond rfl ?_ ?_
    ·intro hc; try simp at hc
     all_goals (
      refine rgA [4] ?_
      refine rt ?_
      first | (rw [chartF_2 h0, if_neg hs, if_neg (by simp [hst]), if_neg (fun h8 => by have h9 := someWrong_hit hlt (show wrong9 p c (i : Int) = true by first | assumption | simpa using hc); rw [h8.2] at h9; cases h9)]; simp [go_sem, Tryz.results55]; done) | (have hie2 : i = p.length := (by omega); rw [hie2] at hwr; rw [chartF_2 h0, if_neg hs, if_neg (by simp [hst]), if_pos ⟨hon, hwr⟩]; simp [go_sem, Tryz.results55]; done) | (rw [chartF_2 h0, if_neg hs, if_neg (by simp [hst]), if_neg (fun h8 => absurd h8.1 (by first | assumption | simpa using hc))]; simp [go_sem, Tryz.results55]; done) | (rw [chartF_2 h0, if_neg hs, if_pos (by assumption), if_pos (hz.1 (by first | assumption | simpa using hc))]; simp [go_sem, Tryz.results55]; done) | (rw [chartF_2 h0, if_neg hs, if_pos (by assumption), if_neg (fun h8 => by have h9 := hz.2 h8; simp_all)]; simp [go_sem, Tryz.results55]; done) | (rw [chartF_2 h0, if_pos (by have h9 := @smallB_miss c.acts 2 i (by omega); have h8 := @smallB_miss c.dues (c.now + 99) i (by omega); rw [← actA_nat] at h9; rw [← dueA_nat] at h8; grind)]; simp [go_sem, Tryz.results55]; done) | (simp [go_sem, Tryz.results55]; unfold chartF; grind))
    ·intro hc; try simp at hc
     all_goals (
      refine AW.skipN (fun _ h => h) ?_
      refine AW.seq ?_
      have q2 : ¬ (inR c.status 1 3 = false ∨ inR c.now 0 1000000 = false) := by first | assumption | simpa using hc
      refine rg [0,1,6] ?_
      intro k hk; simp -dsimp (maxSteps := 2000000) [go_sem, -decide_eq_true_eq, -decide_eq_false_iff_not]
      repeat' first | apply And.intro | refine hk _ ?_ | intro hg | (refine CallK.intro (dc_spec_VarsFault c.vars g0) ?_; simp -dsimp (maxSteps := 2000000) [go_sem, -decide_eq_true_eq, -decide_eq_false_iff_not]) | omega | exact True.intro
      all_goals clear hk k
      refine rgA [0,1,6,35] ?_
      refine AW.cond rfl ?_ ?_
      ·intro hc; try simp at hc
       all_goals (
        refine rgA [4] ?_
        refine rt ?_
        first | (rw [chartF_2 h0, if_neg hs, if_neg (by simp [hst]), if_neg (fun h8 => by have h9 := someWrong_hit hlt (show wrong9 p c (i : Int) = true by first | assumption | simpa using hc); rw [h8.2] at h9; cases h9)]; simp [go_sem, Tryz.results55]; done) | (have hie2 : i = p.length := (by omega); rw [hie2] at hwr; rw [chartF_2 h0, if_neg hs, if_neg (by simp [hst]), if_pos ⟨hon, hwr⟩]; simp [go_sem, Tryz.results55]; done) | (rw [chartF_2 h0, if_neg hs, if_neg (by simp [hst]), if_neg (fun h8 => absurd h8.1 (by first | assumption | simpa using hc))]; simp [go_sem, Tryz.results55]; done) | (rw [chartF_2 h0, if_neg hs, if_pos (by assumption), if_pos (hz.1 (by first | assumption | simpa using hc))]; simp [go_sem, Tryz.results55]; done) | (rw [chartF_2 h0, if_neg hs, if_pos (by assumption), if_neg (fun h8 => by have h9 := hz.2 h8; simp_all)]; simp [go_sem, Tryz.results55]; done) | (rw [chartF_2 h0, if_pos (by have h9 := @smallB_miss c.acts 2 i (by omega); have h8 := @smallB_miss c.dues (c.now + 99) i (by omega); rw [← actA_nat] at h9; rw [← dueA_nat] at h8; grind)]; simp [go_sem, Tryz.results55]; done) | (simp [go_sem, Tryz.results55]; unfold chartF; grind))
      ·intro hc; try simp at hc
       all_goals (
        refine AW.skipN (fun _ h => h) ?_
        refine AW.seq ?_
        refine AW.cut ⟨130, [(0, .isl 6 (p.map TStep.ro)), (1, .ip c.ro), (54, .bool (decide (c.acts.length ≠ p.length ∨ c.dues.length ≠ p.length)))], []⟩ ?_ ?_
        ·skip
         refine rgK ?_
         intro k hk; simp +contextual -dsimp (maxSteps := 2000000) [go_sem, -decide_eq_true_eq, -decide_eq_false_iff_not]
         repeat' first | apply And.intro | refine hk _ ?_ | (intro hg; try simp only [decide_eq_true_eq, decide_eq_false_iff_not] at hg) | omega | exact True.intro
         all_goals clear hk k
         all_goals (show St.Less _ _; exact Less.of rfl (by simp [go_sem] <;> first | omega | grind) (by simp [go_sem]))
        ·skip
         refine AW.cond rfl ?_ ?_
         ·intro hc; try simp at hc
          all_goals (
           refine rgA [4] ?_
           refine rt ?_
           first | (rw [chartF_2 h0, if_neg hs, if_neg (by simp [hst]), if_neg (fun h8 => by have h9 := someWrong_hit hlt (show wrong9 p c (i : Int) = true by first | assumption | simpa using hc); rw [h8.2] at h9; cases h9)]; simp [go_sem, Tryz.results55]; done) | (have hie2 : i = p.length := (by omega); rw [hie2] at hwr; rw [chartF_2 h0, if_neg hs, if_neg (by simp [hst]), if_pos ⟨hon, hwr⟩]; simp [go_sem, Tryz.results55]; done) | (rw [chartF_2 h0, if_neg hs, if_neg (by simp [hst]), if_neg (fun h8 => absurd h8.1 (by first | assumption | simpa using hc))]; simp [go_sem, Tryz.results55]; done) | (rw [chartF_2 h0, if_neg hs, if_pos (by assumption), if_pos (hz.1 (by first | assumption | simpa using hc))]; simp [go_sem, Tryz.results55]; done) | (rw [chartF_2 h0, if_neg hs, if_pos (by assumption), if_neg (fun h8 => by have h9 := hz.2 h8; simp_all)]; simp [go_sem, Tryz.results55]; done) | (rw [chartF_2 h0, if_pos (by have h9 := @smallB_miss c.acts 2 i (by omega); have h8 := @smallB_miss c.dues (c.now + 99) i (by omega); rw [← actA_nat] at h9; rw [← dueA_nat] at h8; grind)]; simp [go_sem, Tryz.results55]; done) | (simp [go_sem, Tryz.results55]; unfold chartF; grind))
         ·intro hc; try simp at hc
          all_goals (
           refine AW.skipN (fun _ h => h) ?_
           have q1 : procF p = 0 := by assumption
           have q3 : varsF c.vars = 0 := by assumption
           have q4 : ¬ (c.acts.length ≠ p.length ∨ c.dues.length ≠ p.length) := by first | assumption | simpa using hc
           have h0 : chart1 p c = 0 := by rw [chart1, if_neg (by simp [q1]), if_neg q2, if_neg (by simp [q3]), if_neg q4]
           obtain ⟨k1, k2, k3, k4, k5, k6⟩ := chart1_ok h0
           have ho := (procOk k1).steps
           have hlen := ho.len
           have k3' := inR_iff.1 k3
           have hwn : IntKind.wrap .i64 (c.now + 99) = c.now + 99 := wrap64 (by omega) (by omega)
           refine rgA [0,1,7] ?_
           refine AW.seq ?_
           refine rgA [0,1,7,8] ?_
           refine AW.block ?_
           refine AW.loopI (fun i : Nat => ⟨130, [(0, .isl 6 (p.map TStep.ro)), (1, .ip c.ro), (7, .bool (someNZ c i)), (8, .int .i64 i)], []⟩) (fun i => i ≤ p.length ∧ ∀ k : Nat, k < i → inR (actA c k) 0 2 = true ∧ inR (dueA c k) 0 (c.now + 99) = true) (fun i => p.length - i) (0) (by simp) (Less.of rfl (by simp [go_sem, someNZ]) (by simp [go_sem])) ?_
           rintro i ⟨hi, hall⟩
           refine AW.seq ?_
           refine rgA [0,1,7,8,58] ?_
           refine AW.cond rfl ?_ ?_
           ·intro hc; try simp at hc
            all_goals (
             have hlt : i < p.length := by assumption
             have haa := actN_at (c := c) (show i < c.acts.length by omega)
             have hdd := dueN_at (c := c) (show i < c.dues.length by omega)
             have hnz := someNZ_step c i
             refine AW.skipN (fun _ h => h) ?_
             refine AW.seq ?_
             refine AW.block ?_
             refine AW.seq ?_
             refine AW.cut ⟨130, [(0, .isl 6 (p.map TStep.ro)), (1, .ip c.ro), (7, .bool (someNZ c i)), (8, .int .i64 i), (85, .bool (decide (inR (actA c i) 0 2 = false ∨ inR (dueA c i) 0 (c.now + 99) = false)))], []⟩ ?_ ?_
             ·skip
              refine rgK ?_
              intro k hk; simp +contextual -dsimp (maxSteps := 2000000) [go_sem, -decide_eq_true_eq, -decide_eq_false_iff_not, haa, hdd, hwn]
              repeat' first | (refine Chk.keys ?_; simp only [go_sem, List.map_cons, List.map_nil, List.flatMap_cons, List.flatMap_nil, List.flatMap_append, List.append_nil, List.nil_append, List.cons_append]; decide +kernel) | apply And.intro | refine hk _ ?_ | (intro hg; try simp only [decide_eq_true_eq, decide_eq_false_iff_not] at hg) | (refine CallK.intro (dc_spec_l1In _ _ _) ?_; simp +contextual -dsimp (maxSteps := 2000000) [go_sem, -decide_eq_true_eq, -decide_eq_false_iff_not, haa, hdd, hwn]) | omega | exact True.intro
              all_goals clear hk k
              all_goals (show St.Less _ _; exact Less.of rfl (by simp [go_sem] <;> first | omega | grind) (by simp [go_sem]))
             ·skip
              refine AW.cond rfl ?_ ?_
              ·intro hc; try simp at hc
               all_goals (
                refine rg [4] ?_
                intro k hk; simp -dsimp [go_sem, -decide_eq_true_eq, -decide_eq_false_iff_not, haa, hdd]
                repeat' first | apply And.intro | refine hk _ ?_ | intro hg | omega | exact True.intro
                all_goals clear hk k
                refine rt ?_
                first | (rw [chartF_2 h0, if_neg hs, if_neg (by simp [hst]), if_neg (fun h8 => by have h9 := someWrong_hit hlt (show wrong9 p c (i : Int) = true by first | assumption | simpa using hc); rw [h8.2] at h9; cases h9)]; simp [go_sem, Tryz.results55]; done) | (have hie2 : i = p.length := (by omega); rw [hie2] at hwr; rw [chartF_2 h0, if_neg hs, if_neg (by simp [hst]), if_pos ⟨hon, hwr⟩]; simp [go_sem, Tryz.results55]; done) | (rw [chartF_2 h0, if_neg hs, if_neg (by simp [hst]), if_neg (fun h8 => absurd h8.1 (by first | assumption | simpa using hc))]; simp [go_sem, Tryz.results55]; done) | (rw [chartF_2 h0, if_neg hs, if_pos (by assumption), if_pos (hz.1 (by first | assumption | simpa using hc))]; simp [go_sem, Tryz.results55]; done) | (rw [chartF_2 h0, if_neg hs, if_pos (by assumption), if_neg (fun h8 => by have h9 := hz.2 h8; simp_all)]; simp [go_sem, Tryz.results55]; done) | (rw [chartF_2 h0, if_pos (by have h9 := @smallB_miss c.acts 2 i (by omega); have h8 := @smallB_miss c.dues (c.now + 99) i (by omega); rw [← actA_nat] at h9; rw [← dueA_nat] at h8; grind)]; simp [go_sem, Tryz.results55]; done) | (simp [go_sem, Tryz.results55]; unfold chartF; grind))
              ·intro hc; try simp at hc
               all_goals (
                refine AW.skipN (fun _ h => h) ?_
                refine rgN [0,1,7,8] (fun _ h => h) ?_
                intro k hk; simp +contextual -dsimp (maxSteps := 2000000) [go_sem, -decide_eq_true_eq, -decide_eq_false_iff_not, haa, hdd]
                repeat' first | apply And.intro | refine hk _ ?_ | (intro hg; try simp only [decide_eq_true_eq, decide_eq_false_iff_not] at hg) | omega | exact True.intro
                all_goals clear hk k
                all_goals (
                 refine rgK ?_
                 intro k hk; simp -dsimp [go_sem, -decide_eq_true_eq, -decide_eq_false_iff_not, haa, hdd]
                 repeat' first | apply And.intro | refine hk _ ?_ | intro hg | omega | exact True.intro
                 all_goals clear hk k
                 show ∃ _, _
                 have hw := wrapi hlt (by omega)
                 have hb2 : inR (actA c i) 0 2 = true ∧ inR (dueA c i) 0 (c.now + 99) = true := by grind
                 refine ⟨i + 1, ⟨by omega, ?_⟩, by omega, Less.of rfl (by simp [go_sem, hw, hnz] <;> grind) (by simp [go_sem])⟩
                 intro k hk; rcases Nat.eq_or_lt_of_le (Nat.le_of_lt_succ hk) with h9 | h9; (subst h9; exact hb2); exact hall k h9)))
           ·intro hc; try simp at hc
            all_goals (
             refine AW.exitN (fun _ h => h) ?_
             refine AW.seq ?_
             have hie : i = p.length := by omega
             rw [hie] at hall
             rw [hie]
             have hs : ¬ (smallB c.acts 2 = false ∨ smallB c.dues (c.now + 99) = false) := by have e1 : smallB c.acts 2 = true := smallB_iff.2 (fun k hk => by rw [← actA_nat]; exact (hall k (by omega)).1); have e2 : smallB c.dues (c.now + 99) = true := smallB_iff.2 (fun k hk => by rw [← dueA_nat]; exact (hall k (by omega)).2); rw [e1, e2]; simp
             have hz := someNZ_zeros k5 k6
             refine rgA [0,1,7,111] ?_
             refine AW.cond rfl ?_ ?_
             ·intro hc; try simp at hc
              all_goals (
               refine AW.seq ?_
               refine rgA [112] ?_
               refine AW.cond rfl ?_ ?_
               ·intro hc; try simp at hc
                all_goals (
                 refine rgA [4] ?_
                 refine rt ?_
                 first | (rw [chartF_2 h0, if_neg hs, if_neg (by simp [hst]), if_neg (fun h8 => by have h9 := someWrong_hit hlt (show wrong9 p c (i : Int) = true by first | assumption | simpa using hc); rw [h8.2] at h9; cases h9)]; simp [go_sem, Tryz.results55]; done) | (have hie2 : i = p.length := (by omega); rw [hie2] at hwr; rw [chartF_2 h0, if_neg hs, if_neg (by simp [hst]), if_pos ⟨hon, hwr⟩]; simp [go_sem, Tryz.results55]; done) | (rw [chartF_2 h0, if_neg hs, if_neg (by simp [hst]), if_neg (fun h8 => absurd h8.1 (by first | assumption | simpa using hc))]; simp [go_sem, Tryz.results55]; done) | (rw [chartF_2 h0, if_neg hs, if_pos (by assumption), if_pos (hz.1 (by first | assumption | simpa using hc))]; simp [go_sem, Tryz.results55]; done) | (rw [chartF_2 h0, if_neg hs, if_pos (by assumption), if_neg (fun h8 => by have h9 := hz.2 h8; simp_all)]; simp [go_sem, Tryz.results55]; done) | (rw [chartF_2 h0, if_pos (by have h9 := @smallB_miss c.acts 2 i (by omega); have h8 := @smallB_miss c.dues (c.now + 99) i (by omega); rw [← actA_nat] at h9; rw [← dueA_nat] at h8; grind)]; simp [go_sem, Tryz.results55]; done) | (simp [go_sem, Tryz.results55]; unfold chartF; grind))
               ·intro hc; try simp at hc
                all_goals (
                 refine AW.skipN (fun _ h => h) ?_
                 refine rgA [4] ?_
                 refine rt ?_
                 first | (rw [chartF_2 h0, if_neg hs, if_neg (by simp [hst]), if_neg (fun h8 => by have h9 := someWrong_hit hlt (show wrong9 p c (i : Int) = true by first | assumption | simpa using hc); rw [h8.2] at h9; cases h9)]; simp [go_sem, Tryz.results55]; done) | (have hie2 : i = p.length := (by omega); rw [hie2] at hwr; rw [chartF_2 h0, if_neg hs, if_neg (by simp [hst]), if_pos ⟨hon, hwr⟩]; simp [go_sem, Tryz.results55]; done) | (rw [chartF_2 h0, if_neg hs, if_neg (by simp [hst]), if_neg (fun h8 => absurd h8.1 (by first | assumption | simpa using hc))]; simp [go_sem, Tryz.results55]; done) | (rw [chartF_2 h0, if_neg hs, if_pos (by assumption), if_pos (hz.1 (by first | assumption | simpa using hc))]; simp [go_sem, Tryz.results55]; done) | (rw [chartF_2 h0, if_neg hs, if_pos (by assumption), if_neg (fun h8 => by have h9 := hz.2 h8; simp_all)]; simp [go_sem, Tryz.results55]; done) | (rw [chartF_2 h0, if_pos (by have h9 := @smallB_miss c.acts 2 i (by omega); have h8 := @smallB_miss c.dues (c.now + 99) i (by omega); rw [← actA_nat] at h9; rw [← dueA_nat] at h8; grind)]; simp [go_sem, Tryz.results55]; done) | (simp [go_sem, Tryz.results55]; unfold chartF; grind)))
             ·intro hc; try simp at hc
              all_goals (
               refine AW.skipN (fun _ h => h) ?_
               refine AW.seq ?_
               have hst : c.status = 1 := by first | assumption | simpa using hc
               have ha0 := actN_at (c := c) (k := 0) (by omega)
               refine rg [0,1,119] ?_
               intro k hk; simp -dsimp (maxSteps := 2000000) [go_sem, -decide_eq_true_eq, -decide_eq_false_iff_not, ha0]
               repeat' first | apply And.intro | refine hk _ ?_ | intro hg | omega | exact True.intro
               all_goals clear hk k
               refine AW.cond rfl ?_ ?_
               ·intro hc; try simp at hc
                all_goals (
                 refine rgA [4] ?_
                 refine rt ?_
                 first | (rw [chartF_2 h0, if_neg hs, if_neg (by simp [hst]), if_neg (fun h8 => by have h9 := someWrong_hit hlt (show wrong9 p c (i : Int) = true by first | assumption | simpa using hc); rw [h8.2] at h9; cases h9)]; simp [go_sem, Tryz.results55]; done) | (have hie2 : i = p.length := (by omega); rw [hie2] at hwr; rw [chartF_2 h0, if_neg hs, if_neg (by simp [hst]), if_pos ⟨hon, hwr⟩]; simp [go_sem, Tryz.results55]; done) | (rw [chartF_2 h0, if_neg hs, if_neg (by simp [hst]), if_neg (fun h8 => absurd h8.1 (by first | assumption | simpa using hc))]; simp [go_sem, Tryz.results55]; done) | (rw [chartF_2 h0, if_neg hs, if_pos (by assumption), if_pos (hz.1 (by first | assumption | simpa using hc))]; simp [go_sem, Tryz.results55]; done) | (rw [chartF_2 h0, if_neg hs, if_pos (by assumption), if_neg (fun h8 => by have h9 := hz.2 h8; simp_all)]; simp [go_sem, Tryz.results55]; done) | (rw [chartF_2 h0, if_pos (by have h9 := @smallB_miss c.acts 2 i (by omega); have h8 := @smallB_miss c.dues (c.now + 99) i (by omega); rw [← actA_nat] at h9; rw [← dueA_nat] at h8; grind)]; simp [go_sem, Tryz.results55]; done) | (simp [go_sem, Tryz.results55]; unfold chartF; grind))
               ·intro hc; try simp at hc
                all_goals (
                 refine AW.skipN (fun _ h => h) ?_
                 refine AW.seq ?_
                 have hon : actA c 0 = 1 := by first | assumption | simpa using hc
                 refine rgA [0,1,9] ?_
                 refine AW.block ?_
                 refine AW.loopI (fun i : Nat => ⟨130, [(0, .isl 6 (p.map TStep.ro)), (1, .ip c.ro), (9, .int .i64 i)], []⟩) (fun i => i ≤ p.length ∧ someWrong p c i = false) (fun i => p.length - i) (0) (by simp [someWrong]) (Less.of rfl (by simp [go_sem]) (by simp [go_sem])) ?_
                 rintro i ⟨hi, hwr⟩
                 refine AW.seq ?_
                 refine rgA [0,1,9,123] ?_
                 refine AW.cond rfl ?_ ?_
                 ·intro hc; try simp at hc
                  all_goals (
                   have hlt : i < p.length := by assumption
                   refine AW.skipN (fun _ h => h) ?_
                   refine AW.seq ?_
                   refine AW.block ?_
                   refine rg [0,1,9,129] ?_
                   intro k hk; simp -dsimp (maxSteps := 2000000) [go_sem, -decide_eq_true_eq, -decide_eq_false_iff_not]
                   repeat' first | apply And.intro | refine hk _ ?_ | intro hg | (refine CallK.intro (dc_spec_l9Wrong p c ho k5 k6 i hlt) ?_; simp -dsimp (maxSteps := 2000000) [go_sem, -decide_eq_true_eq, -decide_eq_false_iff_not]) | omega | exact True.intro
                   all_goals clear hk k
                   refine AW.cond rfl ?_ ?_
                   ·intro hc; try simp at hc
                    all_goals (
                     refine rgA [4] ?_
                     refine rt ?_
                     first | (rw [chartF_2 h0, if_neg hs, if_neg (by simp [hst]), if_neg (fun h8 => by have h9 := someWrong_hit hlt (show wrong9 p c (i : Int) = true by first | assumption | simpa using hc); rw [h8.2] at h9; cases h9)]; simp [go_sem, Tryz.results55]; done) | (have hie2 : i = p.length := (by omega); rw [hie2] at hwr; rw [chartF_2 h0, if_neg hs, if_neg (by simp [hst]), if_pos ⟨hon, hwr⟩]; simp [go_sem, Tryz.results55]; done) | (rw [chartF_2 h0, if_neg hs, if_neg (by simp [hst]), if_neg (fun h8 => absurd h8.1 (by first | assumption | simpa using hc))]; simp [go_sem, Tryz.results55]; done) | (rw [chartF_2 h0, if_neg hs, if_pos (by assumption), if_pos (hz.1 (by first | assumption | simpa using hc))]; simp [go_sem, Tryz.results55]; done) | (rw [chartF_2 h0, if_neg hs, if_pos (by assumption), if_neg (fun h8 => by have h9 := hz.2 h8; simp_all)]; simp [go_sem, Tryz.results55]; done) | (rw [chartF_2 h0, if_pos (by have h9 := @smallB_miss c.acts 2 i (by omega); have h8 := @smallB_miss c.dues (c.now + 99) i (by omega); rw [← actA_nat] at h9; rw [← dueA_nat] at h8; grind)]; simp [go_sem, Tryz.results55]; done) | (simp [go_sem, Tryz.results55]; unfold chartF; grind))
                   ·intro hc; try simp at hc
                    all_goals (
                     refine AW.skipN (fun _ h => h) ?_
                     refine rgKA ?_
                     show ∃ _, _
                     have hw := wrapi hlt (by omega)
                     have hb2 : wrong9 p c (i : Int) = false := by first | assumption | simpa using hc
                     refine ⟨i + 1, ⟨by omega, by rw [someWrong_step, hwr, hb2]; rfl⟩, by omega, Less.of rfl (by simp [go_sem, hw]) (by simp [go_sem])⟩))
                 ·intro hc; try simp at hc
                  all_goals (
                   refine AW.exitN (fun _ h => h) ?_
                   refine rgA [4] ?_
                   refine rt ?_
                   first | (rw [chartF_2 h0, if_neg hs, if_neg (by simp [hst]), if_neg (fun h8 => by have h9 := someWrong_hit hlt (show wrong9 p c (i : Int) = true by first | assumption | simpa using hc); rw [h8.2] at h9; cases h9)]; simp [go_sem, Tryz.results55]; done) | (have hie2 : i = p.length := (by omega); rw [hie2] at hwr; rw [chartF_2 h0, if_neg hs, if_neg (by simp [hst]), if_pos ⟨hon, hwr⟩]; simp [go_sem, Tryz.results55]; done) | (rw [chartF_2 h0, if_neg hs, if_neg (by simp [hst]), if_neg (fun h8 => absurd h8.1 (by first | assumption | simpa using hc))]; simp [go_sem, Tryz.results55]; done) | (rw [chartF_2 h0, if_neg hs, if_pos (by assumption), if_pos (hz.1 (by first | assumption | simpa using hc))]; simp [go_sem, Tryz.results55]; done) | (rw [chartF_2 h0, if_neg hs, if_pos (by assumption), if_neg (fun h8 => by have h9 := hz.2 h8; simp_all)]; simp [go_sem, Tryz.results55]; done) | (rw [chartF_2 h0, if_pos (by have h9 := @smallB_miss c.acts 2 i (by omega); have h8 := @smallB_miss c.dues (c.now + 99) i (by omega); rw [← actA_nat] at h9; rw [← dueA_nat] at h8; grind)]; simp [go_sem, Tryz.results55]; done) | (simp [go_sem, Tryz.results55]; unfold chartF; grind)))))))))

end Go.AM
namespace Go.AM
open Go.Proofs

/-- spec.l11Procs -/
theorem dc_spec_l11Procs (l : List TProc) (hl : l.length ≤ 9223372036854775807 ∧ ∀ e ∈ l, e.gok) : DC Tryz.prog 53 [.isl 1 (l.map TProc.ro)] (.int .i64 (procsF l)) [] := by
 obtain ⟨hl, hg⟩ := hl
 refine DC.intro tiOk Tryz.func53 rfl rfl rfl rfl rfl rfl rfl rfl [] ?_
 refine rgA [0] ?_
 refine AW.seq ?_
 refine AW.cut ⟨28, [(0, .isl 1 (l.map TProc.ro)), (12, .bool (decide (l.length < 1 ∨ 3 < l.length)))], []⟩ ?_ ?_
 ·skip
  refine rgK ?_
  intro k hk; simp +contextual -dsimp (maxSteps := 2000000) [go_sem, -decide_eq_true_eq, -decide_eq_false_iff_not]
  repeat' first | apply And.intro | refine hk _ ?_ | (intro hg; try simp only [decide_eq_true_eq, decide_eq_false_iff_not] at hg) | omega | exact True.intro
  all_goals clear hk k
  all_goals (show St.Less _ _; exact Less.of rfl (by simp [go_sem, -Nat.lt_one_iff, -List.length_eq_zero_iff] <;> first | omega | grind) (by simp [go_sem]))
 ·skip
  refine AW.cond rfl ?_ ?_
  ·intro hc; try simp at hc
   all_goals (
    refine rgA [2] ?_
    refine rt ?_
    first | (rw [procsF_ok hR (fun k hk => hall k (by omega))]; simp [go_sem, Tryz.results53]; done) | (rw [procsF_hit hR hlt hall (by rw [hxp]; first | assumption | simpa using hc), hxp]; simp [go_sem, Tryz.results53]; done) | (rw [procsF_len' (by simpa using hc)]; simp [go_sem, Tryz.results53]))
  ·intro hc; try simp at hc
   all_goals (
    refine AW.skipN (fun _ h => h) ?_
    refine AW.seq ?_
    have hlen : 1 ≤ l.length ∧ l.length ≤ 3 := by obtain ⟨h8, h9⟩ := hc; have : l.length ≠ 0 := (fun h => h8 (List.length_eq_zero_iff.1 h)); omega
    have hR : inR l.length 1 3 = true := inR_iff.2 (by omega)
    refine rgA [0,3] ?_
    refine AW.block ?_
    refine AW.loopI (fun i : Nat => ⟨28, [(0, .isl 1 (l.map TProc.ro)), (3, .int .i64 i)], []⟩) (fun i => i ≤ l.length ∧ ∀ k, k < i → procAt l k = 0) (fun i => l.length - i) (0) (by simp) (Less.of rfl (by simp [go_sem]) (by simp [go_sem])) ?_
    rintro i ⟨hi, hall⟩
    refine AW.seq ?_
    refine rgA [0,3,16] ?_
    refine AW.cond rfl ?_ ?_
    ·intro hc; try simp at hc
     all_goals (
      have hlt : i < l.length := by assumption
      obtain ⟨x, hx⟩ := at_some hlt
      have hxp := procAt_at hx
      have gx : x.steps.length ≤ 9223372036854775807 ∧ ∀ e ∈ x.steps, e.gok := hg x (List.mem_of_getElem? hx)
      refine AW.skipN (fun _ h => h) ?_
      refine AW.seq ?_
      refine AW.block ?_
      refine rg [0,3,4] ?_
      intro k hk; simp -dsimp (maxSteps := 2000000) [go_sem, -decide_eq_true_eq, -decide_eq_false_iff_not, hx]
      repeat' first | apply And.intro | refine hk _ ?_ | intro hg | (refine CallK.intro (dc_spec_l4Fault x.steps gx.1 gx.2) ?_; simp -dsimp (maxSteps := 2000000) [go_sem, -decide_eq_true_eq, -decide_eq_false_iff_not, hx]) | omega | exact True.intro
      all_goals clear hk k
      refine rg [0,3,4,26] ?_
      intro k hk; simp -dsimp [go_sem, -decide_eq_true_eq, -decide_eq_false_iff_not, hx]
      repeat' first | apply And.intro | refine hk _ ?_ | intro hg | omega | exact True.intro
      all_goals clear hk k
      refine AW.cond rfl ?_ ?_
      ·intro hc; try simp at hc
       all_goals (
        refine rg [2] ?_
        intro k hk; simp -dsimp [go_sem, -decide_eq_true_eq, -decide_eq_false_iff_not, hx]
        repeat' first | apply And.intro | refine hk _ ?_ | intro hg | omega | exact True.intro
        all_goals clear hk k
        refine rt ?_
        first | (rw [procsF_ok hR (fun k hk => hall k (by omega))]; simp [go_sem, Tryz.results53]; done) | (rw [procsF_hit hR hlt hall (by rw [hxp]; first | assumption | simpa using hc), hxp]; simp [go_sem, Tryz.results53]; done) | (rw [procsF_len' (by simpa using hc)]; simp [go_sem, Tryz.results53]))
      ·intro hc; try simp at hc
       all_goals (
        refine AW.skipN (fun _ h => h) ?_
        refine rgK ?_
        intro k hk; simp -dsimp [go_sem, -decide_eq_true_eq, -decide_eq_false_iff_not, hx]
        repeat' first | apply And.intro | refine hk _ ?_ | intro hg | omega | exact True.intro
        all_goals clear hk k
        show ∃ _, _
        have hw := wrapi hlt (by omega)
        refine ⟨i + 1, ⟨by omega, upto hall (by rw [hxp]; first | assumption | simpa using hc)⟩, by omega, Less.of rfl (by simp [go_sem, hw]) (by simp [go_sem])⟩))
    ·intro hc; try simp at hc
     all_goals (
      refine AW.exitN (fun _ h => h) ?_
      refine rgA [2] ?_
      refine rt ?_
      first | (rw [procsF_ok hR (fun k hk => hall k (by omega))]; simp [go_sem, Tryz.results53]; done) | (rw [procsF_hit hR hlt hall (by rw [hxp]; first | assumption | simpa using hc), hxp]; simp [go_sem, Tryz.results53]; done) | (rw [procsF_len' (by simpa using hc)]; simp [go_sem, Tryz.results53])))

/-- spec.l11Fault -/
theorem dc_spec_l11Fault (e : TEngine) (hg : e.gok) : DC Tryz.prog 33 [.ip e.ro] (.int .i64 (engF e)) [] := by
 obtain ⟨⟨g0, g1⟩, ⟨g2, g3⟩⟩ := hg
 have hwp : e.procs.length ≤ 3 → IntKind.wrap .i64 ((e.procs.length : Int) - 1) = (e.procs.length : Int) - 1 := fun h => wrap64 (by omega) (by omega)
 refine DC.intro tiOk Tryz.func33 rfl rfl rfl rfl rfl rfl rfl rfl [] ?_
 refine rgA [0] ?_
 refine AW.seq ?_
 refine rgA [0,12] ?_
 refine AW.cond rfl ?_ ?_
 ·intro hc; try simp at hc
  all_goals (
   refine rgA [2] ?_
   refine rt ?_
   first | (rw [engF_ok q1 q2 q3 (fun k hk => hall k (by omega))]; simp [go_sem, Tryz.results33]; done) | (have hv : instF e x = chartF y.steps x.chart := (by rw [instF_eq, hys]; grind); rw [engF_hit q1 q2 q3 hlt hall (by rw [hxi, hv]; first | assumption | simpa using hc), hxi, hv]; simp [go_sem, Tryz.results33]; done) | (have hv : instF e x = 9 := (by rw [instF_eq, hys]; grind); rw [engF_hit q1 q2 q3 hlt hall (by rw [hxi, hv]; decide), hxi, hv]; simp [go_sem, Tryz.results33]; done) | (have hv : instF e x = 3 := (by rw [instF_eq]; grind); rw [engF_hit q1 q2 q3 hlt hall (by rw [hxi, hv]; decide), hxi, hv]; simp [go_sem, Tryz.results33]; done) | (simp [go_sem, Tryz.results33] at *; unfold engF; grind))
 ·intro hc; try simp at hc
  all_goals (
   refine AW.skipN (fun _ h => h) ?_
   refine AW.seq ?_
   refine rg [0,3] ?_
   intro k hk; simp -dsimp (maxSteps := 2000000) [go_sem, -decide_eq_true_eq, -decide_eq_false_iff_not]
   repeat' first | apply And.intro | refine hk _ ?_ | intro hg | (refine CallK.intro (dc_spec_l11Procs e.procs ⟨g0, g1⟩) ?_; simp -dsimp (maxSteps := 2000000) [go_sem, -decide_eq_true_eq, -decide_eq_false_iff_not]) | omega | exact True.intro
   all_goals clear hk k
   refine rgA [0,3,19] ?_
   refine AW.cond rfl ?_ ?_
   ·intro hc; try simp at hc
    all_goals (
     refine rgA [2] ?_
     refine rt ?_
     first | (rw [engF_ok q1 q2 q3 (fun k hk => hall k (by omega))]; simp [go_sem, Tryz.results33]; done) | (have hv : instF e x = chartF y.steps x.chart := (by rw [instF_eq, hys]; grind); rw [engF_hit q1 q2 q3 hlt hall (by rw [hxi, hv]; first | assumption | simpa using hc), hxi, hv]; simp [go_sem, Tryz.results33]; done) | (have hv : instF e x = 9 := (by rw [instF_eq, hys]; grind); rw [engF_hit q1 q2 q3 hlt hall (by rw [hxi, hv]; decide), hxi, hv]; simp [go_sem, Tryz.results33]; done) | (have hv : instF e x = 3 := (by rw [instF_eq]; grind); rw [engF_hit q1 q2 q3 hlt hall (by rw [hxi, hv]; decide), hxi, hv]; simp [go_sem, Tryz.results33]; done) | (simp [go_sem, Tryz.results33] at *; unfold engF; grind))
   ·intro hc; try simp at hc
    all_goals (
     refine AW.skipN (fun _ h => h) ?_
     refine AW.seq ?_
     refine rg [0,26] ?_
     intro k hk; simp -dsimp (maxSteps := 2000000) [go_sem, -decide_eq_true_eq, -decide_eq_false_iff_not]
     repeat' first | apply And.intro | refine hk _ ?_ | intro hg | (refine CallK.intro (dc_spec_l8Time _) ?_; simp -dsimp (maxSteps := 2000000) [go_sem, -decide_eq_true_eq, -decide_eq_false_iff_not]) | omega | exact True.intro
     all_goals clear hk k
     refine AW.cond rfl ?_ ?_
     ·intro hc; try simp at hc
      all_goals (
       refine rgA [2] ?_
       refine rt ?_
       first | (rw [engF_ok q1 q2 q3 (fun k hk => hall k (by omega))]; simp [go_sem, Tryz.results33]; done) | (have hv : instF e x = chartF y.steps x.chart := (by rw [instF_eq, hys]; grind); rw [engF_hit q1 q2 q3 hlt hall (by rw [hxi, hv]; first | assumption | simpa using hc), hxi, hv]; simp [go_sem, Tryz.results33]; done) | (have hv : instF e x = 9 := (by rw [instF_eq, hys]; grind); rw [engF_hit q1 q2 q3 hlt hall (by rw [hxi, hv]; decide), hxi, hv]; simp [go_sem, Tryz.results33]; done) | (have hv : instF e x = 3 := (by rw [instF_eq]; grind); rw [engF_hit q1 q2 q3 hlt hall (by rw [hxi, hv]; decide), hxi, hv]; simp [go_sem, Tryz.results33]; done) | (simp [go_sem, Tryz.results33] at *; unfold engF; grind))
     ·intro hc; try simp at hc
      all_goals (
       refine AW.skipN (fun _ h => h) ?_
       refine AW.seq ?_
       have q2 : procsF e.procs = 0 := by assumption
       have q1 : ¬ 6 < e.insts.length := by omega
       have q3 : inR e.now 0 1000000 = true := by first | assumption | simpa using hc
       have hR := inR_iff.1 (procsF_zero q2).1
       have hw2 := hwp (by omega)
       refine rgA [0,4] ?_
       refine AW.block ?_
       refine AW.loopI (fun i : Nat => ⟨82, [(0, .ip e.ro), (4, .int .i64 i)], []⟩) (fun i => i ≤ e.insts.length ∧ ∀ k, k < i → instAt e k = 0) (fun i => e.insts.length - i) (0) (by simp) (Less.of rfl (by simp [go_sem]) (by simp [go_sem])) ?_
       rintro i ⟨hi, hall⟩
       refine AW.seq ?_
       refine rgA [0,4,33] ?_
       refine AW.cond rfl ?_ ?_
       ·intro hc; try simp at hc
        all_goals (
         have hlt : i < e.insts.length := by assumption
         obtain ⟨x, hx⟩ := at_some hlt
         have hxi := instAt_at hx
         have gx : x.chart.gok := g3 x (List.mem_of_getElem? hx)
         refine AW.skipN (fun _ h => h) ?_
         refine AW.seq ?_
         refine AW.block ?_
         refine rg [0,4,5] ?_
         intro k hk; simp -dsimp (maxSteps := 2000000) [go_sem, -decide_eq_true_eq, -decide_eq_false_iff_not, hx]
         repeat' first | apply And.intro | refine hk _ ?_ | intro hg | omega | exact True.intro
         all_goals clear hk k
         refine AW.seq ?_
         refine rg [0,4,5,53] ?_
         intro k hk; simp -dsimp (maxSteps := 2000000) [go_sem, -decide_eq_true_eq, -decide_eq_false_iff_not, hx, hw2]
         repeat' first | (refine Chk.keys ?_; simp only [go_sem, List.map_cons, List.map_nil, List.flatMap_cons, List.flatMap_nil, List.flatMap_append, List.append_nil, List.nil_append, List.cons_append]; decide +kernel) | apply And.intro | refine hk _ ?_ | intro hg | (refine CallK.intro (dc_spec_l1In _ _ _) ?_; simp -dsimp (maxSteps := 2000000) [go_sem, -decide_eq_true_eq, -decide_eq_false_iff_not, hx, hw2]) | omega | exact True.intro
         all_goals clear hk k
         refine AW.cond rfl ?_ ?_
         ·intro hc; try simp at hc
          all_goals (
           refine rg [2] ?_
           intro k hk; simp -dsimp [go_sem, -decide_eq_true_eq, -decide_eq_false_iff_not, hx]
           repeat' first | apply And.intro | refine hk _ ?_ | intro hg | omega | exact True.intro
           all_goals clear hk k
           refine rt ?_
           first | (rw [engF_ok q1 q2 q3 (fun k hk => hall k (by omega))]; simp [go_sem, Tryz.results33]; done) | (have hv : instF e x = chartF y.steps x.chart := (by rw [instF_eq, hys]; grind); rw [engF_hit q1 q2 q3 hlt hall (by rw [hxi, hv]; first | assumption | simpa using hc), hxi, hv]; simp [go_sem, Tryz.results33]; done) | (have hv : instF e x = 9 := (by rw [instF_eq, hys]; grind); rw [engF_hit q1 q2 q3 hlt hall (by rw [hxi, hv]; decide), hxi, hv]; simp [go_sem, Tryz.results33]; done) | (have hv : instF e x = 3 := (by rw [instF_eq]; grind); rw [engF_hit q1 q2 q3 hlt hall (by rw [hxi, hv]; decide), hxi, hv]; simp [go_sem, Tryz.results33]; done) | (simp [go_sem, Tryz.results33] at *; unfold engF; grind))
         ·intro hc; try simp at hc
          all_goals (
           refine AW.skipN (fun _ h => h) ?_
           refine AW.seq ?_
           have hpl : inR x.proc 0 ((e.procs.length : Int) - 1) = true := by first | assumption | simpa using hc
           have hpl2 := inR_iff.1 hpl
           obtain ⟨y, hy⟩ := at_some (l := e.procs) (show x.proc.toNat < e.procs.length by omega)
           have hys := stepsOf_at hy
           have gy : y.steps.length ≤ 9223372036854775807 ∧ ∀ e ∈ y.steps, e.gok := g1 y (List.mem_of_getElem? hy)
           refine rg [0,4,5,6] ?_
           intro k hk; simp -dsimp (maxSteps := 2000000) [go_sem, -decide_eq_true_eq, -decide_eq_false_iff_not, hx, hy]
           repeat' first | (refine Chk.keys ?_; simp only [go_sem, List.map_cons, List.map_nil, List.flatMap_cons, List.flatMap_nil, List.flatMap_append, List.append_nil, List.nil_append, List.cons_append]; decide +kernel) | apply And.intro | refine hk _ ?_ | intro hg | (refine CallK.intro (dc_spec_l9Fault y.steps x.chart gy.1 gy.2 gx) ?_; simp -dsimp (maxSteps := 2000000) [go_sem, -decide_eq_true_eq, -decide_eq_false_iff_not, hx, hy]) | omega | exact True.intro
           all_goals clear hk k
           refine rg [0,4,5,6,70] ?_
           intro k hk; simp -dsimp [go_sem, -decide_eq_true_eq, -decide_eq_false_iff_not, hx]
           repeat' first | apply And.intro | refine hk _ ?_ | intro hg | omega | exact True.intro
           all_goals clear hk k
           refine AW.cond rfl ?_ ?_
           ·intro hc; try simp at hc
            all_goals (
             refine rg [2] ?_
             intro k hk; simp -dsimp [go_sem, -decide_eq_true_eq, -decide_eq_false_iff_not, hx]
             repeat' first | apply And.intro | refine hk _ ?_ | intro hg | omega | exact True.intro
             all_goals clear hk k
             refine rt ?_
             first | (rw [engF_ok q1 q2 q3 (fun k hk => hall k (by omega))]; simp [go_sem, Tryz.results33]; done) | (have hv : instF e x = chartF y.steps x.chart := (by rw [instF_eq, hys]; grind); rw [engF_hit q1 q2 q3 hlt hall (by rw [hxi, hv]; first | assumption | simpa using hc), hxi, hv]; simp [go_sem, Tryz.results33]; done) | (have hv : instF e x = 9 := (by rw [instF_eq, hys]; grind); rw [engF_hit q1 q2 q3 hlt hall (by rw [hxi, hv]; decide), hxi, hv]; simp [go_sem, Tryz.results33]; done) | (have hv : instF e x = 3 := (by rw [instF_eq]; grind); rw [engF_hit q1 q2 q3 hlt hall (by rw [hxi, hv]; decide), hxi, hv]; simp [go_sem, Tryz.results33]; done) | (simp [go_sem, Tryz.results33] at *; unfold engF; grind))
           ·intro hc; try simp at hc
            all_goals (
             refine AW.skipN (fun _ h => h) ?_
             refine rg [0,4,81] ?_
             intro k hk; simp -dsimp (maxSteps := 2000000) [go_sem, -decide_eq_true_eq, -decide_eq_false_iff_not, hx]
             repeat' first | (refine Chk.keys ?_; simp only [go_sem, List.map_cons, List.map_nil, List.flatMap_cons, List.flatMap_nil, List.flatMap_append, List.append_nil, List.nil_append, List.cons_append]; decide +kernel) | apply And.intro | refine hk _ ?_ | intro hg | omega | exact True.intro
             all_goals clear hk k
             refine AW.cond rfl ?_ ?_
             ·intro hc; try simp at hc
              all_goals (
               refine rg [2] ?_
               intro k hk; simp -dsimp [go_sem, -decide_eq_true_eq, -decide_eq_false_iff_not, hx]
               repeat' first | apply And.intro | refine hk _ ?_ | intro hg | omega | exact True.intro
               all_goals clear hk k
               refine rt ?_
               first | (rw [engF_ok q1 q2 q3 (fun k hk => hall k (by omega))]; simp [go_sem, Tryz.results33]; done) | (have hv : instF e x = chartF y.steps x.chart := (by rw [instF_eq, hys]; grind); rw [engF_hit q1 q2 q3 hlt hall (by rw [hxi, hv]; first | assumption | simpa using hc), hxi, hv]; simp [go_sem, Tryz.results33]; done) | (have hv : instF e x = 9 := (by rw [instF_eq, hys]; grind); rw [engF_hit q1 q2 q3 hlt hall (by rw [hxi, hv]; decide), hxi, hv]; simp [go_sem, Tryz.results33]; done) | (have hv : instF e x = 3 := (by rw [instF_eq]; grind); rw [engF_hit q1 q2 q3 hlt hall (by rw [hxi, hv]; decide), hxi, hv]; simp [go_sem, Tryz.results33]; done) | (simp [go_sem, Tryz.results33] at *; unfold engF; grind))
             ·intro hc; try simp at hc
              all_goals (
               refine AW.skipN (fun _ h => h) ?_
               refine rgK ?_
               intro k hk; simp -dsimp [go_sem, -decide_eq_true_eq, -decide_eq_false_iff_not, hx]
               repeat' first | apply And.intro | refine hk _ ?_ | intro hg | omega | exact True.intro
               all_goals clear hk k
               show ∃ _, _
               have hw := wrapi hlt (by omega)
               have hz : instF e x = 0 := by rw [instF_eq, hys]; grind
               refine ⟨i + 1, ⟨by omega, upto hall (by rw [hxi]; exact hz)⟩, by omega, Less.of rfl (by simp [go_sem, hw]) (by simp [go_sem])⟩))))
       ·intro hc; try simp at hc
        all_goals (
         refine AW.exitN (fun _ h => h) ?_
         refine rgA [2] ?_
         refine rt ?_
         first | (rw [engF_ok q1 q2 q3 (fun k hk => hall k (by omega))]; simp [go_sem, Tryz.results33]; done) | (have hv : instF e x = chartF y.steps x.chart := (by rw [instF_eq, hys]; grind); rw [engF_hit q1 q2 q3 hlt hall (by rw [hxi, hv]; first | assumption | simpa using hc), hxi, hv]; simp [go_sem, Tryz.results33]; done) | (have hv : instF e x = 9 := (by rw [instF_eq, hys]; grind); rw [engF_hit q1 q2 q3 hlt hall (by rw [hxi, hv]; decide), hxi, hv]; simp [go_sem, Tryz.results33]; done) | (have hv : instF e x = 3 := (by rw [instF_eq]; grind); rw [engF_hit q1 q2 q3 hlt hall (by rw [hxi, hv]; decide), hxi, hv]; simp [go_sem, Tryz.results33]; done) | (simp [go_sem, Tryz.results33] at *; unfold engF; grind)))))

end Go.AM
namespace Go.AM
open Go.Proofs

/-- impl.isUser -/
theorem dc_impl_isUser (n : Int) : DC Tryz.prog 22 [.int .i64 n] (.bool (inR n 1 9)) [] := by
 refine DC.intro tiOk Tryz.func22 rfl rfl rfl rfl rfl rfl rfl rfl [] ?_
 refine rgA [0] ?_
 refine rg [2] ?_
 intro k hk; simp -dsimp (maxSteps := 2000000) [go_sem, -decide_eq_true_eq, -decide_eq_false_iff_not]
 repeat' first | apply And.intro | refine hk _ ?_ | intro hg | (refine CallK.intro (dc_impl_inRange _ _ _) ?_; simp -dsimp (maxSteps := 2000000) [go_sem, -decide_eq_true_eq, -decide_eq_false_iff_not]) | omega | exact True.intro
 all_goals clear hk k
 refine rt ?_
 simp [go_sem, Tryz.results22]

/-- spec.l12User -/
theorem dc_spec_l12User (n : Int) : DC Tryz.prog 16 [.int .i64 n] (.bool (inR n 1 9)) [] := by
 refine DC.intro tiOk Tryz.func16 rfl rfl rfl rfl rfl rfl rfl rfl [] ?_
 refine rgA [0] ?_
 refine rg [2] ?_
 intro k hk; simp -dsimp (maxSteps := 2000000) [go_sem, -decide_eq_true_eq, -decide_eq_false_iff_not]
 repeat' first | apply And.intro | refine hk _ ?_ | intro hg | (refine CallK.intro (dc_spec_l1In _ _ _) ?_; simp -dsimp (maxSteps := 2000000) [go_sem, -decide_eq_true_eq, -decide_eq_false_iff_not]) | omega | exact True.intro
 all_goals clear hk k
 refine rt ?_
 simp [go_sem, Tryz.results16]

/-- cmp.isNaN[int64] -/
theorem dc_cmp_isNaN_int64 (n : Int) : DC Tryz.prog 80 [.int .i64 n] (.bool false) [] := by
 refine DC.intro tiOk Tryz.func80 rfl rfl rfl rfl rfl rfl rfl rfl [] ?_
 refine rgA [0] ?_
 refine rgA [2] ?_
 refine rt ?_
 simp [go_sem, Tryz.results80]

/-- cmp.Compare[int64] -/
theorem dc_cmp_Compare_int64 (a b : Int) : DC Tryz.prog 64 [.int .i64 a, .int .i64 b] (.int .i64 (cmpI a b)) [] := by
 refine DC.intro tiOk Tryz.func64 rfl rfl rfl rfl rfl rfl rfl rfl [] ?_
 refine rgA [0,1] ?_
 refine rg [0,1,5] ?_
 intro k hk; simp -dsimp (maxSteps := 2000000) [go_sem, -decide_eq_true_eq, -decide_eq_false_iff_not]
 repeat' first | apply And.intro | refine hk _ ?_ | intro hg | (refine CallK.intro (dc_cmp_isNaN_int64 _) ?_; simp -dsimp (maxSteps := 2000000) [go_sem, -decide_eq_true_eq, -decide_eq_false_iff_not]) | omega | exact True.intro
 all_goals clear hk k
 refine rg [0,1,5,6] ?_
 intro k hk; simp -dsimp (maxSteps := 2000000) [go_sem, -decide_eq_true_eq, -decide_eq_false_iff_not]
 repeat' first | apply And.intro | refine hk _ ?_ | intro hg | (refine CallK.intro (dc_cmp_isNaN_int64 _) ?_; simp -dsimp (maxSteps := 2000000) [go_sem, -decide_eq_true_eq, -decide_eq_false_iff_not]) | omega | exact True.intro
 all_goals clear hk k
 refine AW.seq ?_
 refine rgA [0,1,6,11] ?_
 refine AW.cond rfl ?_ ?_
 ·intro hc; try simp at hc
  all_goals try (exfalso; first | omega | (simp at hc; done); done)
  all_goals (
   refine AW.seq ?_
   refine rgA [12] ?_
   refine AW.cond rfl ?_ ?_
   ·intro hc; try simp at hc
    all_goals try (exfalso; first | omega | (simp at hc; done); done)
    all_goals (
     refine rgA [4] ?_
     refine rt ?_
     simp [go_sem, Tryz.results64, cmpI] <;> grind)
   ·intro hc; try simp at hc
    all_goals try (exfalso; first | omega | (simp at hc; done); done)
    all_goals (
     refine AW.skipN (fun _ h => h) ?_
     refine rgA [4] ?_
     refine rt ?_
     simp [go_sem, Tryz.results64, cmpI] <;> grind))
 ·intro hc; try simp at hc
  all_goals try (exfalso; first | omega | (simp at hc; done); done)
  all_goals (
   refine AW.skipN (fun _ h => h) ?_
   refine AW.seq ?_
   refine rgA [0,1,13] ?_
   refine AW.cond rfl ?_ ?_
   ·intro hc; try simp at hc
    all_goals try (exfalso; first | omega | (simp at hc; done); done)
    all_goals (
     refine rgA [4] ?_
     refine rt ?_
     simp [go_sem, Tryz.results64, cmpI] <;> grind)
   ·intro hc; try simp at hc
    all_goals try (exfalso; first | omega | (simp at hc; done); done)
    all_goals (
     refine AW.skipN (fun _ h => h) ?_
     refine AW.seq ?_
     refine rgA [0,1,16] ?_
     refine AW.cond rfl ?_ ?_
     ·intro hc; try simp at hc
      all_goals try (exfalso; first | omega | (simp at hc; done); done)
      all_goals (
       refine rgA [4] ?_
       refine rt ?_
       simp [go_sem, Tryz.results64, cmpI] <;> grind)
     ·intro hc; try simp at hc
      all_goals try (exfalso; first | omega | (simp at hc; done); done)
      all_goals (
       refine AW.skipN (fun _ h => h) ?_
       refine AW.seq ?_
       refine rgA [19] ?_
       refine AW.cond rfl ?_ ?_
       ·intro hc; try simp at hc
        all_goals try (exfalso; first | omega | (simp at hc; done); done)
        all_goals (
         refine rgA [4] ?_
         refine rt ?_
         simp [go_sem, Tryz.results64, cmpI] <;> grind)
       ·intro hc; try simp at hc
        all_goals try (exfalso; first | omega | (simp at hc; done); done)
        all_goals (
         refine AW.skipN (fun _ h => h) ?_
         refine rgA [4] ?_
         refine rt ?_
         simp [go_sem, Tryz.results64, cmpI] <;> grind))))

/-- cmp.Or[int] -/
theorem dc_cmp_Or_int (l : List Int) (hl : l.length ≤ 9223372036854775807) : DC Tryz.prog 63 [.isl 1 (l.map I1)] (.int .i64 (firstC l)) [] := by
 refine DC.intro tiOk Tryz.func63 rfl rfl rfl rfl rfl rfl rfl rfl [] ?_
 refine rgA [0] ?_
 refine rgA [0,3] ?_
 refine AW.seq ?_
 refine rgA [3,6,7,8] ?_
 refine AW.block ?_
 refine AW.loopI (fun i : Nat => ⟨18, [(3, .int .i64 0), (6, .isl 1 (l.map I1)), (7, .int .i64 l.length), (8, .int .i64 i)], []⟩) (fun i => i ≤ l.length ∧ firstC l = firstC (l.drop i)) (fun i => l.length - i) (0) (by simp) (Less.of rfl (by simp [go_sem]) (by simp [go_sem])) ?_
 rintro i ⟨hi, hinv⟩
 refine rgA [3,6,7,8,9] ?_
 refine AW.seq ?_
 refine AW.cond rfl ?_ ?_
 ·intro hc; try simp at hc
  all_goals (
   have hlt : i < l.length := by assumption
   obtain ⟨x, hx⟩ := at_some hlt
   refine AW.skipN (fun _ h => h) ?_
   refine AW.seq ?_
   refine AW.block ?_
   refine rg [3,5,6,7,8] ?_
   intro k hk; simp -dsimp [go_sem, -decide_eq_true_eq, -decide_eq_false_iff_not, hx]
   repeat' first | apply And.intro | refine hk _ ?_ | intro hg | omega | exact True.intro
   all_goals clear hk k
   refine rg [3,5,6,7,8,14] ?_
   intro k hk; simp -dsimp [go_sem, -decide_eq_true_eq, -decide_eq_false_iff_not, hx]
   repeat' first | apply And.intro | refine hk _ ?_ | intro hg | omega | exact True.intro
   all_goals clear hk k
   refine AW.cond rfl ?_ ?_
   ·intro hc; try simp at hc
    all_goals (
     refine rg [2] ?_
     intro k hk; simp -dsimp [go_sem, -decide_eq_true_eq, -decide_eq_false_iff_not, hx]
     repeat' first | apply And.intro | refine hk _ ?_ | intro hg | omega | exact True.intro
     all_goals clear hk k
     refine rt ?_
     first | (simp [go_sem, Tryz.results63, hinv, firstC_step hx, *]; done) | (simp [go_sem, Tryz.results63, hinv, firstC_end (show l.length ≤ i by omega)]))
   ·intro hc; try simp at hc
    all_goals (
     refine AW.skipN (fun _ h => h) ?_
     refine rgK ?_
     intro k hk; simp -dsimp [go_sem, -decide_eq_true_eq, -decide_eq_false_iff_not, hx]
     repeat' first | apply And.intro | refine hk _ ?_ | intro hg | omega | exact True.intro
     all_goals clear hk k
     show ∃ _, _
     have hw := wrapi hlt hl
     refine ⟨i + 1, ⟨by omega, ?_⟩, by omega, Less.of rfl (by simp [go_sem, hw]) (by simp [go_sem])⟩
     rw [hinv, firstC_step hx, if_pos (by assumption)]))
 ·intro hc; try simp at hc
  all_goals (
   refine AW.exitN (fun _ h => h) ?_
   refine rgA [2] ?_
   refine rt ?_
   first | (simp [go_sem, Tryz.results63, hinv, firstC_step hx, *]; done) | (simp [go_sem, Tryz.results63, hinv, firstC_end (show l.length ≤ i by omega)]))

/-- impl.compareClaims -/
theorem dc_impl_compareClaims (a b : TClaim) : DC Tryz.prog 43 [.agg a.ro, .agg b.ro] (.int .i64 (firstC [cmpI a.inst b.inst, cmpI a.step b.step])) [] := by
 refine DC.intro tiOk Tryz.func43 rfl rfl rfl rfl rfl rfl rfl rfl [] ?_
 refine rgA [2,3] ?_
 refine rg [4] ?_
 intro k hk; simp -dsimp (maxSteps := 2000000) [go_sem, -decide_eq_true_eq, -decide_eq_false_iff_not]
 repeat' first | (refine Chk.keys ?_; simp only [go_sem, List.map_cons, List.map_nil, List.flatMap_cons, List.flatMap_nil, List.flatMap_append, List.append_nil, List.nil_append, List.cons_append]; decide +kernel) | apply And.intro | refine hk _ ?_ | intro hg | ((first | refine CallK.intro (dc_cmp_Compare_int64 _ _) ?_ | refine CallK.intro (dc_cmp_Or_int [_, _] (by simp)) ?_); simp -dsimp (maxSteps := 2000000) [go_sem, -decide_eq_true_eq, -decide_eq_false_iff_not]) | omega | exact True.intro
 all_goals clear hk k
 refine rt ?_
 simp [go_sem, Tryz.results43]

/-- spec.l12Ahead -/
theorem dc_spec_l12Ahead (a b : TClaim) : DC Tryz.prog 36 [.agg a.ro, .agg b.ro] (.bool (aheadC a b)) [] := by
 refine DC.intro tiOk Tryz.func36 rfl rfl rfl rfl rfl rfl rfl rfl [] ?_
 refine rgA [2,3] ?_
 refine rg [4] ?_
 intro k hk; simp +contextual -dsimp (maxSteps := 2000000) [go_sem, -decide_eq_true_eq, -decide_eq_false_iff_not]
 repeat' first | apply And.intro | refine hk _ ?_ | (intro hg; try simp only [decide_eq_true_eq, decide_eq_false_iff_not] at hg) | omega | exact True.intro
 all_goals clear hk k
 all_goals (
  refine rt ?_
  simp [go_sem, Tryz.results36, aheadC] <;> grind)

/-- impl.isOnTask -/
theorem dc_impl_isOnTask (p : List TStep) (c : TChart) (s : Int) (hp : p.length ≤ 24) (hla : c.acts.length = p.length) : DC Tryz.prog 62 [.isl 6 (p.map TStep.ro), .agg c.ro, .int .i64 s] (.bool (inR s 0 ((p.length : Int) - 1) && decide ((nS p s.toNat).kind = 2) && decide (actA c s = 1))) [] := by
 have hb : inR s 0 ((p.length : Int) - 1) = true → 0 ≤ s ∧ s < p.length := fun h => by have := inR_iff.1 h; omega
 have hps : inR s 0 ((p.length : Int) - 1) = true → p[s.toNat]? = some (nS p s.toNat) := fun h => by have h1 := hb h; obtain ⟨y, hy⟩ := at_some (l := p) (show s.toNat < p.length by omega); rw [nS_at hy]; exact hy
 have hcs : inR s 0 ((p.length : Int) - 1) = true → c.acts[s.toNat]? = some (actA c s) := fun h => actA_at (by have := hb h; omega)
 have hwp : IntKind.wrap .i64 ((p.length : Int) - 1) = (p.length : Int) - 1 := wrap64 (by omega) (by omega)
 refine DC.intro tiOk Tryz.func62 rfl rfl rfl rfl rfl rfl rfl rfl [] ?_
 refine rg [0,2,4] ?_
 intro k hk; simp -dsimp [go_sem, -decide_eq_true_eq, -decide_eq_false_iff_not, hps, hcs, hwp]
 repeat' first | apply And.intro | refine hk _ ?_ | intro hg | omega | exact True.intro | (refine And.elim (fun h8 h9 => ?_) (hb ?_) <;> first | assumption | omega) | fail
 all_goals clear hk k
 refine rg [6] ?_
 intro k hk; simp +contextual -dsimp (maxSteps := 2000000) [go_sem, -decide_eq_true_eq, -decide_eq_false_iff_not, hps, hcs, hwp]
 repeat' first | apply And.intro | refine hk _ ?_ | (intro hg; try simp only [decide_eq_true_eq, decide_eq_false_iff_not] at hg) | (refine CallK.intro (dc_impl_isPlace _ _ (by omega)) ?_; simp +contextual -dsimp (maxSteps := 2000000) [go_sem, -decide_eq_true_eq, -decide_eq_false_iff_not, hps, hcs, hwp]) | omega | exact True.intro | (refine And.elim (fun h8 h9 => ?_) (hb ?_) <;> first | assumption | omega) | fail
 all_goals clear hk k
 all_goals (
  refine rt ?_
  simp [go_sem, Tryz.results62, *])

/-- (impl.Engine).isOpen -/
theorem dc_impl_Engine_isOpen (e : TEngine) (k : Nat) (x : TInst) (y : TProc) (s : Int) (hx : e.insts[k]? = some x) (h0 : 0 ≤ x.proc) (hy : e.procs[x.proc.toNat]? = some y) (hp : y.steps.length ≤ 24) (hla : x.chart.acts.length = y.steps.length) : DC Tryz.prog 42 [.agg e.ro, .int .i64 (k : Nat), .int .i64 s] (.bool (openT e (k : Int) s)) [] := by
 have hk := at_lt hx
 have hkp := at_lt hy
 refine DC.intro tiOk Tryz.func42 rfl rfl rfl rfl rfl rfl rfl rfl [] ?_
 refine rg [1,2,3] ?_
 intro k hk; simp -dsimp [go_sem, -decide_eq_true_eq, -decide_eq_false_iff_not, hx, hy]
 repeat' first | apply And.intro | refine hk _ ?_ | intro hg | omega | exact True.intro
 all_goals clear hk k
 refine rg [2,3,7] ?_
 intro k hk; simp -dsimp (maxSteps := 2000000) [go_sem, -decide_eq_true_eq, -decide_eq_false_iff_not, hx, hy]
 repeat' first | apply And.intro | refine hk _ ?_ | intro hg | omega | exact True.intro
 all_goals clear hk k
 refine rg [6] ?_
 intro k hk; simp -dsimp (maxSteps := 2000000) [go_sem, -decide_eq_true_eq, -decide_eq_false_iff_not, hx, hy]
 repeat' first | (refine Chk.keys ?_; simp only [go_sem, List.map_cons, List.map_nil, List.flatMap_cons, List.flatMap_nil, List.flatMap_append, List.append_nil, List.nil_append, List.cons_append]; decide +kernel) | apply And.intro | refine hk _ ?_ | intro hg | ((first | refine CallK.intro (dc_impl_Engine_steps e x h0 y hy) ?_ | refine CallK.intro (dc_impl_isOnTask y.steps x.chart s hp hla) ?_); simp -dsimp (maxSteps := 2000000) [go_sem, -decide_eq_true_eq, -decide_eq_false_iff_not, hx, hy]) | omega | exact True.intro
 all_goals clear hk k
 refine rt ?_
 rw [openT_at hx hy]; simp [go_sem, Tryz.results42]

/-- spec.l12Open -/
theorem dc_spec_l12Open (e : TEngine) (k : Nat) (x : TInst) (y : TProc) (s : Int) (hx : e.insts[k]? = some x) (h0 : 0 ≤ x.proc) (hy : e.procs[x.proc.toNat]? = some y) (hp : y.steps.length ≤ 24) (hla : x.chart.acts.length = y.steps.length) : DC Tryz.prog 35 [.ip e.ro, .int .i64 (k : Nat), .int .i64 s] (.bool (openT e (k : Int) s)) [] := by
 have hk := at_lt hx
 have hkp := at_lt hy
 have hb : inR s 0 ((y.steps.length : Int) - 1) = true → 0 ≤ s ∧ s < y.steps.length := fun h => by have := inR_iff.1 h; omega
 have hps : inR s 0 ((y.steps.length : Int) - 1) = true → y.steps[s.toNat]? = some (nS y.steps s.toNat) := fun h => by have h1 := hb h; obtain ⟨u, hu⟩ := at_some (l := y.steps) (show s.toNat < y.steps.length by omega); rw [nS_at hu]; exact hu
 have hcs : inR s 0 ((y.steps.length : Int) - 1) = true → x.chart.acts[s.toNat]? = some (actA x.chart s) := fun h => actA_at (by have := hb h; omega)
 have hwp : IntKind.wrap .i64 ((y.steps.length : Int) - 1) = (y.steps.length : Int) - 1 := wrap64 (by omega) (by omega)
 refine DC.intro tiOk Tryz.func35 rfl rfl rfl rfl rfl rfl rfl rfl [] ?_
 refine rg [0,1,2] ?_
 intro k hk; simp -dsimp [go_sem, -decide_eq_true_eq, -decide_eq_false_iff_not, hx, hy, hps, hcs, hwp]
 repeat' first | apply And.intro | refine hk _ ?_ | intro hg | omega | exact True.intro | (refine And.elim (fun h8 h9 => ?_) (hb ?_) <;> first | assumption | omega) | fail
 all_goals clear hk k
 refine rg [0,2,7] ?_
 intro k hk; simp -dsimp (maxSteps := 2000000) [go_sem, -decide_eq_true_eq, -decide_eq_false_iff_not, hx, hy, hps, hcs, hwp]
 repeat' first | apply And.intro | refine hk _ ?_ | intro hg | omega | exact True.intro | (refine And.elim (fun h8 h9 => ?_) (hb ?_) <;> first | assumption | omega) | fail
 all_goals clear hk k
 refine rg [2,7,8] ?_
 intro k hk; simp -dsimp (maxSteps := 2000000) [go_sem, -decide_eq_true_eq, -decide_eq_false_iff_not, hx, hy, hps, hcs, hwp]
 repeat' first | (refine Chk.keys ?_; simp only [go_sem, List.map_cons, List.map_nil, List.flatMap_cons, List.flatMap_nil, List.flatMap_append, List.append_nil, List.nil_append, List.cons_append]; decide +kernel) | apply And.intro | refine hk _ ?_ | intro hg | omega | exact True.intro | (refine And.elim (fun h8 h9 => ?_) (hb ?_) <;> first | assumption | omega) | fail
 all_goals clear hk k
 refine rg [6] ?_
 intro k hk; simp +contextual -dsimp (maxSteps := 2000000) [go_sem, -decide_eq_true_eq, -decide_eq_false_iff_not, hx, hy, hps, hcs, hwp]
 repeat' first | apply And.intro | refine hk _ ?_ | (intro hg; try simp only [decide_eq_true_eq, decide_eq_false_iff_not] at hg) | (refine CallK.intro (dc_spec_l1In _ _ _) ?_; simp +contextual -dsimp (maxSteps := 2000000) [go_sem, -decide_eq_true_eq, -decide_eq_false_iff_not, hx, hy, hps, hcs, hwp]) | omega | exact True.intro | (refine And.elim (fun h8 h9 => ?_) (hb ?_) <;> first | assumption | omega) | fail
 all_goals clear hk k
 all_goals (
  refine rt ?_
  rw [openT_at hx hy]; simp [go_sem, Tryz.results35, *])

end Go.AM
