/- Joined texts: G7 F3 F4 F6 F8 G8 G9 Ga Y7p O5 O6 O7 Pt4 Q7 Y8p T4 Ps Pq L24. -/
import Derived.Test.YtajbihmllfodoaaB1
import Derived.Test.YtajbihmllfodoaaB2
import Derived.Test.YtajbihmllfodoaaB3
import Derived.Test.YtajbihmllfodoaaB4
set_option linter.unusedVariables false
set_option linter.unusedSimpArgs false
set_option maxHeartbeats 600000
set_option maxRecDepth 100000
namespace Go.AM
open Go.Proofs

/-- spec.l4Deep -/
theorem dc_spec_l4Deep (p : List TStep) (hp : p.length ≤ 24) (m : Nat) (hm : m ≤ p.length) (hl : ParOk ((pars p).take m)) (a : Int) (ha : -1 ≤ a ∧ a < m) : DC Try.prog 82 [.isl 6 (p.map TStep.ro), .int .i64 a] (.int .i64 (dep ((pars p).take m) a)) [] := by
 have hL : ((pars p).take m).length = m := take_len hm
 have hd1 := dep_small hl (a := a) (by omega)
 refine DC.intro tiOk Try.func82 rfl rfl rfl rfl rfl rfl rfl rfl [] ?_
 refine rgA [0,1] ?_
 refine rgA [0,1,5] ?_
 refine AW.seq ?_
 refine AW.block ?_
 refine AW.loopI (fun j : Int × Int => ⟨20, [(0, .isl 6 (p.map TStep.ro)), (1, .int .i64 j.1), (5, .int .i64 j.2)], []⟩) (fun j => -1 ≤ j.1 ∧ j.1 < m ∧ j.2 + dep ((pars p).take m) j.1 = dep ((pars p).take m) a ∧ 0 ≤ j.2) (fun j => (j.1 + 1).toNat) ((a, 0)) (by refine ⟨by simp only; omega, by simp only; omega, by simp only; omega, by simp only; omega⟩) (Less.of rfl (by simp [go_sem]) (by simp [go_sem])) ?_
 rintro ⟨b, n⟩ ⟨hb1, hb2, hinv, hn0⟩
 simp only at hb1 hb2 hinv hn0
 have hd2 := dep_small hl (a := b) (by omega)
 have hn50 : n < 50 := by omega
 refine AW.seq ?_
 refine AW.cut ⟨20, [(0, .isl 6 (p.map TStep.ro)), (1, .int .i64 b), (5, .int .i64 n), (11, .bool (decide (0 ≤ b)))], []⟩ ?_ ?_
 ·skip
  refine rgK ?_
  intro k hk; simp +contextual -dsimp [go_sem, -decide_eq_true_eq, -decide_eq_false_iff_not]
  repeat' first | apply And.intro | refine hk _ ?_ | (intro hg; try simp only [decide_eq_true_eq, decide_eq_false_iff_not] at hg) | omega | exact True.intro
  all_goals clear hk k
  all_goals (show St.Less _ _; exact Less.of rfl (by simp [go_sem] <;> first | omega | grind) (by simp [go_sem]))
 ·skip
  refine AW.cond rfl ?_ ?_
  ·intro hc; try simp at hc
   all_goals try (exfalso; omega; done)
   all_goals (
    have h0 : 0 ≤ b := by simpa using hc
    obtain ⟨k, hk⟩ : ∃ k : Nat, b = k := ⟨_, (Int.toNat_of_nonneg h0).symm⟩
    subst hk
    obtain ⟨x, hx⟩ := at_some (l := p) (show k < p.length by omega)
    have hpk := hl k (by omega)
    have hpa := pars_at hx (m := m) (by omega)
    rw [hpa] at hpk
    have hde := dep_eq hl h0 (by omega)
    rw [Int.toNat_natCast, hpa] at hde
    have hwn : IntKind.wrap .i64 (n + 1) = n + 1 := wrap64 (by omega) (by omega)
    refine AW.skipN (fun _ h => h) ?_
    refine AW.block ?_
    refine rg [0,1,5] ?_
    intro k hk; simp -dsimp [go_sem, -decide_eq_true_eq, -decide_eq_false_iff_not, hx, hwn]
    repeat' first | apply And.intro | refine hk _ ?_ | intro hg | omega | exact True.intro
    all_goals clear hk k
    refine rgK ?_
    intro k hk; simp -dsimp [go_sem, -decide_eq_true_eq, -decide_eq_false_iff_not, hx, hwn]
    repeat' first | apply And.intro | refine hk _ ?_ | intro hg | omega | exact True.intro
    all_goals clear hk k
    show ∃ _, _
    refine ⟨(x.par, n + 1), ⟨by simp only; omega, by simp only; omega, by simp only; omega, by simp only; omega⟩, by simp only; omega, Less.of rfl (by simp [go_sem]) (by simp [go_sem])⟩)
  ·intro hc; try simp at hc
   all_goals try (exfalso; omega; done)
   all_goals (
    refine AW.exitN (fun _ h => h) ?_
    refine rgA [4] ?_
    refine rt ?_
    have hbn : b < 0 := (by simpa using hc)
    rw [dep_neg hbn] at hinv
    rw [← hinv]
    simp [go_sem, Try.results82])

/-- spec.l4Line -/
theorem dc_spec_l4Line (p : List TStep) (hp : p.length ≤ 24) (i : Nat) (x : TStep) (hx : p[i]? = some x) (h0 : 0 < i) (hl : ParOk ((pars p).take i)) : DC Try.prog 81 [.isl 6 (p.map TStep.ro), .int .i64 (i : Nat)] (.bool (upB ((pars p).take i) ((i : Int) - 1) x.par)) [] := by
 have hi := at_lt hx
 have hL : ((pars p).take i).length = i := take_len (by omega)
 have hwi : IntKind.wrap .i64 ((i : Int) - 1) = (i : Int) - 1 := wrap64 (by omega) (by omega)
 refine DC.intro tiOk Try.func81 rfl rfl rfl rfl rfl rfl rfl rfl [] ?_
 refine rg [0,1] ?_
 intro k hk; simp -dsimp [go_sem, -decide_eq_true_eq, -decide_eq_false_iff_not, hx, hwi]
 repeat' first | apply And.intro | refine hk _ ?_ | intro hg | omega | exact True.intro
 all_goals clear hk k
 refine AW.seq ?_
 refine rg [0,1,5] ?_
 intro k hk; simp -dsimp [go_sem, -decide_eq_true_eq, -decide_eq_false_iff_not, hx, hwi]
 repeat' first | apply And.intro | refine hk _ ?_ | intro hg | omega | exact True.intro
 all_goals clear hk k
 refine AW.block ?_
 refine AW.loopI (fun a : Int => ⟨22, [(0, .isl 6 (p.map TStep.ro)), (1, .int .i64 (i : Nat)), (5, .int .i64 a)], []⟩) (fun a => -1 ≤ a ∧ a < i ∧ upB ((pars p).take i) a x.par = upB ((pars p).take i) ((i : Int) - 1) x.par) (fun a => (a + 1).toNat) ((i : Int) - 1) (by refine ⟨by omega, by omega, rfl⟩) (Less.of rfl (by simp [go_sem]) (by simp [go_sem])) ?_
 rintro a ⟨ha0, ha1, hinv⟩
 refine AW.seq ?_
 refine rg [0,1,5,9] ?_
 intro k hk; simp -dsimp [go_sem, -decide_eq_true_eq, -decide_eq_false_iff_not, hx, hwi]
 repeat' first | apply And.intro | refine hk _ ?_ | intro hg | omega | exact True.intro
 all_goals clear hk k
 refine AW.cond rfl ?_ ?_
 ·intro hc; try simp at hc
  all_goals (
   have h0a : 0 ≤ a := by simpa using hc
   obtain ⟨k, hk⟩ : ∃ k : Nat, a = k := ⟨_, (Int.toNat_of_nonneg h0a).symm⟩
   subst hk
   obtain ⟨y, hy⟩ := at_some (l := p) (show k < p.length by omega)
   have hpk := hl k (by omega)
   have hpa := pars_at hy (m := i) (by omega)
   rw [hpa] at hpk
   refine AW.skipN (fun _ h => h) ?_
   refine AW.seq ?_
   refine AW.block ?_
   refine rg [0,1,5,21] ?_
   intro k hk; simp -dsimp (maxSteps := 2000000) [go_sem, -decide_eq_true_eq, -decide_eq_false_iff_not, hx, hwi, hy]
   repeat' first | apply And.intro | refine hk _ ?_ | intro hg | omega | exact True.intro
   all_goals clear hk k
   refine AW.cond rfl ?_ ?_
   ·intro hc; try simp at hc
    all_goals (
     refine rg [4] ?_
     intro k hk; simp -dsimp [go_sem, -decide_eq_true_eq, -decide_eq_false_iff_not, hx, hwi, hy]
     repeat' first | apply And.intro | refine hk _ ?_ | intro hg | omega | exact True.intro
     all_goals clear hk k
     refine rt ?_
     first | (have hu : upB ((pars p).take i) ((i : Int) - 1) x.par = true := (by rw [← hinv, upB_eq hl h0a (by omega), if_pos (by first | assumption | simpa using hc)]); simp [go_sem, Try.results81, hu]; done) | (have hu : upB ((pars p).take i) ((i : Int) - 1) x.par = false := (by rw [← hinv]; exact upB_neg (by omega)); simp [go_sem, Try.results81, hu]))
   ·intro hc; try simp at hc
    all_goals (
     refine AW.skipN (fun _ h => h) ?_
     refine rgK ?_
     intro k hk; simp -dsimp [go_sem, -decide_eq_true_eq, -decide_eq_false_iff_not, hx, hwi, hy]
     repeat' first | apply And.intro | refine hk _ ?_ | intro hg | omega | exact True.intro
     all_goals clear hk k
     show ∃ _, _
     refine ⟨y.par, ⟨by omega, by omega, ?_⟩, by omega, Less.of rfl (by simp [go_sem]) (by simp [go_sem])⟩
     rw [← hinv, upB_eq hl h0a (by omega), if_neg (by first | assumption | simpa using hc), Int.toNat_natCast, hpa]))
 ·intro hc; try simp at hc
  all_goals (
   refine AW.exitN (fun _ h => h) ?_
   refine rg [4] ?_
   intro k hk; simp -dsimp [go_sem, -decide_eq_true_eq, -decide_eq_false_iff_not, hx, hwi]
   repeat' first | apply And.intro | refine hk _ ?_ | intro hg | omega | exact True.intro
   all_goals clear hk k
   refine rt ?_
   first | (have hu : upB ((pars p).take i) ((i : Int) - 1) x.par = true := (by rw [← hinv, upB_eq hl h0a (by omega), if_pos (by first | assumption | simpa using hc)]); simp [go_sem, Try.results81, hu]; done) | (have hu : upB ((pars p).take i) ((i : Int) - 1) x.par = false := (by rw [← hinv]; exact upB_neg (by omega)); simp [go_sem, Try.results81, hu]))

end Go.AM
namespace Go.AM
open Go.Proofs

/-- spec.l3Walk -/
theorem dc_spec_l3Walk_n (e : List TNode) (hP : PartsOk e e.length) (h16 : e.length ≤ 16) (i : Nat) (hi : i < e.length) (ihn : ∀ j : Nat, j < i → DC Try.prog 110 [.isl 4 (e.map TNode.ro), .int .i64 ((j : Nat) : Int), .nils] (.osl 1 ((wkF e j []).map N1)) []) (iho : ∀ j : Nat, j < i → ∀ out : List Nat, out.length ≤ 40 → DC Try.prog 110 [.isl 4 (e.map TNode.ro), .int .i64 ((j : Nat) : Int), .osl 1 (out.map N1)] (.osl 1 ((wkF e j out).map N1)) []) : DC Try.prog 110 [.isl 4 (e.map TNode.ro), .int .i64 ((i : Nat) : Int), .nils] (.osl 1 ((wkF e i []).map N1)) [] := by
 obtain ⟨x, hx⟩ := at_some hi
 have hxA := nA_at hx
 have hpx := hP i hi
 rw [nodeAt_at hx] at hpx
 have hq := nodeF_parts hpx
 refine DC.intro tiOk Try.func110 rfl rfl rfl rfl rfl rfl rfl rfl [1000] ?_
 refine rg [0,1,2] ?_
 intro k hk; simp -dsimp [go_sem, -decide_eq_true_eq, -decide_eq_false_iff_not, hx, hxA]
 repeat' first | apply And.intro | refine hk _ ?_ | intro hg | omega | exact True.intro
 all_goals clear hk k
 refine AW.seq ?_
 refine rg [0,1,2,9] ?_
 intro k hk; simp -dsimp [go_sem, -decide_eq_true_eq, -decide_eq_false_iff_not, hx, hxA]
 repeat' first | apply And.intro | refine hk _ ?_ | intro hg | omega | exact True.intro
 all_goals clear hk k
 refine AW.cond rfl ?_ ?_
 ·intro hc; try simp at hc
  all_goals try (exfalso; first | omega | (have hk9 := inR_iff.1 hc; omega); done)
  all_goals (
   refine rg [6] ?_
   intro k hk; simp -dsimp [go_sem, -decide_eq_true_eq, -decide_eq_false_iff_not, hx, hxA]
   repeat' first | apply And.intro | refine hk _ ?_ | intro hg | omega | exact True.intro
   all_goals clear hk k
   refine rt ?_
   rw [wkF_eq hP hi]; (try (first | rw [if_neg (show ¬ 16 < out.length by omega)] | rw [if_pos (show 16 < out.length by omega)])); simp [go_sem, Try.results110, *] <;> first | (intro h9; omega) | (simp_all; done) | omega | grind)
 ·intro hc; try simp at hc
  all_goals try (exfalso; first | omega | (have hk9 := inR_iff.1 hc; omega); done)
  all_goals (
   refine AW.skipN (fun _ h => h) ?_
   refine AW.seq ?_
   refine rg [0,1,2,16] ?_
   intro k hk; simp -dsimp [go_sem, -decide_eq_true_eq, -decide_eq_false_iff_not, hx, hxA]
   repeat' first | apply And.intro | refine hk _ ?_ | intro hg | omega | exact True.intro
   all_goals clear hk k
   refine AW.cond rfl ?_ ?_
   ·intro hc; try simp at hc
    all_goals try (exfalso; first | omega | (have hk9 := inR_iff.1 hc; omega); done)
    all_goals (
     have hk0 : 2 < x.kind := by simpa using hc
     have hl := left_of hpx hk0
     obtain ⟨a, ha⟩ : ∃ a : Nat, x.left = a := ⟨_, (Int.toNat_of_nonneg hl.1).symm⟩
     have hla : x.left.toNat = a := by omega
     have hwa := wkF_len (e := e) (i := a) (out := []) (by first | assumption | simp) (by omega)
     refine AW.regN tiOk (fun i => if i = 7 then [2] else []) [0,1,2] (fun _ h => h) ?_
     intro k hk; simp -dsimp (maxSteps := 2000000) [go_sem, -decide_eq_true_eq, -decide_eq_false_iff_not, hx, hxA, ha]
     repeat' first | apply And.intro | refine hk _ ?_ | intro hg | ((first | refine CallK.intro (ihn a (by omega)) ?_ | refine CallK.intro (iho b (by omega) _ hwa) ?_); simp -dsimp (maxSteps := 2000000) [go_sem, -decide_eq_true_eq, -decide_eq_false_iff_not, hx, hxA, ha]) | omega | exact True.intro
     all_goals clear hk k
     refine AW.seq ?_
     refine rg [0,1,2,30] ?_
     intro k hk; simp -dsimp (maxSteps := 2000000) [go_sem, -decide_eq_true_eq, -decide_eq_false_iff_not, hx, hxA]
     repeat' first | apply And.intro | refine hk _ ?_ | intro hg | (refine CallK.intro (dc_spec_l3Two _) ?_; simp -dsimp (maxSteps := 2000000) [go_sem, -decide_eq_true_eq, -decide_eq_false_iff_not, hx, hxA]) | omega | exact True.intro
     all_goals clear hk k
     refine AW.cond rfl ?_ ?_
     ·intro hc; try simp at hc
      all_goals try (exfalso; first | omega | (have hk9 := inR_iff.1 hc; omega); done)
      all_goals (
       have hk2 : isTwoB x.kind = true := by simpa using hc
       have hr := hq.2.1 hk2
       have hk3 := inR_iff.1 hk2
       obtain ⟨b, hb⟩ : ∃ b : Nat, x.right = b := ⟨_, (Int.toNat_of_nonneg hr.2.2.1).symm⟩
       have hrb : x.right.toNat = b := by omega
       refine AW.regN tiOk (fun i => if i = 7 then [2] else []) [1,2] (fun _ h => h) ?_
       intro k hk; simp -dsimp (maxSteps := 2000000) [go_sem, -decide_eq_true_eq, -decide_eq_false_iff_not, hx, hxA, hb]
       repeat' first | apply And.intro | refine hk _ ?_ | intro hg | ((first | refine CallK.intro (ihn a (by omega)) ?_ | refine CallK.intro (iho b (by omega) _ hwa) ?_); simp -dsimp (maxSteps := 2000000) [go_sem, -decide_eq_true_eq, -decide_eq_false_iff_not, hx, hxA, hb]) | omega | exact True.intro
       all_goals clear hk k
       try (have hwb := wkF_len (e := e) (i := b) hwa (by omega))
       refine rg [6] ?_
       intro k hk; simp -dsimp [go_sem, -decide_eq_true_eq, -decide_eq_false_iff_not, hx, hxA]
       repeat' first | apply And.intro | refine hk _ ?_ | intro hg | omega | exact True.intro
       all_goals clear hk k
       refine rt ?_
       rw [wkF_eq hP hi]; (try (first | rw [if_neg (show ¬ 16 < out.length by omega)] | rw [if_pos (show 16 < out.length by omega)])); simp [go_sem, Try.results110, *] <;> first | (intro h9; omega) | (simp_all; done) | omega | grind)
     ·intro hc; try simp at hc
      all_goals try (exfalso; first | omega | (have hk9 := inR_iff.1 hc; omega); done)
      all_goals (
       refine AW.skipN (fun _ h => h) ?_
       try (have hwb := wkF_len (e := e) (i := b) hwa (by omega))
       refine rg [6] ?_
       intro k hk; simp -dsimp [go_sem, -decide_eq_true_eq, -decide_eq_false_iff_not, hx, hxA]
       repeat' first | apply And.intro | refine hk _ ?_ | intro hg | omega | exact True.intro
       all_goals clear hk k
       refine rt ?_
       rw [wkF_eq hP hi]; (try (first | rw [if_neg (show ¬ 16 < out.length by omega)] | rw [if_pos (show 16 < out.length by omega)])); simp [go_sem, Try.results110, *] <;> first | (intro h9; omega) | (simp_all; done) | omega | grind))
   ·intro hc; try simp at hc
    all_goals try (exfalso; first | omega | (have hk9 := inR_iff.1 hc; omega); done)
    all_goals (
     refine AW.skipN (fun _ h => h) ?_
     refine AW.seq ?_
     refine rg [0,1,2,30] ?_
     intro k hk; simp -dsimp (maxSteps := 2000000) [go_sem, -decide_eq_true_eq, -decide_eq_false_iff_not, hx, hxA]
     repeat' first | apply And.intro | refine hk _ ?_ | intro hg | (refine CallK.intro (dc_spec_l3Two _) ?_; simp -dsimp (maxSteps := 2000000) [go_sem, -decide_eq_true_eq, -decide_eq_false_iff_not, hx, hxA]) | omega | exact True.intro
     all_goals clear hk k
     refine AW.cond rfl ?_ ?_
     ·intro hc; try simp at hc
      all_goals try (exfalso; first | omega | (have hk9 := inR_iff.1 hc; omega); done)
      all_goals (
       have hk2 : isTwoB x.kind = true := by simpa using hc
       have hr := hq.2.1 hk2
       have hk3 := inR_iff.1 hk2
       obtain ⟨b, hb⟩ : ∃ b : Nat, x.right = b := ⟨_, (Int.toNat_of_nonneg hr.2.2.1).symm⟩
       have hrb : x.right.toNat = b := by omega
       refine AW.regN tiOk (fun i => if i = 7 then [2] else []) [1,2] (fun _ h => h) ?_
       intro k hk; simp -dsimp (maxSteps := 2000000) [go_sem, -decide_eq_true_eq, -decide_eq_false_iff_not, hx, hxA, hb]
       repeat' first | apply And.intro | refine hk _ ?_ | intro hg | ((first | refine CallK.intro (ihn a (by omega)) ?_ | refine CallK.intro (iho b (by omega) _ hwa) ?_); simp -dsimp (maxSteps := 2000000) [go_sem, -decide_eq_true_eq, -decide_eq_false_iff_not, hx, hxA, hb]) | omega | exact True.intro
       all_goals clear hk k
       try (have hwb := wkF_len (e := e) (i := b) hwa (by omega))
       refine rg [6] ?_
       intro k hk; simp -dsimp [go_sem, -decide_eq_true_eq, -decide_eq_false_iff_not, hx, hxA]
       repeat' first | apply And.intro | refine hk _ ?_ | intro hg | omega | exact True.intro
       all_goals clear hk k
       refine rt ?_
       rw [wkF_eq hP hi]; (try (first | rw [if_neg (show ¬ 16 < out.length by omega)] | rw [if_pos (show 16 < out.length by omega)])); simp [go_sem, Try.results110, *] <;> first | (intro h9; omega) | (simp_all; done) | omega | grind)
     ·intro hc; try simp at hc
      all_goals try (exfalso; first | omega | (have hk9 := inR_iff.1 hc; omega); done)
      all_goals (
       refine AW.skipN (fun _ h => h) ?_
       try (have hwb := wkF_len (e := e) (i := b) hwa (by omega))
       refine rg [6] ?_
       intro k hk; simp -dsimp [go_sem, -decide_eq_true_eq, -decide_eq_false_iff_not, hx, hxA]
       repeat' first | apply And.intro | refine hk _ ?_ | intro hg | omega | exact True.intro
       all_goals clear hk k
       refine rt ?_
       rw [wkF_eq hP hi]; (try (first | rw [if_neg (show ¬ 16 < out.length by omega)] | rw [if_pos (show 16 < out.length by omega)])); simp [go_sem, Try.results110, *] <;> first | (intro h9; omega) | (simp_all; done) | omega | grind)))

/-- spec.l3Walk -/
theorem dc_spec_l3Walk_o (e : List TNode) (hP : PartsOk e e.length) (h16 : e.length ≤ 16) (i : Nat) (hi : i < e.length) (out : List Nat) (ho : out.length ≤ 40) (ihn : ∀ j : Nat, j < i → DC Try.prog 110 [.isl 4 (e.map TNode.ro), .int .i64 ((j : Nat) : Int), .nils] (.osl 1 ((wkF e j []).map N1)) []) (iho : ∀ j : Nat, j < i → ∀ out : List Nat, out.length ≤ 40 → DC Try.prog 110 [.isl 4 (e.map TNode.ro), .int .i64 ((j : Nat) : Int), .osl 1 (out.map N1)] (.osl 1 ((wkF e j out).map N1)) []) : DC Try.prog 110 [.isl 4 (e.map TNode.ro), .int .i64 ((i : Nat) : Int), .osl 1 (out.map N1)] (.osl 1 ((wkF e i out).map N1)) [] := by
 obtain ⟨x, hx⟩ := at_some hi
 have hxA := nA_at hx
 have hpx := hP i hi
 rw [nodeAt_at hx] at hpx
 have hq := nodeF_parts hpx
 refine DC.intro tiOk Try.func110 rfl rfl rfl rfl rfl rfl rfl rfl [1000] ?_
 refine rg [0,1,2] ?_
 intro k hk; simp -dsimp [go_sem, -decide_eq_true_eq, -decide_eq_false_iff_not, hx, hxA]
 repeat' first | apply And.intro | refine hk _ ?_ | intro hg | omega | exact True.intro
 all_goals clear hk k
 refine AW.seq ?_
 refine rg [0,1,2,9] ?_
 intro k hk; simp -dsimp [go_sem, -decide_eq_true_eq, -decide_eq_false_iff_not, hx, hxA]
 repeat' first | apply And.intro | refine hk _ ?_ | intro hg | omega | exact True.intro
 all_goals clear hk k
 refine AW.cond rfl ?_ ?_
 ·intro hc; try simp at hc
  all_goals try (exfalso; first | omega | (have hk9 := inR_iff.1 hc; omega); done)
  all_goals (
   refine rg [6] ?_
   intro k hk; simp -dsimp [go_sem, -decide_eq_true_eq, -decide_eq_false_iff_not, hx, hxA]
   repeat' first | apply And.intro | refine hk _ ?_ | intro hg | omega | exact True.intro
   all_goals clear hk k
   refine rt ?_
   rw [wkF_eq hP hi]; (try (first | rw [if_neg (show ¬ 16 < out.length by omega)] | rw [if_pos (show 16 < out.length by omega)])); simp [go_sem, Try.results110, *] <;> first | (intro h9; omega) | (simp_all; done) | omega | grind)
 ·intro hc; try simp at hc
  all_goals try (exfalso; first | omega | (have hk9 := inR_iff.1 hc; omega); done)
  all_goals (
   refine AW.skipN (fun _ h => h) ?_
   refine AW.seq ?_
   refine rg [0,1,2,16] ?_
   intro k hk; simp -dsimp [go_sem, -decide_eq_true_eq, -decide_eq_false_iff_not, hx, hxA]
   repeat' first | apply And.intro | refine hk _ ?_ | intro hg | omega | exact True.intro
   all_goals clear hk k
   refine AW.cond rfl ?_ ?_
   ·intro hc; try simp at hc
    all_goals try (exfalso; first | omega | (have hk9 := inR_iff.1 hc; omega); done)
    all_goals (
     have hk0 : 2 < x.kind := by simpa using hc
     have hl := left_of hpx hk0
     obtain ⟨a, ha⟩ : ∃ a : Nat, x.left = a := ⟨_, (Int.toNat_of_nonneg hl.1).symm⟩
     have hla : x.left.toNat = a := by omega
     have hwa := wkF_len (e := e) (i := a) (out := out) (by first | assumption | simp) (by omega)
     refine AW.regN tiOk (fun i => if i = 7 then [2] else []) [0,1,2] (fun _ h => h) ?_
     intro k hk; simp -dsimp (maxSteps := 2000000) [go_sem, -decide_eq_true_eq, -decide_eq_false_iff_not, hx, hxA, ha]
     repeat' first | apply And.intro | refine hk _ ?_ | intro hg | ((first | refine CallK.intro (iho a (by omega) _ ho) ?_ | refine CallK.intro (iho b (by omega) _ hwa) ?_); simp -dsimp (maxSteps := 2000000) [go_sem, -decide_eq_true_eq, -decide_eq_false_iff_not, hx, hxA, ha]) | omega | exact True.intro
     all_goals clear hk k
     refine AW.seq ?_
     refine rg [0,1,2,30] ?_
     intro k hk; simp -dsimp (maxSteps := 2000000) [go_sem, -decide_eq_true_eq, -decide_eq_false_iff_not, hx, hxA]
     repeat' first | apply And.intro | refine hk _ ?_ | intro hg | (refine CallK.intro (dc_spec_l3Two _) ?_; simp -dsimp (maxSteps := 2000000) [go_sem, -decide_eq_true_eq, -decide_eq_false_iff_not, hx, hxA]) | omega | exact True.intro
     all_goals clear hk k
     refine AW.cond rfl ?_ ?_
     ·intro hc; try simp at hc
      all_goals try (exfalso; first | omega | (have hk9 := inR_iff.1 hc; omega); done)
      all_goals (
       have hk2 : isTwoB x.kind = true := by simpa using hc
       have hr := hq.2.1 hk2
       have hk3 := inR_iff.1 hk2
       obtain ⟨b, hb⟩ : ∃ b : Nat, x.right = b := ⟨_, (Int.toNat_of_nonneg hr.2.2.1).symm⟩
       have hrb : x.right.toNat = b := by omega
       refine AW.regN tiOk (fun i => if i = 7 then [2] else []) [1,2] (fun _ h => h) ?_
       intro k hk; simp -dsimp (maxSteps := 2000000) [go_sem, -decide_eq_true_eq, -decide_eq_false_iff_not, hx, hxA, hb]
       repeat' first | apply And.intro | refine hk _ ?_ | intro hg | ((first | refine CallK.intro (iho a (by omega) _ ho) ?_ | refine CallK.intro (iho b (by omega) _ hwa) ?_); simp -dsimp (maxSteps := 2000000) [go_sem, -decide_eq_true_eq, -decide_eq_false_iff_not, hx, hxA, hb]) | omega | exact True.intro
       all_goals clear hk k
       try (have hwb := wkF_len (e := e) (i := b) hwa (by omega))
       refine rg [6] ?_
       intro k hk; simp -dsimp [go_sem, -decide_eq_true_eq, -decide_eq_false_iff_not, hx, hxA]
       repeat' first | apply And.intro | refine hk _ ?_ | intro hg | omega | exact True.intro
       all_goals clear hk k
       refine rt ?_
       rw [wkF_eq hP hi]; (try (first | rw [if_neg (show ¬ 16 < out.length by omega)] | rw [if_pos (show 16 < out.length by omega)])); simp [go_sem, Try.results110, *] <;> first | (intro h9; omega) | (simp_all; done) | omega | grind)
     ·intro hc; try simp at hc
      all_goals try (exfalso; first | omega | (have hk9 := inR_iff.1 hc; omega); done)
      all_goals (
       refine AW.skipN (fun _ h => h) ?_
       try (have hwb := wkF_len (e := e) (i := b) hwa (by omega))
       refine rg [6] ?_
       intro k hk; simp -dsimp [go_sem, -decide_eq_true_eq, -decide_eq_false_iff_not, hx, hxA]
       repeat' first | apply And.intro | refine hk _ ?_ | intro hg | omega | exact True.intro
       all_goals clear hk k
       refine rt ?_
       rw [wkF_eq hP hi]; (try (first | rw [if_neg (show ¬ 16 < out.length by omega)] | rw [if_pos (show 16 < out.length by omega)])); simp [go_sem, Try.results110, *] <;> first | (intro h9; omega) | (simp_all; done) | omega | grind))
   ·intro hc; try simp at hc
    all_goals try (exfalso; first | omega | (have hk9 := inR_iff.1 hc; omega); done)
    all_goals (
     refine AW.skipN (fun _ h => h) ?_
     refine AW.seq ?_
     refine rg [0,1,2,30] ?_
     intro k hk; simp -dsimp (maxSteps := 2000000) [go_sem, -decide_eq_true_eq, -decide_eq_false_iff_not, hx, hxA]
     repeat' first | apply And.intro | refine hk _ ?_ | intro hg | (refine CallK.intro (dc_spec_l3Two _) ?_; simp -dsimp (maxSteps := 2000000) [go_sem, -decide_eq_true_eq, -decide_eq_false_iff_not, hx, hxA]) | omega | exact True.intro
     all_goals clear hk k
     refine AW.cond rfl ?_ ?_
     ·intro hc; try simp at hc
      all_goals try (exfalso; first | omega | (have hk9 := inR_iff.1 hc; omega); done)
      all_goals (
       have hk2 : isTwoB x.kind = true := by simpa using hc
       have hr := hq.2.1 hk2
       have hk3 := inR_iff.1 hk2
       obtain ⟨b, hb⟩ : ∃ b : Nat, x.right = b := ⟨_, (Int.toNat_of_nonneg hr.2.2.1).symm⟩
       have hrb : x.right.toNat = b := by omega
       refine AW.regN tiOk (fun i => if i = 7 then [2] else []) [1,2] (fun _ h => h) ?_
       intro k hk; simp -dsimp (maxSteps := 2000000) [go_sem, -decide_eq_true_eq, -decide_eq_false_iff_not, hx, hxA, hb]
       repeat' first | apply And.intro | refine hk _ ?_ | intro hg | ((first | refine CallK.intro (iho a (by omega) _ ho) ?_ | refine CallK.intro (iho b (by omega) _ hwa) ?_); simp -dsimp (maxSteps := 2000000) [go_sem, -decide_eq_true_eq, -decide_eq_false_iff_not, hx, hxA, hb]) | omega | exact True.intro
       all_goals clear hk k
       try (have hwb := wkF_len (e := e) (i := b) hwa (by omega))
       refine rg [6] ?_
       intro k hk; simp -dsimp [go_sem, -decide_eq_true_eq, -decide_eq_false_iff_not, hx, hxA]
       repeat' first | apply And.intro | refine hk _ ?_ | intro hg | omega | exact True.intro
       all_goals clear hk k
       refine rt ?_
       rw [wkF_eq hP hi]; (try (first | rw [if_neg (show ¬ 16 < out.length by omega)] | rw [if_pos (show 16 < out.length by omega)])); simp [go_sem, Try.results110, *] <;> first | (intro h9; omega) | (simp_all; done) | omega | grind)
     ·intro hc; try simp at hc
      all_goals try (exfalso; first | omega | (have hk9 := inR_iff.1 hc; omega); done)
      all_goals (
       refine AW.skipN (fun _ h => h) ?_
       try (have hwb := wkF_len (e := e) (i := b) hwa (by omega))
       refine rg [6] ?_
       intro k hk; simp -dsimp [go_sem, -decide_eq_true_eq, -decide_eq_false_iff_not, hx, hxA]
       repeat' first | apply And.intro | refine hk _ ?_ | intro hg | omega | exact True.intro
       all_goals clear hk k
       refine rt ?_
       rw [wkF_eq hP hi]; (try (first | rw [if_neg (show ¬ 16 < out.length by omega)] | rw [if_pos (show 16 < out.length by omega)])); simp [go_sem, Try.results110, *] <;> first | (intro h9; omega) | (simp_all; done) | omega | grind)))
theorem dc_spec_l3Walk (e : List TNode) (hP : PartsOk e e.length) (h16 : e.length ≤ 16) : ∀ (m i : Nat), i ≤ m → i < e.length → DC Try.prog 110 [.isl 4 (e.map TNode.ro), .int .i64 ((i : Nat) : Int), .nils] (.osl 1 ((wkF e i []).map N1)) [] ∧ ∀ out : List Nat, out.length ≤ 40 → DC Try.prog 110 [.isl 4 (e.map TNode.ro), .int .i64 ((i : Nat) : Int), .osl 1 (out.map N1)] (.osl 1 ((wkF e i out).map N1)) [] := by
  intro m
  induction m with
  | zero =>
    intro i hm hi
    have h1 : ∀ j : Nat, j < i → False := fun j hj => by omega
    exact ⟨dc_spec_l3Walk_n e hP h16 i hi (fun j hj => (h1 j hj).elim) (fun j hj => (h1 j hj).elim), fun out ho => dc_spec_l3Walk_o e hP h16 i hi out ho (fun j hj => (h1 j hj).elim) (fun j hj => (h1 j hj).elim)⟩
  | succ m ih =>
    intro i hm hi
    have h1 : ∀ j : Nat, j < i → _ := fun j hj => ih j (by omega) (by omega)
    exact ⟨dc_spec_l3Walk_n e hP h16 i hi (fun j hj => (h1 j hj).1) (fun j hj => (h1 j hj).2), fun out ho => dc_spec_l3Walk_o e hP h16 i hi out ho (fun j hj => (h1 j hj).1) (fun j hj => (h1 j hj).2)⟩
theorem dc_spec_l3Walk_nil (e : List TNode) (hP : PartsOk e e.length) (h16 : e.length ≤ 16) (i : Nat) (hi : i < e.length) : DC Try.prog 110 [.isl 4 (e.map TNode.ro), .int .i64 ((i : Nat) : Int), .nils] (.osl 1 ((wkF e i []).map N1)) [] := (dc_spec_l3Walk e hP h16 i i (Nat.le_refl _) hi).1

end Go.AM
namespace Go.AM
open Go.Proofs

/-- spec.l3Fault -/
theorem dc_spec_l3Fault (e : List TNode) (he : e.length ≤ 9223372036854775807) : DC Try.prog 85 [.isl 4 (e.map TNode.ro)] (.int .i64 (exprF e)) [] := by
 refine DC.intro tiOk Try.func85 rfl rfl rfl rfl rfl rfl rfl rfl [] ?_
 refine rgA [0] ?_
 refine AW.seq ?_
 refine AW.cut ⟨51, [(0, .isl 4 (e.map TNode.ro)), (14, .bool (decide (e.length < 1 ∨ 16 < e.length)))], []⟩ ?_ ?_
 ·skip
  refine rgK ?_
  intro k hk; simp +contextual -dsimp (maxSteps := 2000000) [go_sem, -decide_eq_true_eq, -decide_eq_false_iff_not]
  repeat' first | apply And.intro | refine hk _ ?_ | (intro hg; try simp only [decide_eq_true_eq, decide_eq_false_iff_not] at hg) | omega | exact True.intro
  all_goals clear hk k
  all_goals (show St.Less _ _; exact Less.of rfl (by simp [go_sem, -Nat.lt_one_iff, -List.length_eq_zero_iff] <;> first | omega | grind) (by simp [go_sem]))
 ·skip
  refine AW.cond rfl ?_ ?_
  ·intro hc; try simp at hc
   all_goals (
    refine rgA [2] ?_
    refine rt ?_
    first | (rw [exprF_len' (by simpa using hc)]; simp [go_sem, Try.results85]; done) | (rw [exprF_node hR hlt hall (by rw [hxn]; assumption), hxn]; simp [go_sem, Try.results85]; done) | (rw [exprF_wk hR hN, if_neg (wk_ne_len (by first | assumption | omega))]; simp [go_sem, Try.results85]; done) | (rw [exprF_wk hR hN, if_neg (wk_ne_at hy (by first | assumption | omega))]; simp [go_sem, Try.results85]; done) | (rw [exprF_wk hR hN, if_pos (wk_eq (by first | assumption | omega) (fun k hk => hal2 k (by omega)))]; simp [go_sem, Try.results85]))
  ·intro hc; try simp at hc
   all_goals (
    refine AW.skipN (fun _ h => h) ?_
    refine AW.seq ?_
    have hlen : 1 ≤ e.length ∧ e.length ≤ 16 := by obtain ⟨h8, h9⟩ := hc; have : e.length ≠ 0 := (fun h => h8 (List.length_eq_zero_iff.1 h)); omega
    have hR : inR e.length 1 16 = true := inR_iff.2 (by omega)
    refine rgA [0,3] ?_
    refine AW.block ?_
    refine AW.loopI (fun i : Nat => ⟨51, [(0, .isl 4 (e.map TNode.ro)), (3, .int .i64 i)], []⟩) (fun i => i ≤ e.length ∧ ∀ k, k < i → nodeAt e k = 0) (fun i => e.length - i) (0) (by simp) (Less.of rfl (by simp [go_sem]) (by simp [go_sem])) ?_
    rintro i ⟨hi, hall⟩
    refine AW.seq ?_
    refine rgA [0,3,18] ?_
    refine AW.cond rfl ?_ ?_
    ·intro hc; try simp at hc
     all_goals (
      have hlt : i < e.length := by assumption
      obtain ⟨x, hx⟩ := at_some hlt
      have hxn := nodeAt_at hx
      refine AW.skipN (fun _ h => h) ?_
      refine AW.seq ?_
      refine AW.block ?_
      refine rg [0,3,4] ?_
      intro k hk; simp -dsimp (maxSteps := 2000000) [go_sem, -decide_eq_true_eq, -decide_eq_false_iff_not, hx]
      repeat' first | apply And.intro | refine hk _ ?_ | intro hg | (refine CallK.intro (dc_spec_l3Node x i (by omega)) ?_; simp -dsimp (maxSteps := 2000000) [go_sem, -decide_eq_true_eq, -decide_eq_false_iff_not, hx]) | omega | exact True.intro
      all_goals clear hk k
      refine rg [0,3,4,27] ?_
      intro k hk; simp -dsimp [go_sem, -decide_eq_true_eq, -decide_eq_false_iff_not, hx]
      repeat' first | apply And.intro | refine hk _ ?_ | intro hg | omega | exact True.intro
      all_goals clear hk k
      refine AW.cond rfl ?_ ?_
      ·intro hc; try simp at hc
       all_goals (
        refine rg [2] ?_
        intro k hk; simp -dsimp [go_sem, -decide_eq_true_eq, -decide_eq_false_iff_not, hx]
        repeat' first | apply And.intro | refine hk _ ?_ | intro hg | omega | exact True.intro
        all_goals clear hk k
        refine rt ?_
        first | (rw [exprF_len' (by simpa using hc)]; simp [go_sem, Try.results85]; done) | (rw [exprF_node hR hlt hall (by rw [hxn]; assumption), hxn]; simp [go_sem, Try.results85]; done) | (rw [exprF_wk hR hN, if_neg (wk_ne_len (by first | assumption | omega))]; simp [go_sem, Try.results85]; done) | (rw [exprF_wk hR hN, if_neg (wk_ne_at hy (by first | assumption | omega))]; simp [go_sem, Try.results85]; done) | (rw [exprF_wk hR hN, if_pos (wk_eq (by first | assumption | omega) (fun k hk => hal2 k (by omega)))]; simp [go_sem, Try.results85]))
      ·intro hc; try simp at hc
       all_goals (
        refine AW.skipN (fun _ h => h) ?_
        refine rgK ?_
        intro k hk; simp -dsimp [go_sem, -decide_eq_true_eq, -decide_eq_false_iff_not, hx]
        repeat' first | apply And.intro | refine hk _ ?_ | intro hg | omega | exact True.intro
        all_goals clear hk k
        show ∃ _, _
        have hw := wrapi hlt (by omega)
        refine ⟨i + 1, ⟨by omega, upto hall (by rw [hxn]; first | assumption | simpa using hc)⟩, by omega, Less.of rfl (by simp [go_sem, hw]) (by simp [go_sem])⟩))
    ·intro hc; try simp at hc
     all_goals (
      refine AW.exitN (fun _ h => h) ?_
      have hN : ∀ k, k < e.length → nodeAt e k = 0 := fun k hk => hall k (by omega)
      have hP : PartsOk e e.length := hN
      have hwl : IntKind.wrap .i64 ((e.length : Int) - 1) = ((e.length - 1 : Nat) : Int) := by rw [wrap64 (by omega) (by omega)]; omega
      have hwk := wkF_len (e := e) (i := e.length - 1) (out := []) (by simp) (by omega)
      refine rg [0,5] ?_
      intro k hk; simp -dsimp (maxSteps := 2000000) [go_sem, -decide_eq_true_eq, -decide_eq_false_iff_not, hwl]
      repeat' first | apply And.intro | refine hk _ ?_ | intro hg | (refine CallK.intro (dc_spec_l3Walk_nil e hP (by omega) (e.length - 1) (by omega)) ?_; simp -dsimp (maxSteps := 2000000) [go_sem, -decide_eq_true_eq, -decide_eq_false_iff_not, hwl]) | omega | exact True.intro
      all_goals clear hk k
      refine AW.seq ?_
      refine rgA [5,38] ?_
      refine AW.cond rfl ?_ ?_
      ·intro hc; try simp at hc
       all_goals (
        refine rgA [2] ?_
        refine rt ?_
        first | (rw [exprF_len' (by simpa using hc)]; simp [go_sem, Try.results85]; done) | (rw [exprF_node hR hlt hall (by rw [hxn]; assumption), hxn]; simp [go_sem, Try.results85]; done) | (rw [exprF_wk hR hN, if_neg (wk_ne_len (by first | assumption | omega))]; simp [go_sem, Try.results85]; done) | (rw [exprF_wk hR hN, if_neg (wk_ne_at hy (by first | assumption | omega))]; simp [go_sem, Try.results85]; done) | (rw [exprF_wk hR hN, if_pos (wk_eq (by first | assumption | omega) (fun k hk => hal2 k (by omega)))]; simp [go_sem, Try.results85]))
      ·intro hc; try simp at hc
       all_goals (
        refine AW.skipN (fun _ h => h) ?_
        refine AW.seq ?_
        refine rgA [5,6] ?_
        refine AW.block ?_
        refine AW.loopI (fun i : Nat => ⟨51, [(5, .sl 1033 1 0 (wkF e (e.length - 1) []).length), (6, .int .i64 i)], [(1033, some ⟨1, (wkF e (e.length - 1) []).map N1⟩)]⟩) (fun i => i ≤ (wkF e (e.length - 1) []).length ∧ ∀ k, k < i → (wkF e (e.length - 1) [])[k]? = some k) (fun i => (wkF e (e.length - 1) []).length - i) (0) (by simp) (Less.of rfl (by simp [go_sem]) (by simp [go_sem])) ?_
        rintro i ⟨hi2, hal2⟩
        refine AW.seq ?_
        refine rgA [5,6,42] ?_
        refine AW.cond rfl ?_ ?_
        ·intro hc; try simp at hc
         all_goals (
          have hlt2 : i < (wkF e (e.length - 1) []).length := by assumption
          obtain ⟨y, hy⟩ := at_some hlt2
          refine AW.skipN (fun _ h => h) ?_
          refine AW.seq ?_
          refine AW.block ?_
          refine rg [5,6,50] ?_
          intro k hk; simp -dsimp [go_sem, -decide_eq_true_eq, -decide_eq_false_iff_not, hy]
          repeat' first | apply And.intro | refine hk _ ?_ | intro hg | omega | exact True.intro
          all_goals clear hk k
          refine AW.cond rfl ?_ ?_
          ·intro hc; try simp at hc
           all_goals (
            refine rg [2] ?_
            intro k hk; simp -dsimp [go_sem, -decide_eq_true_eq, -decide_eq_false_iff_not, hy]
            repeat' first | apply And.intro | refine hk _ ?_ | intro hg | omega | exact True.intro
            all_goals clear hk k
            refine rt ?_
            first | (rw [exprF_len' (by simpa using hc)]; simp [go_sem, Try.results85]; done) | (rw [exprF_node hR hlt hall (by rw [hxn]; assumption), hxn]; simp [go_sem, Try.results85]; done) | (rw [exprF_wk hR hN, if_neg (wk_ne_len (by first | assumption | omega))]; simp [go_sem, Try.results85]; done) | (rw [exprF_wk hR hN, if_neg (wk_ne_at hy (by first | assumption | omega))]; simp [go_sem, Try.results85]; done) | (rw [exprF_wk hR hN, if_pos (wk_eq (by first | assumption | omega) (fun k hk => hal2 k (by omega)))]; simp [go_sem, Try.results85]))
          ·intro hc; try simp at hc
           all_goals (
            refine AW.skipN (fun _ h => h) ?_
            refine rgK ?_
            intro k hk; simp -dsimp [go_sem, -decide_eq_true_eq, -decide_eq_false_iff_not, hy]
            repeat' first | apply And.intro | refine hk _ ?_ | intro hg | omega | exact True.intro
            all_goals clear hk k
            show ∃ _, _
            have hw := wrapi hlt2 (by omega)
            refine ⟨i + 1, ⟨by omega, upto_at hal2 hy (by first | assumption | omega)⟩, by omega, Less.of rfl (by simp [go_sem, hw]) (by simp [go_sem])⟩))
        ·intro hc; try simp at hc
         all_goals (
          refine AW.exitN (fun _ h => h) ?_
          refine rgA [2] ?_
          refine rt ?_
          first | (rw [exprF_len' (by simpa using hc)]; simp [go_sem, Try.results85]; done) | (rw [exprF_node hR hlt hall (by rw [hxn]; assumption), hxn]; simp [go_sem, Try.results85]; done) | (rw [exprF_wk hR hN, if_neg (wk_ne_len (by first | assumption | omega))]; simp [go_sem, Try.results85]; done) | (rw [exprF_wk hR hN, if_neg (wk_ne_at hy (by first | assumption | omega))]; simp [go_sem, Try.results85]; done) | (rw [exprF_wk hR hN, if_pos (wk_eq (by first | assumption | omega) (fun k hk => hal2 k (by omega)))]; simp [go_sem, Try.results85])))))

end Go.AM
namespace Go.AM
open Go.Proofs

/-- spec.l3Types -/
theorem dc_spec_l3Types_b (e : List TNode) (hP : PartsOk e e.length) (hlen : e.length ≤ 16) (hub : typU e e.length = true) : DC Try.prog 111 [.isl 4 (e.map TNode.ro)] (.tup [.nils, .bool false]) [] := by
 refine DC.intro tiOk Try.func111 rfl rfl rfl rfl rfl rfl rfl rfl [1001] ?_
 refine rg [0] ?_
 intro k hk; simp -dsimp [go_sem, -decide_eq_true_eq, -decide_eq_false_iff_not]
 repeat' first | apply And.intro | refine hk _ ?_ | intro hg | omega | exact True.intro | (have h9 := hr (by assumption); omega) | fail
 all_goals clear hk k
 refine rg [0,4] ?_
 intro k hk; simp -dsimp [go_sem, -decide_eq_true_eq, -decide_eq_false_iff_not]
 repeat' first | apply And.intro | refine hk _ ?_ | intro hg | omega | exact True.intro | (have h9 := hr (by assumption); omega) | fail
 all_goals clear hk k
 refine AW.seq ?_
 refine rg [0,4,5] ?_
 intro k hk; simp -dsimp [go_sem, -decide_eq_true_eq, -decide_eq_false_iff_not]
 repeat' first | apply And.intro | refine hk _ ?_ | intro hg | omega | exact True.intro | (have h9 := hr (by assumption); omega) | fail
 all_goals clear hk k
 refine AW.block ?_
 refine AW.rename (nd := ?nd_1) 9 60 ?h1_1 ?h2_1 ?h4_1 ?kk_1
 (case h1_1 => exact rfl)
 (case h2_1 => simp [go_sem])
 (case h4_1 => simp [go_sem])
 refine AW.loopI (fun i : Nat => ⟨62, [(0, .isl 4 (e.map TNode.ro)), (4, .sl 60 1 0 i), (5, .int .i64 i)], [(60, some ⟨1, (typesL e i).map I1⟩)]⟩) (fun i => i ≤ e.length ∧ typU e i = false) (fun i => e.length - i) (0) (by simp [typU]) (Less.of rfl (by simp [go_sem]) (by simp [go_sem, typesL])) ?_
 rintro i ⟨hi, hu⟩
 refine AW.rename (nd := ?nd_2) 60 9 ?h1_2 ?h2_2 ?h4_2 ?kk_2
 (case h1_2 => exact rfl)
 (case h2_2 => simp [go_sem])
 (case h4_2 => simp [go_sem])
 refine AW.seq ?_
 refine rg [0,4,5,13] ?_
 intro k hk; simp -dsimp [go_sem, -decide_eq_true_eq, -decide_eq_false_iff_not]
 repeat' first | apply And.intro | refine hk _ ?_ | intro hg | omega | exact True.intro | (have h9 := hr (by assumption); omega) | fail
 all_goals clear hk k
 refine AW.cond rfl ?_ ?_
 ·intro hc; try simp at hc
  all_goals try (exfalso; omega; done)
  all_goals (
   have hlt : i < e.length := by assumption
   obtain ⟨x, hx⟩ := at_some hlt
   have hxA := nA_at hx
   have hpx := hP i hlt
   rw [nodeAt_at hx] at hpx
   have hq := nodeF_parts hpx
   have hl : 2 < x.kind → 0 ≤ x.left ∧ x.left.toNat < i := left_of hpx
   have hr := hq.2.1
   have htl := typesL_len e i
   have htk : List.take i ((typesL e i).map I1) = (typesL e i).map I1 := List.take_of_length_le (by simp [htl])
   have hsA : decide (2 < x.kind) = true → (typesL e i)[x.left.toNat]? = some (ownT (nA e x.left.toNat).kind) := fun h => typesL_at (hl (by simpa using h)).2
   have hsB : isTwoB x.kind = true → (typesL e i)[x.right.toNat]? = some (ownT (nA e x.right.toNat).kind) := fun h => typesL_at (hr h).2.2.2
   refine AW.skipN (fun _ h => h) ?_
   refine AW.seq ?_
   refine AW.block ?_
   refine rg [0,4,5,6] ?_
   intro k hk; simp -dsimp [go_sem, -decide_eq_true_eq, -decide_eq_false_iff_not, hx, htl, hsA, hsB]
   repeat' first | apply And.intro | refine hk _ ?_ | intro hg | omega | exact True.intro | (have h9 := hr (by assumption); omega) | fail
   all_goals clear hk k
   refine rg [0,4,5,6,7] ?_
   intro k hk; simp -dsimp [go_sem, -decide_eq_true_eq, -decide_eq_false_iff_not, hx, htl, hsA, hsB]
   repeat' first | apply And.intro | refine hk _ ?_ | intro hg | omega | exact True.intro | (have h9 := hr (by assumption); omega) | fail
   all_goals clear hk k
   refine rg [0,4,5,6,7,8] ?_
   intro k hk; simp -dsimp [go_sem, -decide_eq_true_eq, -decide_eq_false_iff_not, hx, htl, hsA, hsB]
   repeat' first | apply And.intro | refine hk _ ?_ | intro hg | omega | exact True.intro | (have h9 := hr (by assumption); omega) | fail
   all_goals clear hk k
   refine AW.seq ?_
   refine AW.cut ⟨62, [(0, .isl 4 (e.map TNode.ro)), (4, .sl 9 1 0 i), (5, .int .i64 i), (6, .ptr 6 4 0 0), (7, .int .i64 1), (8, .int .i64 1), (27, .bool (decide (x.kind = 9 ∨ x.kind = 10)))], [(6, some ⟨4, [x.ro]⟩), (9, some ⟨1, (typesL e i).map I1⟩)]⟩ ?_ ?_
   ·skip
    refine rgK ?_
    intro k hk; simp +contextual -dsimp (maxSteps := 2000000) [go_sem, -decide_eq_true_eq, -decide_eq_false_iff_not, hx, htl, hsA, hsB]
    repeat' first | apply And.intro | refine hk _ ?_ | (intro hg; try simp only [decide_eq_true_eq, decide_eq_false_iff_not] at hg) | omega | exact True.intro | (have h9 := hr (by assumption); omega) | fail
    all_goals clear hk k
    all_goals (show St.Less _ _; exact Less.of rfl (by simp [go_sem] <;> first | omega | grind) (by simp [go_sem]))
   ·skip
    refine AW.cond rfl ?_ ?_
    ·intro hc; try simp at hc
     all_goals try (exfalso; omega; done)
     all_goals (
      have hk9 : x.kind = 9 ∨ x.kind = 10 := by simpa using hc
      refine rgN [0,4,5,6,7,8] (fun _ h => h) ?_
      intro k hk; simp -dsimp [go_sem, -decide_eq_true_eq, -decide_eq_false_iff_not, hx, htl, hsA, hsB]
      repeat' first | apply And.intro | refine hk _ ?_ | intro hg | omega | exact True.intro | (have h9 := hr (by assumption); omega) | fail
      all_goals clear hk k
      refine AW.seq ?_
      refine rg [0,4,5,6,7,8,30] ?_
      intro k hk; simp -dsimp [go_sem, -decide_eq_true_eq, -decide_eq_false_iff_not, hx, htl, hsA, hsB]
      repeat' first | apply And.intro | refine hk _ ?_ | intro hg | omega | exact True.intro | (have h9 := hr (by assumption); omega) | fail
      all_goals clear hk k
      refine AW.cond rfl ?_ ?_
      ·intro hc; try simp at hc
       all_goals try (exfalso; omega; done)
       all_goals (
        refine rgN [0,4,5,6,7,8] (fun _ h => h) ?_
        intro k hk; simp -dsimp [go_sem, -decide_eq_true_eq, -decide_eq_false_iff_not, hx, htl, hsA, hsB]
        repeat' first | apply And.intro | refine hk _ ?_ | intro hg | omega | exact True.intro | (have h9 := hr (by assumption); omega) | fail
        all_goals clear hk k
        refine AW.seq ?_
        have hpt : partT x.kind = _ := rfl
        refine AW.cut ⟨62, [(0, .isl 4 (e.map TNode.ro)), (4, .sl 9 1 0 i), (5, .int .i64 i), (8, .int .i64 (ownT x.kind)), (56, .bool (typBad e i))], [(9, some ⟨1, (typesL e i).map I1⟩)]⟩ ?_ ?_
        ·skip
         refine rgK ?_
         intro k hk; simp +contextual -dsimp (maxSteps := 2000000) [go_sem, -decide_eq_true_eq, -decide_eq_false_iff_not, hx, htl, hsA, hsB]
         repeat' first | apply And.intro | refine hk _ ?_ | (intro hg; try simp only [decide_eq_true_eq, decide_eq_false_iff_not] at hg) | (refine CallK.intro (dc_spec_l3Two _) ?_; simp +contextual -dsimp (maxSteps := 2000000) [go_sem, -decide_eq_true_eq, -decide_eq_false_iff_not, hx, htl, hsA, hsB]) | omega | exact True.intro | (have h9 := hr (by assumption); omega) | fail
         all_goals clear hk k
         all_goals (show St.Less _ _; exact Less.of rfl (by simp [go_sem, typBad, hxA] <;> grind [ownT, partT]) (by simp [go_sem]))
        ·skip
         refine AW.cond rfl ?_ ?_
         ·intro hc; try simp at hc
          all_goals try (exfalso; omega; done)
          all_goals (
           refine rg [2,3] ?_
           intro k hk; simp -dsimp [go_sem, -decide_eq_true_eq, -decide_eq_false_iff_not, hx, htl, hsA, hsB]
           repeat' first | apply And.intro | refine hk _ ?_ | intro hg | omega | exact True.intro | (have h9 := hr (by assumption); omega) | fail
           all_goals clear hk k
           refine rt ?_
           first | (simp [go_sem, Try.results111]; done) | (exfalso; have hie : i = e.length := (by omega); rw [hie, hub] at hu; cases hu))
         ·intro hc; try simp at hc
          all_goals try (exfalso; omega; done)
          all_goals (
           refine AW.skipN (fun _ h => h) ?_
           refine rgN [0,4,5] (fun _ h => h) ?_
           intro k hk; simp -dsimp [go_sem, -decide_eq_true_eq, -decide_eq_false_iff_not, hx, htl, hsA, hsB]
           repeat' first | apply And.intro | refine hk _ ?_ | intro hg | omega | exact True.intro | (have h9 := hr (by assumption); omega) | fail
           all_goals clear hk k
           refine rgK ?_
           intro k hk; simp -dsimp [go_sem, -decide_eq_true_eq, -decide_eq_false_iff_not, hx, htl, hsA, hsB]
           repeat' first | apply And.intro | refine hk _ ?_ | intro hg | omega | exact True.intro | (have h9 := hr (by assumption); omega) | fail
           all_goals clear hk k
           show ∃ _, _
           have hw := wrapi hlt (by omega)
           have hub : typBad e i = false := by simpa using hc
           refine ⟨i + 1, ⟨by omega, typU_go hu hub⟩, by omega, Less.of rfl (by simp [go_sem, hw]) (by simp [go_sem, typesL_succ, hxA, htk] <;> (unfold ownT; first | omega | (split <;> omega)))⟩))
      ·intro hc; try simp at hc
       all_goals try (exfalso; omega; done)
       all_goals (
        refine AW.skipN (fun _ h => h) ?_
        refine AW.seq ?_
        have hpt : partT x.kind = _ := rfl
        refine AW.cut ⟨62, [(0, .isl 4 (e.map TNode.ro)), (4, .sl 9 1 0 i), (5, .int .i64 i), (8, .int .i64 (ownT x.kind)), (56, .bool (typBad e i))], [(9, some ⟨1, (typesL e i).map I1⟩)]⟩ ?_ ?_
        ·skip
         refine rgK ?_
         intro k hk; simp +contextual -dsimp (maxSteps := 2000000) [go_sem, -decide_eq_true_eq, -decide_eq_false_iff_not, hx, htl, hsA, hsB]
         repeat' first | apply And.intro | refine hk _ ?_ | (intro hg; try simp only [decide_eq_true_eq, decide_eq_false_iff_not] at hg) | (refine CallK.intro (dc_spec_l3Two _) ?_; simp +contextual -dsimp (maxSteps := 2000000) [go_sem, -decide_eq_true_eq, -decide_eq_false_iff_not, hx, htl, hsA, hsB]) | omega | exact True.intro | (have h9 := hr (by assumption); omega) | fail
         all_goals clear hk k
         all_goals (show St.Less _ _; exact Less.of rfl (by simp [go_sem, typBad, hxA] <;> grind [ownT, partT]) (by simp [go_sem]))
        ·skip
         refine AW.cond rfl ?_ ?_
         ·intro hc; try simp at hc
          all_goals try (exfalso; omega; done)
          all_goals (
           refine rg [2,3] ?_
           intro k hk; simp -dsimp [go_sem, -decide_eq_true_eq, -decide_eq_false_iff_not, hx, htl, hsA, hsB]
           repeat' first | apply And.intro | refine hk _ ?_ | intro hg | omega | exact True.intro | (have h9 := hr (by assumption); omega) | fail
           all_goals clear hk k
           refine rt ?_
           first | (simp [go_sem, Try.results111]; done) | (exfalso; have hie : i = e.length := (by omega); rw [hie, hub] at hu; cases hu))
         ·intro hc; try simp at hc
          all_goals try (exfalso; omega; done)
          all_goals (
           refine AW.skipN (fun _ h => h) ?_
           refine rgN [0,4,5] (fun _ h => h) ?_
           intro k hk; simp -dsimp [go_sem, -decide_eq_true_eq, -decide_eq_false_iff_not, hx, htl, hsA, hsB]
           repeat' first | apply And.intro | refine hk _ ?_ | intro hg | omega | exact True.intro | (have h9 := hr (by assumption); omega) | fail
           all_goals clear hk k
           refine rgK ?_
           intro k hk; simp -dsimp [go_sem, -decide_eq_true_eq, -decide_eq_false_iff_not, hx, htl, hsA, hsB]
           repeat' first | apply And.intro | refine hk _ ?_ | intro hg | omega | exact True.intro | (have h9 := hr (by assumption); omega) | fail
           all_goals clear hk k
           show ∃ _, _
           have hw := wrapi hlt (by omega)
           have hub : typBad e i = false := by simpa using hc
           refine ⟨i + 1, ⟨by omega, typU_go hu hub⟩, by omega, Less.of rfl (by simp [go_sem, hw]) (by simp [go_sem, typesL_succ, hxA, htk] <;> (unfold ownT; first | omega | (split <;> omega)))⟩)))
    ·intro hc; try simp at hc
     all_goals try (exfalso; omega; done)
     all_goals (
      refine AW.skipN (fun _ h => h) ?_
      refine AW.seq ?_
      refine rg [0,4,5,6,7,8,30] ?_
      intro k hk; simp -dsimp [go_sem, -decide_eq_true_eq, -decide_eq_false_iff_not, hx, htl, hsA, hsB]
      repeat' first | apply And.intro | refine hk _ ?_ | intro hg | omega | exact True.intro | (have h9 := hr (by assumption); omega) | fail
      all_goals clear hk k
      refine AW.cond rfl ?_ ?_
      ·intro hc; try simp at hc
       all_goals try (exfalso; omega; done)
       all_goals (
        refine rgN [0,4,5,6,7,8] (fun _ h => h) ?_
        intro k hk; simp -dsimp [go_sem, -decide_eq_true_eq, -decide_eq_false_iff_not, hx, htl, hsA, hsB]
        repeat' first | apply And.intro | refine hk _ ?_ | intro hg | omega | exact True.intro | (have h9 := hr (by assumption); omega) | fail
        all_goals clear hk k
        refine AW.seq ?_
        have hpt : partT x.kind = _ := rfl
        refine AW.cut ⟨62, [(0, .isl 4 (e.map TNode.ro)), (4, .sl 9 1 0 i), (5, .int .i64 i), (8, .int .i64 (ownT x.kind)), (56, .bool (typBad e i))], [(9, some ⟨1, (typesL e i).map I1⟩)]⟩ ?_ ?_
        ·skip
         refine rgK ?_
         intro k hk; simp +contextual -dsimp (maxSteps := 2000000) [go_sem, -decide_eq_true_eq, -decide_eq_false_iff_not, hx, htl, hsA, hsB]
         repeat' first | apply And.intro | refine hk _ ?_ | (intro hg; try simp only [decide_eq_true_eq, decide_eq_false_iff_not] at hg) | (refine CallK.intro (dc_spec_l3Two _) ?_; simp +contextual -dsimp (maxSteps := 2000000) [go_sem, -decide_eq_true_eq, -decide_eq_false_iff_not, hx, htl, hsA, hsB]) | omega | exact True.intro | (have h9 := hr (by assumption); omega) | fail
         all_goals clear hk k
         all_goals (show St.Less _ _; exact Less.of rfl (by simp [go_sem, typBad, hxA] <;> grind [ownT, partT]) (by simp [go_sem]))
        ·skip
         refine AW.cond rfl ?_ ?_
         ·intro hc; try simp at hc
          all_goals try (exfalso; omega; done)
          all_goals (
           refine rg [2,3] ?_
           intro k hk; simp -dsimp [go_sem, -decide_eq_true_eq, -decide_eq_false_iff_not, hx, htl, hsA, hsB]
           repeat' first | apply And.intro | refine hk _ ?_ | intro hg | omega | exact True.intro | (have h9 := hr (by assumption); omega) | fail
           all_goals clear hk k
           refine rt ?_
           first | (simp [go_sem, Try.results111]; done) | (exfalso; have hie : i = e.length := (by omega); rw [hie, hub] at hu; cases hu))
         ·intro hc; try simp at hc
          all_goals try (exfalso; omega; done)
          all_goals (
           refine AW.skipN (fun _ h => h) ?_
           refine rgN [0,4,5] (fun _ h => h) ?_
           intro k hk; simp -dsimp [go_sem, -decide_eq_true_eq, -decide_eq_false_iff_not, hx, htl, hsA, hsB]
           repeat' first | apply And.intro | refine hk _ ?_ | intro hg | omega | exact True.intro | (have h9 := hr (by assumption); omega) | fail
           all_goals clear hk k
           refine rgK ?_
           intro k hk; simp -dsimp [go_sem, -decide_eq_true_eq, -decide_eq_false_iff_not, hx, htl, hsA, hsB]
           repeat' first | apply And.intro | refine hk _ ?_ | intro hg | omega | exact True.intro | (have h9 := hr (by assumption); omega) | fail
           all_goals clear hk k
           show ∃ _, _
           have hw := wrapi hlt (by omega)
           have hub : typBad e i = false := by simpa using hc
           refine ⟨i + 1, ⟨by omega, typU_go hu hub⟩, by omega, Less.of rfl (by simp [go_sem, hw]) (by simp [go_sem, typesL_succ, hxA, htk] <;> (unfold ownT; first | omega | (split <;> omega)))⟩))
      ·intro hc; try simp at hc
       all_goals try (exfalso; omega; done)
       all_goals (
        refine AW.skipN (fun _ h => h) ?_
        refine AW.seq ?_
        have hpt : partT x.kind = _ := rfl
        refine AW.cut ⟨62, [(0, .isl 4 (e.map TNode.ro)), (4, .sl 9 1 0 i), (5, .int .i64 i), (8, .int .i64 (ownT x.kind)), (56, .bool (typBad e i))], [(9, some ⟨1, (typesL e i).map I1⟩)]⟩ ?_ ?_
        ·skip
         refine rgK ?_
         intro k hk; simp +contextual -dsimp (maxSteps := 2000000) [go_sem, -decide_eq_true_eq, -decide_eq_false_iff_not, hx, htl, hsA, hsB]
         repeat' first | apply And.intro | refine hk _ ?_ | (intro hg; try simp only [decide_eq_true_eq, decide_eq_false_iff_not] at hg) | (refine CallK.intro (dc_spec_l3Two _) ?_; simp +contextual -dsimp (maxSteps := 2000000) [go_sem, -decide_eq_true_eq, -decide_eq_false_iff_not, hx, htl, hsA, hsB]) | omega | exact True.intro | (have h9 := hr (by assumption); omega) | fail
         all_goals clear hk k
         all_goals (show St.Less _ _; exact Less.of rfl (by simp [go_sem, typBad, hxA] <;> grind [ownT, partT]) (by simp [go_sem]))
        ·skip
         refine AW.cond rfl ?_ ?_
         ·intro hc; try simp at hc
          all_goals try (exfalso; omega; done)
          all_goals (
           refine rg [2,3] ?_
           intro k hk; simp -dsimp [go_sem, -decide_eq_true_eq, -decide_eq_false_iff_not, hx, htl, hsA, hsB]
           repeat' first | apply And.intro | refine hk _ ?_ | intro hg | omega | exact True.intro | (have h9 := hr (by assumption); omega) | fail
           all_goals clear hk k
           refine rt ?_
           first | (simp [go_sem, Try.results111]; done) | (exfalso; have hie : i = e.length := (by omega); rw [hie, hub] at hu; cases hu))
         ·intro hc; try simp at hc
          all_goals try (exfalso; omega; done)
          all_goals (
           refine AW.skipN (fun _ h => h) ?_
           refine rgN [0,4,5] (fun _ h => h) ?_
           intro k hk; simp -dsimp [go_sem, -decide_eq_true_eq, -decide_eq_false_iff_not, hx, htl, hsA, hsB]
           repeat' first | apply And.intro | refine hk _ ?_ | intro hg | omega | exact True.intro | (have h9 := hr (by assumption); omega) | fail
           all_goals clear hk k
           refine rgK ?_
           intro k hk; simp -dsimp [go_sem, -decide_eq_true_eq, -decide_eq_false_iff_not, hx, htl, hsA, hsB]
           repeat' first | apply And.intro | refine hk _ ?_ | intro hg | omega | exact True.intro | (have h9 := hr (by assumption); omega) | fail
           all_goals clear hk k
           show ∃ _, _
           have hw := wrapi hlt (by omega)
           have hub : typBad e i = false := by simpa using hc
           refine ⟨i + 1, ⟨by omega, typU_go hu hub⟩, by omega, Less.of rfl (by simp [go_sem, hw]) (by simp [go_sem, typesL_succ, hxA, htk] <;> (unfold ownT; first | omega | (split <;> omega)))⟩))))
 ·intro hc; try simp at hc
  all_goals try (exfalso; omega; done)
  all_goals (
   refine AW.exitN (fun _ h => h) ?_
   refine rg [2,3] ?_
   intro k hk; simp -dsimp [go_sem, -decide_eq_true_eq, -decide_eq_false_iff_not]
   repeat' first | apply And.intro | refine hk _ ?_ | intro hg | omega | exact True.intro | (have h9 := hr (by assumption); omega) | fail
   all_goals clear hk k
   refine rt ?_
   first | (simp [go_sem, Try.results111]; done) | (exfalso; have hie : i = e.length := (by omega); rw [hie, hub] at hu; cases hu))

/-- spec.l3Types -/
theorem dc_spec_l3Types_k (e : List TNode) (hP : PartsOk e e.length) (hlen : e.length ≤ 16) (huk : typU e e.length = false) : DC Try.prog 111 [.isl 4 (e.map TNode.ro)] (.tup [.osl 1 ((typesL e e.length).map I1), .bool true]) [] := by
 refine DC.intro tiOk Try.func111 rfl rfl rfl rfl rfl rfl rfl rfl [1001] ?_
 refine rg [0] ?_
 intro k hk; simp -dsimp [go_sem, -decide_eq_true_eq, -decide_eq_false_iff_not]
 repeat' first | apply And.intro | refine hk _ ?_ | intro hg | omega | exact True.intro | (have h9 := hr (by assumption); omega) | fail
 all_goals clear hk k
 refine rg [0,4] ?_
 intro k hk; simp -dsimp [go_sem, -decide_eq_true_eq, -decide_eq_false_iff_not]
 repeat' first | apply And.intro | refine hk _ ?_ | intro hg | omega | exact True.intro | (have h9 := hr (by assumption); omega) | fail
 all_goals clear hk k
 refine AW.seq ?_
 refine rg [0,4,5] ?_
 intro k hk; simp -dsimp [go_sem, -decide_eq_true_eq, -decide_eq_false_iff_not]
 repeat' first | apply And.intro | refine hk _ ?_ | intro hg | omega | exact True.intro | (have h9 := hr (by assumption); omega) | fail
 all_goals clear hk k
 refine AW.block ?_
 refine AW.rename (nd := ?nd_1) 9 60 ?h1_1 ?h2_1 ?h4_1 ?kk_1
 (case h1_1 => exact rfl)
 (case h2_1 => simp [go_sem])
 (case h4_1 => simp [go_sem])
 refine AW.loopI (fun i : Nat => ⟨62, [(0, .isl 4 (e.map TNode.ro)), (4, .sl 60 1 0 i), (5, .int .i64 i)], [(60, some ⟨1, (typesL e i).map I1⟩)]⟩) (fun i => i ≤ e.length ∧ typU e i = false) (fun i => e.length - i) (0) (by simp [typU]) (Less.of rfl (by simp [go_sem]) (by simp [go_sem, typesL])) ?_
 rintro i ⟨hi, hu⟩
 refine AW.rename (nd := ?nd_2) 60 9 ?h1_2 ?h2_2 ?h4_2 ?kk_2
 (case h1_2 => exact rfl)
 (case h2_2 => simp [go_sem])
 (case h4_2 => simp [go_sem])
 refine AW.seq ?_
 refine rg [0,4,5,13] ?_
 intro k hk; simp -dsimp [go_sem, -decide_eq_true_eq, -decide_eq_false_iff_not]
 repeat' first | apply And.intro | refine hk _ ?_ | intro hg | omega | exact True.intro | (have h9 := hr (by assumption); omega) | fail
 all_goals clear hk k
 refine AW.cond rfl ?_ ?_
 ·intro hc; try simp at hc
  all_goals try (exfalso; omega; done)
  all_goals (
   have hlt : i < e.length := by assumption
   obtain ⟨x, hx⟩ := at_some hlt
   have hxA := nA_at hx
   have hpx := hP i hlt
   rw [nodeAt_at hx] at hpx
   have hq := nodeF_parts hpx
   have hl : 2 < x.kind → 0 ≤ x.left ∧ x.left.toNat < i := left_of hpx
   have hr := hq.2.1
   have htl := typesL_len e i
   have htk : List.take i ((typesL e i).map I1) = (typesL e i).map I1 := List.take_of_length_le (by simp [htl])
   have hsA : decide (2 < x.kind) = true → (typesL e i)[x.left.toNat]? = some (ownT (nA e x.left.toNat).kind) := fun h => typesL_at (hl (by simpa using h)).2
   have hsB : isTwoB x.kind = true → (typesL e i)[x.right.toNat]? = some (ownT (nA e x.right.toNat).kind) := fun h => typesL_at (hr h).2.2.2
   refine AW.skipN (fun _ h => h) ?_
   refine AW.seq ?_
   refine AW.block ?_
   refine rg [0,4,5,6] ?_
   intro k hk; simp -dsimp [go_sem, -decide_eq_true_eq, -decide_eq_false_iff_not, hx, htl, hsA, hsB]
   repeat' first | apply And.intro | refine hk _ ?_ | intro hg | omega | exact True.intro | (have h9 := hr (by assumption); omega) | fail
   all_goals clear hk k
   refine rg [0,4,5,6,7] ?_
   intro k hk; simp -dsimp [go_sem, -decide_eq_true_eq, -decide_eq_false_iff_not, hx, htl, hsA, hsB]
   repeat' first | apply And.intro | refine hk _ ?_ | intro hg | omega | exact True.intro | (have h9 := hr (by assumption); omega) | fail
   all_goals clear hk k
   refine rg [0,4,5,6,7,8] ?_
   intro k hk; simp -dsimp [go_sem, -decide_eq_true_eq, -decide_eq_false_iff_not, hx, htl, hsA, hsB]
   repeat' first | apply And.intro | refine hk _ ?_ | intro hg | omega | exact True.intro | (have h9 := hr (by assumption); omega) | fail
   all_goals clear hk k
   refine AW.seq ?_
   refine AW.cut ⟨62, [(0, .isl 4 (e.map TNode.ro)), (4, .sl 9 1 0 i), (5, .int .i64 i), (6, .ptr 6 4 0 0), (7, .int .i64 1), (8, .int .i64 1), (27, .bool (decide (x.kind = 9 ∨ x.kind = 10)))], [(6, some ⟨4, [x.ro]⟩), (9, some ⟨1, (typesL e i).map I1⟩)]⟩ ?_ ?_
   ·skip
    refine rgK ?_
    intro k hk; simp +contextual -dsimp (maxSteps := 2000000) [go_sem, -decide_eq_true_eq, -decide_eq_false_iff_not, hx, htl, hsA, hsB]
    repeat' first | apply And.intro | refine hk _ ?_ | (intro hg; try simp only [decide_eq_true_eq, decide_eq_false_iff_not] at hg) | omega | exact True.intro | (have h9 := hr (by assumption); omega) | fail
    all_goals clear hk k
    all_goals (show St.Less _ _; exact Less.of rfl (by simp [go_sem] <;> first | omega | grind) (by simp [go_sem]))
   ·skip
    refine AW.cond rfl ?_ ?_
    ·intro hc; try simp at hc
     all_goals try (exfalso; omega; done)
     all_goals (
      have hk9 : x.kind = 9 ∨ x.kind = 10 := by simpa using hc
      refine rgN [0,4,5,6,7,8] (fun _ h => h) ?_
      intro k hk; simp -dsimp [go_sem, -decide_eq_true_eq, -decide_eq_false_iff_not, hx, htl, hsA, hsB]
      repeat' first | apply And.intro | refine hk _ ?_ | intro hg | omega | exact True.intro | (have h9 := hr (by assumption); omega) | fail
      all_goals clear hk k
      refine AW.seq ?_
      refine rg [0,4,5,6,7,8,30] ?_
      intro k hk; simp -dsimp [go_sem, -decide_eq_true_eq, -decide_eq_false_iff_not, hx, htl, hsA, hsB]
      repeat' first | apply And.intro | refine hk _ ?_ | intro hg | omega | exact True.intro | (have h9 := hr (by assumption); omega) | fail
      all_goals clear hk k
      refine AW.cond rfl ?_ ?_
      ·intro hc; try simp at hc
       all_goals try (exfalso; omega; done)
       all_goals (
        refine rgN [0,4,5,6,7,8] (fun _ h => h) ?_
        intro k hk; simp -dsimp [go_sem, -decide_eq_true_eq, -decide_eq_false_iff_not, hx, htl, hsA, hsB]
        repeat' first | apply And.intro | refine hk _ ?_ | intro hg | omega | exact True.intro | (have h9 := hr (by assumption); omega) | fail
        all_goals clear hk k
        refine AW.seq ?_
        have hpt : partT x.kind = _ := rfl
        refine AW.cut ⟨62, [(0, .isl 4 (e.map TNode.ro)), (4, .sl 9 1 0 i), (5, .int .i64 i), (8, .int .i64 (ownT x.kind)), (56, .bool (typBad e i))], [(9, some ⟨1, (typesL e i).map I1⟩)]⟩ ?_ ?_
        ·skip
         refine rgK ?_
         intro k hk; simp +contextual -dsimp (maxSteps := 2000000) [go_sem, -decide_eq_true_eq, -decide_eq_false_iff_not, hx, htl, hsA, hsB]
         repeat' first | apply And.intro | refine hk _ ?_ | (intro hg; try simp only [decide_eq_true_eq, decide_eq_false_iff_not] at hg) | (refine CallK.intro (dc_spec_l3Two _) ?_; simp +contextual -dsimp (maxSteps := 2000000) [go_sem, -decide_eq_true_eq, -decide_eq_false_iff_not, hx, htl, hsA, hsB]) | omega | exact True.intro | (have h9 := hr (by assumption); omega) | fail
         all_goals clear hk k
         all_goals (show St.Less _ _; exact Less.of rfl (by simp [go_sem, typBad, hxA] <;> grind [ownT, partT]) (by simp [go_sem]))
        ·skip
         refine AW.cond rfl ?_ ?_
         ·intro hc; try simp at hc
          all_goals try (exfalso; omega; done)
          all_goals (
           refine rg [2,3] ?_
           intro k hk; simp -dsimp [go_sem, -decide_eq_true_eq, -decide_eq_false_iff_not, hx, htl, hsA, hsB]
           repeat' first | apply And.intro | refine hk _ ?_ | intro hg | omega | exact True.intro | (have h9 := hr (by assumption); omega) | fail
           all_goals clear hk k
           refine rt ?_
           first | (exfalso; have h8 := typU_hit hlt (by first | assumption | simpa using hc); rw [huk] at h8; cases h8) | (have hie : i = e.length := (by omega); simp [go_sem, Try.results111, hie, typesL_len]))
         ·intro hc; try simp at hc
          all_goals try (exfalso; omega; done)
          all_goals (
           refine AW.skipN (fun _ h => h) ?_
           refine rgN [0,4,5] (fun _ h => h) ?_
           intro k hk; simp -dsimp [go_sem, -decide_eq_true_eq, -decide_eq_false_iff_not, hx, htl, hsA, hsB]
           repeat' first | apply And.intro | refine hk _ ?_ | intro hg | omega | exact True.intro | (have h9 := hr (by assumption); omega) | fail
           all_goals clear hk k
           refine rgK ?_
           intro k hk; simp -dsimp [go_sem, -decide_eq_true_eq, -decide_eq_false_iff_not, hx, htl, hsA, hsB]
           repeat' first | apply And.intro | refine hk _ ?_ | intro hg | omega | exact True.intro | (have h9 := hr (by assumption); omega) | fail
           all_goals clear hk k
           show ∃ _, _
           have hw := wrapi hlt (by omega)
           have hub : typBad e i = false := by simpa using hc
           refine ⟨i + 1, ⟨by omega, typU_go hu hub⟩, by omega, Less.of rfl (by simp [go_sem, hw]) (by simp [go_sem, typesL_succ, hxA, htk] <;> (unfold ownT; first | omega | (split <;> omega)))⟩))
      ·intro hc; try simp at hc
       all_goals try (exfalso; omega; done)
       all_goals (
        refine AW.skipN (fun _ h => h) ?_
        refine AW.seq ?_
        have hpt : partT x.kind = _ := rfl
        refine AW.cut ⟨62, [(0, .isl 4 (e.map TNode.ro)), (4, .sl 9 1 0 i), (5, .int .i64 i), (8, .int .i64 (ownT x.kind)), (56, .bool (typBad e i))], [(9, some ⟨1, (typesL e i).map I1⟩)]⟩ ?_ ?_
        ·skip
         refine rgK ?_
         intro k hk; simp +contextual -dsimp (maxSteps := 2000000) [go_sem, -decide_eq_true_eq, -decide_eq_false_iff_not, hx, htl, hsA, hsB]
         repeat' first | apply And.intro | refine hk _ ?_ | (intro hg; try simp only [decide_eq_true_eq, decide_eq_false_iff_not] at hg) | (refine CallK.intro (dc_spec_l3Two _) ?_; simp +contextual -dsimp (maxSteps := 2000000) [go_sem, -decide_eq_true_eq, -decide_eq_false_iff_not, hx, htl, hsA, hsB]) | omega | exact True.intro | (have h9 := hr (by assumption); omega) | fail
         all_goals clear hk k
         all_goals (show St.Less _ _; exact Less.of rfl (by simp [go_sem, typBad, hxA] <;> grind [ownT, partT]) (by simp [go_sem]))
        ·skip
         refine AW.cond rfl ?_ ?_
         ·intro hc; try simp at hc
          all_goals try (exfalso; omega; done)
          all_goals (
           refine rg [2,3] ?_
           intro k hk; simp -dsimp [go_sem, -decide_eq_true_eq, -decide_eq_false_iff_not, hx, htl, hsA, hsB]
           repeat' first | apply And.intro | refine hk _ ?_ | intro hg | omega | exact True.intro | (have h9 := hr (by assumption); omega) | fail
           all_goals clear hk k
           refine rt ?_
           first | (exfalso; have h8 := typU_hit hlt (by first | assumption | simpa using hc); rw [huk] at h8; cases h8) | (have hie : i = e.length := (by omega); simp [go_sem, Try.results111, hie, typesL_len]))
         ·intro hc; try simp at hc
          all_goals try (exfalso; omega; done)
          all_goals (
           refine AW.skipN (fun _ h => h) ?_
           refine rgN [0,4,5] (fun _ h => h) ?_
           intro k hk; simp -dsimp [go_sem, -decide_eq_true_eq, -decide_eq_false_iff_not, hx, htl, hsA, hsB]
           repeat' first | apply And.intro | refine hk _ ?_ | intro hg | omega | exact True.intro | (have h9 := hr (by assumption); omega) | fail
           all_goals clear hk k
           refine rgK ?_
           intro k hk; simp -dsimp [go_sem, -decide_eq_true_eq, -decide_eq_false_iff_not, hx, htl, hsA, hsB]
           repeat' first | apply And.intro | refine hk _ ?_ | intro hg | omega | exact True.intro | (have h9 := hr (by assumption); omega) | fail
           all_goals clear hk k
           show ∃ _, _
           have hw := wrapi hlt (by omega)
           have hub : typBad e i = false := by simpa using hc
           refine ⟨i + 1, ⟨by omega, typU_go hu hub⟩, by omega, Less.of rfl (by simp [go_sem, hw]) (by simp [go_sem, typesL_succ, hxA, htk] <;> (unfold ownT; first | omega | (split <;> omega)))⟩)))
    ·intro hc; try simp at hc
     all_goals try (exfalso; omega; done)
     all_goals (
      refine AW.skipN (fun _ h => h) ?_
      refine AW.seq ?_
      refine rg [0,4,5,6,7,8,30] ?_
      intro k hk; simp -dsimp [go_sem, -decide_eq_true_eq, -decide_eq_false_iff_not, hx, htl, hsA, hsB]
      repeat' first | apply And.intro | refine hk _ ?_ | intro hg | omega | exact True.intro | (have h9 := hr (by assumption); omega) | fail
      all_goals clear hk k
      refine AW.cond rfl ?_ ?_
      ·intro hc; try simp at hc
       all_goals try (exfalso; omega; done)
       all_goals (
        refine rgN [0,4,5,6,7,8] (fun _ h => h) ?_
        intro k hk; simp -dsimp [go_sem, -decide_eq_true_eq, -decide_eq_false_iff_not, hx, htl, hsA, hsB]
        repeat' first | apply And.intro | refine hk _ ?_ | intro hg | omega | exact True.intro | (have h9 := hr (by assumption); omega) | fail
        all_goals clear hk k
        refine AW.seq ?_
        have hpt : partT x.kind = _ := rfl
        refine AW.cut ⟨62, [(0, .isl 4 (e.map TNode.ro)), (4, .sl 9 1 0 i), (5, .int .i64 i), (8, .int .i64 (ownT x.kind)), (56, .bool (typBad e i))], [(9, some ⟨1, (typesL e i).map I1⟩)]⟩ ?_ ?_
        ·skip
         refine rgK ?_
         intro k hk; simp +contextual -dsimp (maxSteps := 2000000) [go_sem, -decide_eq_true_eq, -decide_eq_false_iff_not, hx, htl, hsA, hsB]
         repeat' first | apply And.intro | refine hk _ ?_ | (intro hg; try simp only [decide_eq_true_eq, decide_eq_false_iff_not] at hg) | (refine CallK.intro (dc_spec_l3Two _) ?_; simp +contextual -dsimp (maxSteps := 2000000) [go_sem, -decide_eq_true_eq, -decide_eq_false_iff_not, hx, htl, hsA, hsB]) | omega | exact True.intro | (have h9 := hr (by assumption); omega) | fail
         all_goals clear hk k
         all_goals (show St.Less _ _; exact Less.of rfl (by simp [go_sem, typBad, hxA] <;> grind [ownT, partT]) (by simp [go_sem]))
        ·skip
         refine AW.cond rfl ?_ ?_
         ·intro hc; try simp at hc
          all_goals try (exfalso; omega; done)
          all_goals (
           refine rg [2,3] ?_
           intro k hk; simp -dsimp [go_sem, -decide_eq_true_eq, -decide_eq_false_iff_not, hx, htl, hsA, hsB]
           repeat' first | apply And.intro | refine hk _ ?_ | intro hg | omega | exact True.intro | (have h9 := hr (by assumption); omega) | fail
           all_goals clear hk k
           refine rt ?_
           first | (exfalso; have h8 := typU_hit hlt (by first | assumption | simpa using hc); rw [huk] at h8; cases h8) | (have hie : i = e.length := (by omega); simp [go_sem, Try.results111, hie, typesL_len]))
         ·intro hc; try simp at hc
          all_goals try (exfalso; omega; done)
          all_goals (
           refine AW.skipN (fun _ h => h) ?_
           refine rgN [0,4,5] (fun _ h => h) ?_
           intro k hk; simp -dsimp [go_sem, -decide_eq_true_eq, -decide_eq_false_iff_not, hx, htl, hsA, hsB]
           repeat' first | apply And.intro | refine hk _ ?_ | intro hg | omega | exact True.intro | (have h9 := hr (by assumption); omega) | fail
           all_goals clear hk k
           refine rgK ?_
           intro k hk; simp -dsimp [go_sem, -decide_eq_true_eq, -decide_eq_false_iff_not, hx, htl, hsA, hsB]
           repeat' first | apply And.intro | refine hk _ ?_ | intro hg | omega | exact True.intro | (have h9 := hr (by assumption); omega) | fail
           all_goals clear hk k
           show ∃ _, _
           have hw := wrapi hlt (by omega)
           have hub : typBad e i = false := by simpa using hc
           refine ⟨i + 1, ⟨by omega, typU_go hu hub⟩, by omega, Less.of rfl (by simp [go_sem, hw]) (by simp [go_sem, typesL_succ, hxA, htk] <;> (unfold ownT; first | omega | (split <;> omega)))⟩))
      ·intro hc; try simp at hc
       all_goals try (exfalso; omega; done)
       all_goals (
        refine AW.skipN (fun _ h => h) ?_
        refine AW.seq ?_
        have hpt : partT x.kind = _ := rfl
        refine AW.cut ⟨62, [(0, .isl 4 (e.map TNode.ro)), (4, .sl 9 1 0 i), (5, .int .i64 i), (8, .int .i64 (ownT x.kind)), (56, .bool (typBad e i))], [(9, some ⟨1, (typesL e i).map I1⟩)]⟩ ?_ ?_
        ·skip
         refine rgK ?_
         intro k hk; simp +contextual -dsimp (maxSteps := 2000000) [go_sem, -decide_eq_true_eq, -decide_eq_false_iff_not, hx, htl, hsA, hsB]
         repeat' first | apply And.intro | refine hk _ ?_ | (intro hg; try simp only [decide_eq_true_eq, decide_eq_false_iff_not] at hg) | (refine CallK.intro (dc_spec_l3Two _) ?_; simp +contextual -dsimp (maxSteps := 2000000) [go_sem, -decide_eq_true_eq, -decide_eq_false_iff_not, hx, htl, hsA, hsB]) | omega | exact True.intro | (have h9 := hr (by assumption); omega) | fail
         all_goals clear hk k
         all_goals (show St.Less _ _; exact Less.of rfl (by simp [go_sem, typBad, hxA] <;> grind [ownT, partT]) (by simp [go_sem]))
        ·skip
         refine AW.cond rfl ?_ ?_
         ·intro hc; try simp at hc
          all_goals try (exfalso; omega; done)
          all_goals (
           refine rg [2,3] ?_
           intro k hk; simp -dsimp [go_sem, -decide_eq_true_eq, -decide_eq_false_iff_not, hx, htl, hsA, hsB]
           repeat' first | apply And.intro | refine hk _ ?_ | intro hg | omega | exact True.intro | (have h9 := hr (by assumption); omega) | fail
           all_goals clear hk k
           refine rt ?_
           first | (exfalso; have h8 := typU_hit hlt (by first | assumption | simpa using hc); rw [huk] at h8; cases h8) | (have hie : i = e.length := (by omega); simp [go_sem, Try.results111, hie, typesL_len]))
         ·intro hc; try simp at hc
          all_goals try (exfalso; omega; done)
          all_goals (
           refine AW.skipN (fun _ h => h) ?_
           refine rgN [0,4,5] (fun _ h => h) ?_
           intro k hk; simp -dsimp [go_sem, -decide_eq_true_eq, -decide_eq_false_iff_not, hx, htl, hsA, hsB]
           repeat' first | apply And.intro | refine hk _ ?_ | intro hg | omega | exact True.intro | (have h9 := hr (by assumption); omega) | fail
           all_goals clear hk k
           refine rgK ?_
           intro k hk; simp -dsimp [go_sem, -decide_eq_true_eq, -decide_eq_false_iff_not, hx, htl, hsA, hsB]
           repeat' first | apply And.intro | refine hk _ ?_ | intro hg | omega | exact True.intro | (have h9 := hr (by assumption); omega) | fail
           all_goals clear hk k
           show ∃ _, _
           have hw := wrapi hlt (by omega)
           have hub : typBad e i = false := by simpa using hc
           refine ⟨i + 1, ⟨by omega, typU_go hu hub⟩, by omega, Less.of rfl (by simp [go_sem, hw]) (by simp [go_sem, typesL_succ, hxA, htk] <;> (unfold ownT; first | omega | (split <;> omega)))⟩))))
 ·intro hc; try simp at hc
  all_goals try (exfalso; omega; done)
  all_goals (
   refine AW.exitN (fun _ h => h) ?_
   refine rg [2,3] ?_
   intro k hk; simp -dsimp [go_sem, -decide_eq_true_eq, -decide_eq_false_iff_not]
   repeat' first | apply And.intro | refine hk _ ?_ | intro hg | omega | exact True.intro | (have h9 := hr (by assumption); omega) | fail
   all_goals clear hk k
   refine rt ?_
   first | (exfalso; have h8 := typU_hit hlt (by first | assumption | simpa using hc); rw [huk] at h8; cases h8) | (have hie : i = e.length := (by omega); simp [go_sem, Try.results111, hie, typesL_len]))

end Go.AM
namespace Go.AM
open Go.Proofs

/-- spec.l3Type -/
theorem dc_spec_l3Type_f (e : List TNode) (he : e.length ≤ 9223372036854775807) (h0 : exprF e ≠ 0) : DC Try.prog 89 [.isl 4 (e.map TNode.ro)] (.tup [.int .i64 (typV e), .int .i64 (typC e)]) [] := by
 obtain ⟨hC, hV⟩ := typC_f h0
 refine DC.intro tiOk Try.func89 rfl rfl rfl rfl rfl rfl rfl rfl [] ?_
 refine rg [0] ?_
 intro k hk; simp -dsimp [go_sem, -decide_eq_true_eq, -decide_eq_false_iff_not, h0, hC, hV]
 repeat' first | apply And.intro | refine hk _ ?_ | intro hg | omega | exact True.intro
 all_goals clear hk k
 refine AW.seq ?_
 refine rg [0,4] ?_
 intro k hk; simp -dsimp (maxSteps := 2000000) [go_sem, -decide_eq_true_eq, -decide_eq_false_iff_not, h0, hC, hV]
 repeat' first | apply And.intro | refine hk _ ?_ | intro hg | (refine CallK.intro (dc_spec_l3Fault e he) ?_; simp -dsimp (maxSteps := 2000000) [go_sem, -decide_eq_true_eq, -decide_eq_false_iff_not, h0, hC, hV]) | omega | exact True.intro
 all_goals clear hk k
 refine rg [0,4,10] ?_
 intro k hk; simp -dsimp [go_sem, -decide_eq_true_eq, -decide_eq_false_iff_not, h0, hC, hV]
 repeat' first | apply And.intro | refine hk _ ?_ | intro hg | omega | exact True.intro
 all_goals clear hk k
 refine AW.cond rfl ?_ ?_
 ·intro hc; try simp at hc
  all_goals try (exfalso; contradiction; done)
  all_goals (
   refine rg [2,3] ?_
   intro k hk; simp -dsimp [go_sem, -decide_eq_true_eq, -decide_eq_false_iff_not, h0, hC, hV]
   repeat' first | apply And.intro | refine hk _ ?_ | intro hg | omega | exact True.intro
   all_goals clear hk k
   refine rt ?_
   simp [go_sem, Try.results89, hC, hV])
 ·intro hc; try simp at hc
  all_goals try (exfalso; contradiction; done)
  all_goals (
   refine AW.skipN (fun _ h => h) ?_
   refine rg [5,6] ?_
   intro k hk; simp -dsimp (maxSteps := 2000000) [go_sem, -decide_eq_true_eq, -decide_eq_false_iff_not, h0, hC, hV]
   repeat' first | apply And.intro | refine hk _ ?_ | intro hg | (refine CallK.intro (skip) ?_; simp -dsimp (maxSteps := 2000000) [go_sem, -decide_eq_true_eq, -decide_eq_false_iff_not, h0, hC, hV]) | omega | exact True.intro
   all_goals clear hk k
   refine AW.seq ?_
   refine rg [5,18] ?_
   intro k hk; simp -dsimp [go_sem, -decide_eq_true_eq, -decide_eq_false_iff_not, h0, hC, hV]
   repeat' first | apply And.intro | refine hk _ ?_ | intro hg | omega | exact True.intro
   all_goals clear hk k
   refine AW.cond rfl ?_ ?_
   ·intro hc; try simp at hc
    all_goals try (exfalso; contradiction; done)
    all_goals (
     refine rg [2,3] ?_
     intro k hk; simp -dsimp [go_sem, -decide_eq_true_eq, -decide_eq_false_iff_not, h0, hC, hV]
     repeat' first | apply And.intro | refine hk _ ?_ | intro hg | omega | exact True.intro
     all_goals clear hk k
     refine rt ?_
     simp [go_sem, Try.results89, hC, hV])
   ·intro hc; try simp at hc
    all_goals try (exfalso; contradiction; done)
    all_goals (
     refine AW.skipN (fun _ h => h) ?_
     have htl := typesL_len e e.length
     have hlast := typesL_at (e := e) (show e.length - 1 < e.length by omega)
     have hwl : IntKind.wrap .i64 ((e.length : Int) - 1) = (e.length : Int) - 1 := wrap64 (by omega) (by omega)
     have hwt : ((e.length : Int) - 1).toNat = e.length - 1 := by omega
     refine rg [2,3] ?_
     intro k hk; simp -dsimp (maxSteps := 2000000) [go_sem, -decide_eq_true_eq, -decide_eq_false_iff_not, h0, hC, hV, htl, hlast, hwl, hwt]
     repeat' first | apply And.intro | refine hk _ ?_ | intro hg | omega | exact True.intro
     all_goals clear hk k
     refine rt ?_
     simp [go_sem, Try.results89, hC, hV]))

/-- spec.l3Type -/
theorem dc_spec_l3Type_b (e : List TNode) (he : e.length ≤ 9223372036854775807) (h0 : exprF e = 0) (hub : typU e e.length = true) : DC Try.prog 89 [.isl 4 (e.map TNode.ro)] (.tup [.int .i64 (typV e), .int .i64 (typC e)]) [] := by
 obtain ⟨hR, hP⟩ := exprF_zero h0
 have hlen := inR_iff.1 hR
 obtain ⟨hC, hV⟩ := typC_b h0 hub
 refine DC.intro tiOk Try.func89 rfl rfl rfl rfl rfl rfl rfl rfl [] ?_
 refine rg [0] ?_
 intro k hk; simp -dsimp [go_sem, -decide_eq_true_eq, -decide_eq_false_iff_not, h0, hC, hV]
 repeat' first | apply And.intro | refine hk _ ?_ | intro hg | omega | exact True.intro
 all_goals clear hk k
 refine AW.seq ?_
 refine rg [0,4] ?_
 intro k hk; simp -dsimp (maxSteps := 2000000) [go_sem, -decide_eq_true_eq, -decide_eq_false_iff_not, h0, hC, hV]
 repeat' first | apply And.intro | refine hk _ ?_ | intro hg | (refine CallK.intro (dc_spec_l3Fault e he) ?_; simp -dsimp (maxSteps := 2000000) [go_sem, -decide_eq_true_eq, -decide_eq_false_iff_not, h0, hC, hV]) | omega | exact True.intro
 all_goals clear hk k
 refine rg [0,4,10] ?_
 intro k hk; simp -dsimp [go_sem, -decide_eq_true_eq, -decide_eq_false_iff_not, h0, hC, hV]
 repeat' first | apply And.intro | refine hk _ ?_ | intro hg | omega | exact True.intro
 all_goals clear hk k
 refine AW.cond rfl ?_ ?_
 ·intro hc; try simp at hc
  all_goals try (exfalso; contradiction; done)
  all_goals (
   refine rg [2,3] ?_
   intro k hk; simp -dsimp [go_sem, -decide_eq_true_eq, -decide_eq_false_iff_not, h0, hC, hV]
   repeat' first | apply And.intro | refine hk _ ?_ | intro hg | omega | exact True.intro
   all_goals clear hk k
   refine rt ?_
   simp [go_sem, Try.results89, hC, hV])
 ·intro hc; try simp at hc
  all_goals try (exfalso; contradiction; done)
  all_goals (
   refine AW.skipN (fun _ h => h) ?_
   refine rg [5,6] ?_
   intro k hk; simp -dsimp (maxSteps := 2000000) [go_sem, -decide_eq_true_eq, -decide_eq_false_iff_not, h0, hC, hV]
   repeat' first | apply And.intro | refine hk _ ?_ | intro hg | (refine CallK.intro (dc_spec_l3Types_b e hP (by omega) hub) ?_; simp -dsimp (maxSteps := 2000000) [go_sem, -decide_eq_true_eq, -decide_eq_false_iff_not, h0, hC, hV]) | omega | exact True.intro
   all_goals clear hk k
   refine AW.seq ?_
   refine rg [5,18] ?_
   intro k hk; simp -dsimp [go_sem, -decide_eq_true_eq, -decide_eq_false_iff_not, h0, hC, hV]
   repeat' first | apply And.intro | refine hk _ ?_ | intro hg | omega | exact True.intro
   all_goals clear hk k
   refine AW.cond rfl ?_ ?_
   ·intro hc; try simp at hc
    all_goals try (exfalso; contradiction; done)
    all_goals (
     refine rg [2,3] ?_
     intro k hk; simp -dsimp [go_sem, -decide_eq_true_eq, -decide_eq_false_iff_not, h0, hC, hV]
     repeat' first | apply And.intro | refine hk _ ?_ | intro hg | omega | exact True.intro
     all_goals clear hk k
     refine rt ?_
     simp [go_sem, Try.results89, hC, hV])
   ·intro hc; try simp at hc
    all_goals try (exfalso; contradiction; done)
    all_goals (
     refine AW.skipN (fun _ h => h) ?_
     have htl := typesL_len e e.length
     have hlast := typesL_at (e := e) (show e.length - 1 < e.length by omega)
     have hwl : IntKind.wrap .i64 ((e.length : Int) - 1) = (e.length : Int) - 1 := wrap64 (by omega) (by omega)
     have hwt : ((e.length : Int) - 1).toNat = e.length - 1 := by omega
     refine rg [2,3] ?_
     intro k hk; simp -dsimp (maxSteps := 2000000) [go_sem, -decide_eq_true_eq, -decide_eq_false_iff_not, h0, hC, hV, htl, hlast, hwl, hwt]
     repeat' first | apply And.intro | refine hk _ ?_ | intro hg | omega | exact True.intro
     all_goals clear hk k
     refine rt ?_
     simp [go_sem, Try.results89, hC, hV]))

/-- spec.l3Type -/
theorem dc_spec_l3Type_k (e : List TNode) (he : e.length ≤ 9223372036854775807) (h0 : exprF e = 0) (huk : typU e e.length = false) : DC Try.prog 89 [.isl 4 (e.map TNode.ro)] (.tup [.int .i64 (typV e), .int .i64 (typC e)]) [] := by
 obtain ⟨hR, hP⟩ := exprF_zero h0
 have hlen := inR_iff.1 hR
 obtain ⟨hC, hV⟩ := typC_k h0 huk
 refine DC.intro tiOk Try.func89 rfl rfl rfl rfl rfl rfl rfl rfl [] ?_
 refine rg [0] ?_
 intro k hk; simp -dsimp [go_sem, -decide_eq_true_eq, -decide_eq_false_iff_not, h0, hC, hV]
 repeat' first | apply And.intro | refine hk _ ?_ | intro hg | omega | exact True.intro
 all_goals clear hk k
 refine AW.seq ?_
 refine rg [0,4] ?_
 intro k hk; simp -dsimp (maxSteps := 2000000) [go_sem, -decide_eq_true_eq, -decide_eq_false_iff_not, h0, hC, hV]
 repeat' first | apply And.intro | refine hk _ ?_ | intro hg | (refine CallK.intro (dc_spec_l3Fault e he) ?_; simp -dsimp (maxSteps := 2000000) [go_sem, -decide_eq_true_eq, -decide_eq_false_iff_not, h0, hC, hV]) | omega | exact True.intro
 all_goals clear hk k
 refine rg [0,4,10] ?_
 intro k hk; simp -dsimp [go_sem, -decide_eq_true_eq, -decide_eq_false_iff_not, h0, hC, hV]
 repeat' first | apply And.intro | refine hk _ ?_ | intro hg | omega | exact True.intro
 all_goals clear hk k
 refine AW.cond rfl ?_ ?_
 ·intro hc; try simp at hc
  all_goals try (exfalso; contradiction; done)
  all_goals (
   refine rg [2,3] ?_
   intro k hk; simp -dsimp [go_sem, -decide_eq_true_eq, -decide_eq_false_iff_not, h0, hC, hV]
   repeat' first | apply And.intro | refine hk _ ?_ | intro hg | omega | exact True.intro
   all_goals clear hk k
   refine rt ?_
   simp [go_sem, Try.results89, hC, hV])
 ·intro hc; try simp at hc
  all_goals try (exfalso; contradiction; done)
  all_goals (
   refine AW.skipN (fun _ h => h) ?_
   refine rg [5,6] ?_
   intro k hk; simp -dsimp (maxSteps := 2000000) [go_sem, -decide_eq_true_eq, -decide_eq_false_iff_not, h0, hC, hV]
   repeat' first | apply And.intro | refine hk _ ?_ | intro hg | (refine CallK.intro (dc_spec_l3Types_k e hP (by omega) huk) ?_; simp -dsimp (maxSteps := 2000000) [go_sem, -decide_eq_true_eq, -decide_eq_false_iff_not, h0, hC, hV]) | omega | exact True.intro
   all_goals clear hk k
   refine AW.seq ?_
   refine rg [5,18] ?_
   intro k hk; simp -dsimp [go_sem, -decide_eq_true_eq, -decide_eq_false_iff_not, h0, hC, hV]
   repeat' first | apply And.intro | refine hk _ ?_ | intro hg | omega | exact True.intro
   all_goals clear hk k
   refine AW.cond rfl ?_ ?_
   ·intro hc; try simp at hc
    all_goals try (exfalso; contradiction; done)
    all_goals (
     refine rg [2,3] ?_
     intro k hk; simp -dsimp [go_sem, -decide_eq_true_eq, -decide_eq_false_iff_not, h0, hC, hV]
     repeat' first | apply And.intro | refine hk _ ?_ | intro hg | omega | exact True.intro
     all_goals clear hk k
     refine rt ?_
     simp [go_sem, Try.results89, hC, hV])
   ·intro hc; try simp at hc
    all_goals try (exfalso; contradiction; done)
    all_goals (
     refine AW.skipN (fun _ h => h) ?_
     have htl := typesL_len e e.length
     have hlast := typesL_at (e := e) (show e.length - 1 < e.length by omega)
     have hwl : IntKind.wrap .i64 ((e.length : Int) - 1) = (e.length : Int) - 1 := wrap64 (by omega) (by omega)
     have hwt : ((e.length : Int) - 1).toNat = e.length - 1 := by omega
     refine rg [2,3] ?_
     intro k hk; simp -dsimp (maxSteps := 2000000) [go_sem, -decide_eq_true_eq, -decide_eq_false_iff_not, h0, hC, hV, htl, hlast, hwl, hwt]
     repeat' first | apply And.intro | refine hk _ ?_ | intro hg | omega | exact True.intro
     all_goals clear hk k
     refine rt ?_
     simp [go_sem, Try.results89, hC, hV]))
theorem dc_spec_l3Type (e : List TNode) (he : e.length ≤ 9223372036854775807) : DC Try.prog 89 [.isl 4 (e.map TNode.ro)] (.tup [.int .i64 (typV e), .int .i64 (typC e)]) [] := by
  by_cases h0 : exprF e = 0
  · by_cases hu : typU e e.length = true
    · exact dc_spec_l3Type_b e he h0 hu
    · exact dc_spec_l3Type_k e he h0 (by simpa using hu)
  · exact dc_spec_l3Type_f e he h0

/-- spec.l4Typed -/
theorem dc_spec_l4Typed (e : List TNode) (w : Int) (he : e.length ≤ 9223372036854775807) : DC Try.prog 49 [.isl 4 (e.map TNode.ro), .int .i64 w] (.int .i64 (typF e w)) [] := by
 refine DC.intro tiOk Try.func49 rfl rfl rfl rfl rfl rfl rfl rfl [] ?_
 refine rgA [0,1] ?_
 refine AW.seq ?_
 refine rgA [0,1,9] ?_
 refine AW.cond rfl ?_ ?_
 ·intro hc; try simp at hc
  all_goals (
   refine rgA [4] ?_
   refine rt ?_
   simp [go_sem, Try.results49, typF, firstC_cons, firstC_nil] <;> grind)
 ·intro hc; try simp at hc
  all_goals (
   refine AW.skipN (fun _ h => h) ?_
   refine rg [1,5,6] ?_
   intro k hk; simp -dsimp (maxSteps := 2000000) [go_sem, -decide_eq_true_eq, -decide_eq_false_iff_not]
   repeat' first | apply And.intro | refine hk _ ?_ | intro hg | (refine CallK.intro (dc_spec_l3Type e he) ?_; simp -dsimp (maxSteps := 2000000) [go_sem, -decide_eq_true_eq, -decide_eq_false_iff_not]) | omega | exact True.intro
   all_goals clear hk k
   refine AW.seq ?_
   refine rgA [1,5,6,16] ?_
   refine AW.cond rfl ?_ ?_
   ·intro hc; try simp at hc
    all_goals (
     refine rgA [4] ?_
     refine rt ?_
     simp [go_sem, Try.results49, typF, firstC_cons, firstC_nil] <;> grind)
   ·intro hc; try simp at hc
    all_goals (
     refine AW.skipN (fun _ h => h) ?_
     refine AW.seq ?_
     refine rgA [20] ?_
     refine AW.cond rfl ?_ ?_
     ·intro hc; try simp at hc
      all_goals (
       refine rgA [4] ?_
       refine rt ?_
       simp [go_sem, Try.results49, typF, firstC_cons, firstC_nil] <;> grind)
     ·intro hc; try simp at hc
      all_goals (
       refine AW.skipN (fun _ h => h) ?_
       refine rgA [4] ?_
       refine rt ?_
       simp [go_sem, Try.results49, typF, firstC_cons, firstC_nil] <;> grind)))

/-- spec.l1Name -/
theorem dc_spec_l1Name (s : List UInt8) (hs : s.length ≤ 9223372036854775807) : DC Try.prog 83 [.str s] (.int .i64 (nameF s)) [] := by
 refine DC.intro tiOk Try.func83 rfl rfl rfl rfl rfl rfl rfl rfl [] ?_
 refine rgA [0] ?_
 refine AW.seq ?_
 refine rgA [0,3] ?_
 refine AW.block ?_
 refine AW.loopI (fun i : Nat => ⟨25, [(0, .str s), (3, .int .i64 i)], []⟩) (fun i => i ≤ s.length ∧ (s.take i).all isLow = true) (fun i => s.length - i) (0) (by simp) (Less.of rfl (by simp [go_sem]) (by simp [go_sem])) ?_
 rintro i ⟨hi, hall⟩
 refine AW.seq ?_
 refine rgA [0,3,7] ?_
 refine AW.cond rfl ?_ ?_
 ·intro hc; try simp at hc
  all_goals (
   have hlt : i < s.length := by assumption
   obtain ⟨x, hx⟩ := at_some hlt
   refine AW.skipN (fun _ h => h) ?_
   refine AW.seq ?_
   refine AW.block ?_
   refine rg [0,3,19] ?_
   intro k hk; simp +contextual -dsimp (maxSteps := 2000000) [go_sem, -decide_eq_true_eq, -decide_eq_false_iff_not, hx]
   repeat' first | apply And.intro | refine hk _ ?_ | (intro hg; try simp only [decide_eq_true_eq, decide_eq_false_iff_not] at hg) | omega | exact True.intro
   all_goals clear hk k
   all_goals (
    refine AW.cond rfl ?_ ?_
    ·intro hc; try simp at hc
     all_goals (
      refine rg [2] ?_
      intro k hk; simp -dsimp [go_sem, -decide_eq_true_eq, -decide_eq_false_iff_not, hx]
      repeat' first | apply And.intro | refine hk _ ?_ | intro hg | omega | exact True.intro
      all_goals clear hk k
      refine rt ?_
      first | (have hr := all_not (p := isLow) hx (by simp [isLow]; omega); simp [go_sem, Try.results83, nameF, hr]; done) | (have hr := all_end (p := isLow) (show s.length ≤ i by omega) hall; simp [go_sem, Try.results83, nameF, hr] at * <;> grind))
    ·intro hc; try simp at hc
     all_goals (
      refine AW.skipN (fun _ h => h) ?_
      refine rgK ?_
      intro k hk; simp -dsimp [go_sem, -decide_eq_true_eq, -decide_eq_false_iff_not, hx]
      repeat' first | apply And.intro | refine hk _ ?_ | intro hg | omega | exact True.intro
      all_goals clear hk k
      show ∃ _, _
      have hw := wrapi hlt (by omega)
      refine ⟨i + 1, ⟨by omega, by rw [all_take hx hall]; simp [isLow]; omega⟩, by omega, Less.of rfl (by simp [go_sem, hw]) (by simp [go_sem])⟩)))
 ·intro hc; try simp at hc
  all_goals (
   refine AW.exitN (fun _ h => h) ?_
   refine AW.seq ?_
   refine rgA [0,21] ?_
   refine AW.cond rfl ?_ ?_
   ·intro hc; try simp at hc
    all_goals (
     refine rgA [2] ?_
     refine rt ?_
     first | (have hr := all_not (p := isLow) hx (by simp [isLow]; omega); simp [go_sem, Try.results83, nameF, hr]; done) | (have hr := all_end (p := isLow) (show s.length ≤ i by omega) hall; simp [go_sem, Try.results83, nameF, hr] at * <;> grind))
   ·intro hc; try simp at hc
    all_goals (
     refine AW.skipN (fun _ h => h) ?_
     refine AW.seq ?_
     refine rgA [24] ?_
     refine AW.cond rfl ?_ ?_
     ·intro hc; try simp at hc
      all_goals (
       refine rgA [2] ?_
       refine rt ?_
       first | (have hr := all_not (p := isLow) hx (by simp [isLow]; omega); simp [go_sem, Try.results83, nameF, hr]; done) | (have hr := all_end (p := isLow) (show s.length ≤ i by omega) hall; simp [go_sem, Try.results83, nameF, hr] at * <;> grind))
     ·intro hc; try simp at hc
      all_goals (
       refine AW.skipN (fun _ h => h) ?_
       refine rgA [2] ?_
       refine rt ?_
       first | (have hr := all_not (p := isLow) hx (by simp [isLow]; omega); simp [go_sem, Try.results83, nameF, hr]; done) | (have hr := all_end (p := isLow) (show s.length ≤ i by omega) hall; simp [go_sem, Try.results83, nameF, hr] at * <;> grind))))

end Go.AM
namespace Go.AM
open Go.Proofs

/-- spec.l4One -/
theorem dc_spec_l4One (p : List TStep) (hp : 1 ≤ p.length ∧ p.length ≤ 24) (hg : ∀ e ∈ p, e.gok) (i : Nat) (hi : i < p.length) (h1 : ∀ k, k < i → oneF p k = 0) : DC Try.prog 47 [.isl 6 (p.map TStep.ro), .int .i64 (i : Nat)] (.int .i64 (oneF p i)) [] := by
 obtain ⟨x, hx⟩ := at_some hi
 obtain ⟨g0, g1, g2⟩ := hg x (List.mem_of_getElem? hx)
 have hl := ones_ok i (by omega) h1
 have hL : ((pars p).take i).length = i := take_len (by omega)
 have hxo := oneF_at hx
 have hwi : IntKind.wrap .i64 ((i : Int) - 1) = (i : Int) - 1 := wrap64 (by omega) (by omega)
 have hdi : (decide ((i : Int) = 0)) = decide (i = 0) := by by_cases h : i = 0 <;> simp [h]
 refine DC.intro tiOk Try.func47 rfl rfl rfl rfl rfl rfl rfl rfl [] ?_
 refine rg [0,1] ?_
 intro k hk; simp -dsimp [go_sem, -decide_eq_true_eq, -decide_eq_false_iff_not, hx, hwi]
 repeat' first | apply And.intro | refine hk _ ?_ | intro hg | omega | exact True.intro
 all_goals clear hk k
 refine rg [0,1,5] ?_
 intro k hk; simp -dsimp [go_sem, -decide_eq_true_eq, -decide_eq_false_iff_not, hx, hwi]
 repeat' first | apply And.intro | refine hk _ ?_ | intro hg | omega | exact True.intro
 all_goals clear hk k
 refine AW.seq ?_
 refine AW.cut ⟨82, [(0, .isl 6 (p.map TStep.ro)), (1, .int .i64 (i : Nat)), (5, .ip x.ro), (20, .bool (decide (inR x.kind 1 8 = false ∨ alien x = true)))], []⟩ ?_ ?_
 ·skip
  refine rgK ?_
  intro k hk; simp +contextual -dsimp (maxSteps := 2000000) [go_sem, -decide_eq_true_eq, -decide_eq_false_iff_not, hx, hwi]
  repeat' first | apply And.intro | refine hk _ ?_ | (intro hg; try simp only [decide_eq_true_eq, decide_eq_false_iff_not] at hg) | ((first | refine CallK.intro (dc_spec_l1In _ _ _) ?_ | refine CallK.intro (dc_spec_l4Bare x ⟨g0, g1, g2⟩) ?_); simp +contextual -dsimp (maxSteps := 2000000) [go_sem, -decide_eq_true_eq, -decide_eq_false_iff_not, hx, hwi]) | omega | exact True.intro
  all_goals clear hk k
  all_goals (show St.Less _ _; exact Less.of rfl (by simp [go_sem] <;> first | omega | grind) (by simp [go_sem]))
 ·skip
  refine AW.cond rfl ?_ ?_
  ·intro hc; try simp at hc
   all_goals try (exfalso; omega; done)
   all_goals (
    refine rg [4] ?_
    intro k hk; simp -dsimp [go_sem, -decide_eq_true_eq, -decide_eq_false_iff_not, hx, hwi]
    repeat' first | apply And.intro | refine hk _ ?_ | intro hg | omega | exact True.intro
    all_goals clear hk k
    refine rt ?_
    rw [hxo]
    first | (have hs : stepF ((pars p).take i) x = 1 := (by have := @inR_iff x.kind 1 8; unfold stepF; grind); rw [hs]; simp [go_sem, Try.results47]; done) | (have hs : stepF ((pars p).take i) x = 3 := (by have := @inR_iff x.kind 1 8; unfold stepF; grind); rw [hs]; simp [go_sem, Try.results47]; done) | (have hs : stepF ((pars p).take i) x = 2 := (by have := @inR_iff x.kind 1 8; unfold stepF; grind); rw [hs]; simp [go_sem, Try.results47]; done) | (have hs : stepF ((pars p).take i) x = nameF x.name := (by have := @inR_iff x.kind 1 8; unfold stepF; grind); rw [hs]; simp [go_sem, Try.results47]; done) | (have hs : stepF ((pars p).take i) x = exprF x.expr := (by have := @inR_iff x.kind 1 8; unfold stepF; grind); rw [hs]; simp [go_sem, Try.results47]; done) | (have hs : stepF ((pars p).take i) x = 0 := (by have := @inR_iff x.kind 1 8; unfold stepF; unfold alien at *; unfold lowA highA at *; grind); rw [hs]; simp [go_sem, Try.results47]))
  ·intro hc; try simp at hc
   all_goals try (exfalso; omega; done)
   all_goals (
    refine AW.skipN (fun _ h => h) ?_
    refine AW.seq ?_
    refine AW.cut ⟨82, [(0, .isl 6 (p.map TStep.ro)), (1, .int .i64 (i : Nat)), (5, .ip x.ro), (43, .bool (decide (parF ((pars p).take i) x.par = 3)))], []⟩ ?_ ?_
    ·skip
     refine rgK ?_
     intro k hk; simp +contextual -dsimp (maxSteps := 2000000) [go_sem, -decide_eq_true_eq, -decide_eq_false_iff_not, hx, hwi]
     repeat' first | apply And.intro | refine hk _ ?_ | (intro hg; try simp only [decide_eq_true_eq, decide_eq_false_iff_not] at hg) | (refine CallK.intro (dc_spec_l1In _ _ _) ?_; simp +contextual -dsimp (maxSteps := 2000000) [go_sem, -decide_eq_true_eq, -decide_eq_false_iff_not, hx, hwi]) | omega | exact True.intro
     all_goals clear hk k
     all_goals (show St.Less _ _; exact Less.of rfl (by simp [go_sem, parF, hL, inR] at * <;> grind) (by simp [go_sem]))
    ·skip
     refine AW.cond rfl ?_ ?_
     ·intro hc; try simp at hc
      all_goals try (exfalso; omega; done)
      all_goals (
       refine rg [4] ?_
       intro k hk; simp -dsimp [go_sem, -decide_eq_true_eq, -decide_eq_false_iff_not, hx, hwi]
       repeat' first | apply And.intro | refine hk _ ?_ | intro hg | omega | exact True.intro
       all_goals clear hk k
       refine rt ?_
       rw [hxo]
       first | (have hs : stepF ((pars p).take i) x = 1 := (by have := @inR_iff x.kind 1 8; unfold stepF; grind); rw [hs]; simp [go_sem, Try.results47]; done) | (have hs : stepF ((pars p).take i) x = 3 := (by have := @inR_iff x.kind 1 8; unfold stepF; grind); rw [hs]; simp [go_sem, Try.results47]; done) | (have hs : stepF ((pars p).take i) x = 2 := (by have := @inR_iff x.kind 1 8; unfold stepF; grind); rw [hs]; simp [go_sem, Try.results47]; done) | (have hs : stepF ((pars p).take i) x = nameF x.name := (by have := @inR_iff x.kind 1 8; unfold stepF; grind); rw [hs]; simp [go_sem, Try.results47]; done) | (have hs : stepF ((pars p).take i) x = exprF x.expr := (by have := @inR_iff x.kind 1 8; unfold stepF; grind); rw [hs]; simp [go_sem, Try.results47]; done) | (have hs : stepF ((pars p).take i) x = 0 := (by have := @inR_iff x.kind 1 8; unfold stepF; unfold alien at *; unfold lowA highA at *; grind); rw [hs]; simp [go_sem, Try.results47]))
     ·intro hc; try simp at hc
      all_goals try (exfalso; omega; done)
      all_goals (
       refine AW.skipN (fun _ h => h) ?_
       refine AW.seq ?_
       refine AW.cut ⟨82, [(0, .isl 6 (p.map TStep.ro)), (1, .int .i64 (i : Nat)), (5, .ip x.ro), (51, .bool (decide (parF ((pars p).take i) x.par = 1)))], []⟩ ?_ ?_
       ·skip
        refine rgK ?_
        intro k hk; simp +contextual -dsimp (maxSteps := 2000000) [go_sem, -decide_eq_true_eq, -decide_eq_false_iff_not, hx, hwi]
        repeat' first | apply And.intro | refine hk _ ?_ | (intro hg; try simp only [decide_eq_true_eq, decide_eq_false_iff_not] at hg) | (refine CallK.intro (dc_spec_l4Line p hp.2 i x hx (by omega) hl) ?_; simp +contextual -dsimp (maxSteps := 2000000) [go_sem, -decide_eq_true_eq, -decide_eq_false_iff_not, hx, hwi]) | omega | exact True.intro
        all_goals clear hk k
        all_goals (show St.Less _ _; exact Less.of rfl (by simp [go_sem, parF, hL] at * <;> grind) (by simp [go_sem]))
       ·skip
        refine AW.cond rfl ?_ ?_
        ·intro hc; try simp at hc
         all_goals try (exfalso; omega; done)
         all_goals (
          refine rg [4] ?_
          intro k hk; simp -dsimp [go_sem, -decide_eq_true_eq, -decide_eq_false_iff_not, hx, hwi]
          repeat' first | apply And.intro | refine hk _ ?_ | intro hg | omega | exact True.intro
          all_goals clear hk k
          refine rt ?_
          rw [hxo]
          first | (have hs : stepF ((pars p).take i) x = 1 := (by have := @inR_iff x.kind 1 8; unfold stepF; grind); rw [hs]; simp [go_sem, Try.results47]; done) | (have hs : stepF ((pars p).take i) x = 3 := (by have := @inR_iff x.kind 1 8; unfold stepF; grind); rw [hs]; simp [go_sem, Try.results47]; done) | (have hs : stepF ((pars p).take i) x = 2 := (by have := @inR_iff x.kind 1 8; unfold stepF; grind); rw [hs]; simp [go_sem, Try.results47]; done) | (have hs : stepF ((pars p).take i) x = nameF x.name := (by have := @inR_iff x.kind 1 8; unfold stepF; grind); rw [hs]; simp [go_sem, Try.results47]; done) | (have hs : stepF ((pars p).take i) x = exprF x.expr := (by have := @inR_iff x.kind 1 8; unfold stepF; grind); rw [hs]; simp [go_sem, Try.results47]; done) | (have hs : stepF ((pars p).take i) x = 0 := (by have := @inR_iff x.kind 1 8; unfold stepF; unfold alien at *; unfold lowA highA at *; grind); rw [hs]; simp [go_sem, Try.results47]))
        ·intro hc; try simp at hc
         all_goals try (exfalso; omega; done)
         all_goals (
          refine AW.skipN (fun _ h => h) ?_
          refine AW.seq ?_
          have hz : parF ((pars p).take i) x.par = 0 := by have : parF ((pars p).take i) x.par = 0 ∨ parF ((pars p).take i) x.par = 1 ∨ parF ((pars p).take i) x.par = 3 := (by unfold parF; split; exact Or.inr (Or.inr rfl); split; exact Or.inr (Or.inl rfl); exact Or.inl rfl); grind
          have hpo := parF_ok hz
          have htn := take_next hx
          have hl2 : ParOk ((pars p).take (i + 1)) := by rw [htn]; exact hl.snoc hpo.1 hpo.2.1
          refine rg [5,55] ?_
          intro k hk; simp -dsimp (maxSteps := 2000000) [go_sem, -decide_eq_true_eq, -decide_eq_false_iff_not, hx, hwi, htn]
          repeat' first | apply And.intro | refine hk _ ?_ | intro hg | (refine CallK.intro (dc_spec_l4Deep p hp.2 (i + 1) (by omega) hl2 (i : Int) (by omega)) ?_; simp -dsimp (maxSteps := 2000000) [go_sem, -decide_eq_true_eq, -decide_eq_false_iff_not, hx, hwi, htn]) | omega | exact True.intro
          all_goals clear hk k
          refine AW.cond rfl ?_ ?_
          ·intro hc; try simp at hc
           all_goals try (exfalso; omega; done)
           all_goals (
            refine rg [4] ?_
            intro k hk; simp -dsimp [go_sem, -decide_eq_true_eq, -decide_eq_false_iff_not, hx, hwi]
            repeat' first | apply And.intro | refine hk _ ?_ | intro hg | omega | exact True.intro
            all_goals clear hk k
            refine rt ?_
            rw [hxo]
            first | (have hs : stepF ((pars p).take i) x = 1 := (by have := @inR_iff x.kind 1 8; unfold stepF; grind); rw [hs]; simp [go_sem, Try.results47]; done) | (have hs : stepF ((pars p).take i) x = 3 := (by have := @inR_iff x.kind 1 8; unfold stepF; grind); rw [hs]; simp [go_sem, Try.results47]; done) | (have hs : stepF ((pars p).take i) x = 2 := (by have := @inR_iff x.kind 1 8; unfold stepF; grind); rw [hs]; simp [go_sem, Try.results47]; done) | (have hs : stepF ((pars p).take i) x = nameF x.name := (by have := @inR_iff x.kind 1 8; unfold stepF; grind); rw [hs]; simp [go_sem, Try.results47]; done) | (have hs : stepF ((pars p).take i) x = exprF x.expr := (by have := @inR_iff x.kind 1 8; unfold stepF; grind); rw [hs]; simp [go_sem, Try.results47]; done) | (have hs : stepF ((pars p).take i) x = 0 := (by have := @inR_iff x.kind 1 8; unfold stepF; unfold alien at *; unfold lowA highA at *; grind); rw [hs]; simp [go_sem, Try.results47]))
          ·intro hc; try simp at hc
           all_goals try (exfalso; omega; done)
           all_goals (
            refine AW.skipN (fun _ h => h) ?_
            refine AW.seq ?_
            refine rg [5,60] ?_
            intro k hk; simp -dsimp [go_sem, -decide_eq_true_eq, -decide_eq_false_iff_not, hx, hwi]
            repeat' first | apply And.intro | refine hk _ ?_ | intro hg | omega | exact True.intro
            all_goals clear hk k
            refine AW.cond rfl ?_ ?_
            ·intro hc; try simp at hc
             all_goals try (exfalso; omega; done)
             all_goals (
              refine rg [5,6] ?_
              intro k hk; simp -dsimp (maxSteps := 2000000) [go_sem, -decide_eq_true_eq, -decide_eq_false_iff_not, hx, hwi]
              repeat' first | apply And.intro | refine hk _ ?_ | intro hg | (refine CallK.intro (dc_spec_l1Name x.name g0) ?_; simp -dsimp (maxSteps := 2000000) [go_sem, -decide_eq_true_eq, -decide_eq_false_iff_not, hx, hwi]) | omega | exact True.intro
              all_goals clear hk k
              refine rg [5,6,67] ?_
              intro k hk; simp -dsimp [go_sem, -decide_eq_true_eq, -decide_eq_false_iff_not, hx, hwi]
              repeat' first | apply And.intro | refine hk _ ?_ | intro hg | omega | exact True.intro
              all_goals clear hk k
              refine AW.cond rfl ?_ ?_
              ·intro hc; try simp at hc
               all_goals try (exfalso; omega; done)
               all_goals (
                refine rg [4] ?_
                intro k hk; simp -dsimp [go_sem, -decide_eq_true_eq, -decide_eq_false_iff_not, hx, hwi]
                repeat' first | apply And.intro | refine hk _ ?_ | intro hg | omega | exact True.intro
                all_goals clear hk k
                refine rt ?_
                rw [hxo]
                first | (have hs : stepF ((pars p).take i) x = 1 := (by have := @inR_iff x.kind 1 8; unfold stepF; grind); rw [hs]; simp [go_sem, Try.results47]; done) | (have hs : stepF ((pars p).take i) x = 3 := (by have := @inR_iff x.kind 1 8; unfold stepF; grind); rw [hs]; simp [go_sem, Try.results47]; done) | (have hs : stepF ((pars p).take i) x = 2 := (by have := @inR_iff x.kind 1 8; unfold stepF; grind); rw [hs]; simp [go_sem, Try.results47]; done) | (have hs : stepF ((pars p).take i) x = nameF x.name := (by have := @inR_iff x.kind 1 8; unfold stepF; grind); rw [hs]; simp [go_sem, Try.results47]; done) | (have hs : stepF ((pars p).take i) x = exprF x.expr := (by have := @inR_iff x.kind 1 8; unfold stepF; grind); rw [hs]; simp [go_sem, Try.results47]; done) | (have hs : stepF ((pars p).take i) x = 0 := (by have := @inR_iff x.kind 1 8; unfold stepF; unfold alien at *; unfold lowA highA at *; grind); rw [hs]; simp [go_sem, Try.results47]))
              ·intro hc; try simp at hc
               all_goals try (exfalso; omega; done)
               all_goals (
                refine AW.skipN (fun _ h => h) ?_
                refine AW.seq ?_
                refine rg [5,71] ?_
                intro k hk; simp -dsimp (maxSteps := 2000000) [go_sem, -decide_eq_true_eq, -decide_eq_false_iff_not, hx, hwi]
                repeat' first | apply And.intro | refine hk _ ?_ | intro hg | (refine CallK.intro (dc_spec_l4Arg _) ?_; simp -dsimp (maxSteps := 2000000) [go_sem, -decide_eq_true_eq, -decide_eq_false_iff_not, hx, hwi]) | omega | exact True.intro
                all_goals clear hk k
                refine AW.cond rfl ?_ ?_
                ·intro hc; try simp at hc
                 all_goals try (exfalso; omega; done)
                 all_goals (
                  refine rg [4] ?_
                  intro k hk; simp -dsimp [go_sem, -decide_eq_true_eq, -decide_eq_false_iff_not, hx, hwi]
                  repeat' first | apply And.intro | refine hk _ ?_ | intro hg | omega | exact True.intro
                  all_goals clear hk k
                  refine rt ?_
                  rw [hxo]
                  first | (have hs : stepF ((pars p).take i) x = 1 := (by have := @inR_iff x.kind 1 8; unfold stepF; grind); rw [hs]; simp [go_sem, Try.results47]; done) | (have hs : stepF ((pars p).take i) x = 3 := (by have := @inR_iff x.kind 1 8; unfold stepF; grind); rw [hs]; simp [go_sem, Try.results47]; done) | (have hs : stepF ((pars p).take i) x = 2 := (by have := @inR_iff x.kind 1 8; unfold stepF; grind); rw [hs]; simp [go_sem, Try.results47]; done) | (have hs : stepF ((pars p).take i) x = nameF x.name := (by have := @inR_iff x.kind 1 8; unfold stepF; grind); rw [hs]; simp [go_sem, Try.results47]; done) | (have hs : stepF ((pars p).take i) x = exprF x.expr := (by have := @inR_iff x.kind 1 8; unfold stepF; grind); rw [hs]; simp [go_sem, Try.results47]; done) | (have hs : stepF ((pars p).take i) x = 0 := (by have := @inR_iff x.kind 1 8; unfold stepF; unfold alien at *; unfold lowA highA at *; grind); rw [hs]; simp [go_sem, Try.results47]))
                ·intro hc; try simp at hc
                 all_goals try (exfalso; omega; done)
                 all_goals (
                  refine AW.skipN (fun _ h => h) ?_
                  refine AW.seq ?_
                  refine rg [5,76] ?_
                  intro k hk; simp -dsimp [go_sem, -decide_eq_true_eq, -decide_eq_false_iff_not, hx, hwi]
                  repeat' first | apply And.intro | refine hk _ ?_ | intro hg | omega | exact True.intro
                  all_goals clear hk k
                  refine AW.cond rfl ?_ ?_
                  ·intro hc; try simp at hc
                   all_goals try (exfalso; omega; done)
                   all_goals (
                    refine rg [4] ?_
                    intro k hk; simp -dsimp (maxSteps := 2000000) [go_sem, -decide_eq_true_eq, -decide_eq_false_iff_not, hx, hwi]
                    repeat' first | apply And.intro | refine hk _ ?_ | intro hg | (refine CallK.intro (dc_spec_l3Fault x.expr g2) ?_; simp -dsimp (maxSteps := 2000000) [go_sem, -decide_eq_true_eq, -decide_eq_false_iff_not, hx, hwi]) | omega | exact True.intro
                    all_goals clear hk k
                    refine rt ?_
                    rw [hxo]
                    first | (have hs : stepF ((pars p).take i) x = 1 := (by have := @inR_iff x.kind 1 8; unfold stepF; grind); rw [hs]; simp [go_sem, Try.results47]; done) | (have hs : stepF ((pars p).take i) x = 3 := (by have := @inR_iff x.kind 1 8; unfold stepF; grind); rw [hs]; simp [go_sem, Try.results47]; done) | (have hs : stepF ((pars p).take i) x = 2 := (by have := @inR_iff x.kind 1 8; unfold stepF; grind); rw [hs]; simp [go_sem, Try.results47]; done) | (have hs : stepF ((pars p).take i) x = nameF x.name := (by have := @inR_iff x.kind 1 8; unfold stepF; grind); rw [hs]; simp [go_sem, Try.results47]; done) | (have hs : stepF ((pars p).take i) x = exprF x.expr := (by have := @inR_iff x.kind 1 8; unfold stepF; grind); rw [hs]; simp [go_sem, Try.results47]; done) | (have hs : stepF ((pars p).take i) x = 0 := (by have := @inR_iff x.kind 1 8; unfold stepF; unfold alien at *; unfold lowA highA at *; grind); rw [hs]; simp [go_sem, Try.results47]))
                  ·intro hc; try simp at hc
                   all_goals try (exfalso; omega; done)
                   all_goals (
                    refine AW.skipN (fun _ h => h) ?_
                    refine rg [4] ?_
                    intro k hk; simp -dsimp [go_sem, -decide_eq_true_eq, -decide_eq_false_iff_not, hx, hwi]
                    repeat' first | apply And.intro | refine hk _ ?_ | intro hg | omega | exact True.intro
                    all_goals clear hk k
                    refine rt ?_
                    rw [hxo]
                    first | (have hs : stepF ((pars p).take i) x = 1 := (by have := @inR_iff x.kind 1 8; unfold stepF; grind); rw [hs]; simp [go_sem, Try.results47]; done) | (have hs : stepF ((pars p).take i) x = 3 := (by have := @inR_iff x.kind 1 8; unfold stepF; grind); rw [hs]; simp [go_sem, Try.results47]; done) | (have hs : stepF ((pars p).take i) x = 2 := (by have := @inR_iff x.kind 1 8; unfold stepF; grind); rw [hs]; simp [go_sem, Try.results47]; done) | (have hs : stepF ((pars p).take i) x = nameF x.name := (by have := @inR_iff x.kind 1 8; unfold stepF; grind); rw [hs]; simp [go_sem, Try.results47]; done) | (have hs : stepF ((pars p).take i) x = exprF x.expr := (by have := @inR_iff x.kind 1 8; unfold stepF; grind); rw [hs]; simp [go_sem, Try.results47]; done) | (have hs : stepF ((pars p).take i) x = 0 := (by have := @inR_iff x.kind 1 8; unfold stepF; unfold alien at *; unfold lowA highA at *; grind); rw [hs]; simp [go_sem, Try.results47])))))
            ·intro hc; try simp at hc
             all_goals try (exfalso; omega; done)
             all_goals (
              refine AW.skipN (fun _ h => h) ?_
              refine AW.seq ?_
              refine rg [5,71] ?_
              intro k hk; simp -dsimp (maxSteps := 2000000) [go_sem, -decide_eq_true_eq, -decide_eq_false_iff_not, hx, hwi]
              repeat' first | apply And.intro | refine hk _ ?_ | intro hg | (refine CallK.intro (dc_spec_l4Arg _) ?_; simp -dsimp (maxSteps := 2000000) [go_sem, -decide_eq_true_eq, -decide_eq_false_iff_not, hx, hwi]) | omega | exact True.intro
              all_goals clear hk k
              refine AW.cond rfl ?_ ?_
              ·intro hc; try simp at hc
               all_goals try (exfalso; omega; done)
               all_goals (
                refine rg [4] ?_
                intro k hk; simp -dsimp [go_sem, -decide_eq_true_eq, -decide_eq_false_iff_not, hx, hwi]
                repeat' first | apply And.intro | refine hk _ ?_ | intro hg | omega | exact True.intro
                all_goals clear hk k
                refine rt ?_
                rw [hxo]
                first | (have hs : stepF ((pars p).take i) x = 1 := (by have := @inR_iff x.kind 1 8; unfold stepF; grind); rw [hs]; simp [go_sem, Try.results47]; done) | (have hs : stepF ((pars p).take i) x = 3 := (by have := @inR_iff x.kind 1 8; unfold stepF; grind); rw [hs]; simp [go_sem, Try.results47]; done) | (have hs : stepF ((pars p).take i) x = 2 := (by have := @inR_iff x.kind 1 8; unfold stepF; grind); rw [hs]; simp [go_sem, Try.results47]; done) | (have hs : stepF ((pars p).take i) x = nameF x.name := (by have := @inR_iff x.kind 1 8; unfold stepF; grind); rw [hs]; simp [go_sem, Try.results47]; done) | (have hs : stepF ((pars p).take i) x = exprF x.expr := (by have := @inR_iff x.kind 1 8; unfold stepF; grind); rw [hs]; simp [go_sem, Try.results47]; done) | (have hs : stepF ((pars p).take i) x = 0 := (by have := @inR_iff x.kind 1 8; unfold stepF; unfold alien at *; unfold lowA highA at *; grind); rw [hs]; simp [go_sem, Try.results47]))
              ·intro hc; try simp at hc
               all_goals try (exfalso; omega; done)
               all_goals (
                refine AW.skipN (fun _ h => h) ?_
                refine AW.seq ?_
                refine rg [5,76] ?_
                intro k hk; simp -dsimp [go_sem, -decide_eq_true_eq, -decide_eq_false_iff_not, hx, hwi]
                repeat' first | apply And.intro | refine hk _ ?_ | intro hg | omega | exact True.intro
                all_goals clear hk k
                refine AW.cond rfl ?_ ?_
                ·intro hc; try simp at hc
                 all_goals try (exfalso; omega; done)
                 all_goals (
                  refine rg [4] ?_
                  intro k hk; simp -dsimp (maxSteps := 2000000) [go_sem, -decide_eq_true_eq, -decide_eq_false_iff_not, hx, hwi]
                  repeat' first | apply And.intro | refine hk _ ?_ | intro hg | (refine CallK.intro (dc_spec_l3Fault x.expr g2) ?_; simp -dsimp (maxSteps := 2000000) [go_sem, -decide_eq_true_eq, -decide_eq_false_iff_not, hx, hwi]) | omega | exact True.intro
                  all_goals clear hk k
                  refine rt ?_
                  rw [hxo]
                  first | (have hs : stepF ((pars p).take i) x = 1 := (by have := @inR_iff x.kind 1 8; unfold stepF; grind); rw [hs]; simp [go_sem, Try.results47]; done) | (have hs : stepF ((pars p).take i) x = 3 := (by have := @inR_iff x.kind 1 8; unfold stepF; grind); rw [hs]; simp [go_sem, Try.results47]; done) | (have hs : stepF ((pars p).take i) x = 2 := (by have := @inR_iff x.kind 1 8; unfold stepF; grind); rw [hs]; simp [go_sem, Try.results47]; done) | (have hs : stepF ((pars p).take i) x = nameF x.name := (by have := @inR_iff x.kind 1 8; unfold stepF; grind); rw [hs]; simp [go_sem, Try.results47]; done) | (have hs : stepF ((pars p).take i) x = exprF x.expr := (by have := @inR_iff x.kind 1 8; unfold stepF; grind); rw [hs]; simp [go_sem, Try.results47]; done) | (have hs : stepF ((pars p).take i) x = 0 := (by have := @inR_iff x.kind 1 8; unfold stepF; unfold alien at *; unfold lowA highA at *; grind); rw [hs]; simp [go_sem, Try.results47]))
                ·intro hc; try simp at hc
                 all_goals try (exfalso; omega; done)
                 all_goals (
                  refine AW.skipN (fun _ h => h) ?_
                  refine rg [4] ?_
                  intro k hk; simp -dsimp [go_sem, -decide_eq_true_eq, -decide_eq_false_iff_not, hx, hwi]
                  repeat' first | apply And.intro | refine hk _ ?_ | intro hg | omega | exact True.intro
                  all_goals clear hk k
                  refine rt ?_
                  rw [hxo]
                  first | (have hs : stepF ((pars p).take i) x = 1 := (by have := @inR_iff x.kind 1 8; unfold stepF; grind); rw [hs]; simp [go_sem, Try.results47]; done) | (have hs : stepF ((pars p).take i) x = 3 := (by have := @inR_iff x.kind 1 8; unfold stepF; grind); rw [hs]; simp [go_sem, Try.results47]; done) | (have hs : stepF ((pars p).take i) x = 2 := (by have := @inR_iff x.kind 1 8; unfold stepF; grind); rw [hs]; simp [go_sem, Try.results47]; done) | (have hs : stepF ((pars p).take i) x = nameF x.name := (by have := @inR_iff x.kind 1 8; unfold stepF; grind); rw [hs]; simp [go_sem, Try.results47]; done) | (have hs : stepF ((pars p).take i) x = exprF x.expr := (by have := @inR_iff x.kind 1 8; unfold stepF; grind); rw [hs]; simp [go_sem, Try.results47]; done) | (have hs : stepF ((pars p).take i) x = 0 := (by have := @inR_iff x.kind 1 8; unfold stepF; unfold alien at *; unfold lowA highA at *; grind); rw [hs]; simp [go_sem, Try.results47]))))))))

end Go.AM
namespace Go.AM
open Go.Proofs

/-- spec.l4Shape -/
theorem dc_spec_l4Shape (p : List TStep) (ho : StepsOk p) (hg : ∀ e ∈ p, e.gok) : DC Try.prog 48 [.isl 6 (p.map TStep.ro)] (.int .i64 (sc (shapeF p) p.length 0)) [] := by
 have hlen := ho.len
 refine DC.intro tiOk Try.func48 rfl rfl rfl rfl rfl rfl rfl rfl [] ?_
 refine rgA [0] ?_
 refine AW.seq ?_
 refine rgA [0,3] ?_
 refine AW.block ?_
 refine AW.loopI (fun i : Nat => ⟨49, [(0, .isl 6 (p.map TStep.ro)), (3, .int .i64 i)], []⟩) (fun i => i ≤ p.length ∧ ∀ k, k < i → shapeF p k = 0) (fun i => p.length - i) (0) (by simp) (Less.of rfl (by simp [go_sem]) (by simp [go_sem])) ?_
 rintro i ⟨hi, hall⟩
 refine AW.seq ?_
 refine rgA [0,3,8] ?_
 refine AW.cond rfl ?_ ?_
 ·intro hc; try simp at hc
  all_goals (
   have hlt : i < p.length := by assumption
   obtain ⟨x, hx⟩ := at_some hlt
   have hxS := nS_at hx
   obtain ⟨g0, g1, g2⟩ := hg x (List.mem_of_getElem? hx)
   have hkm := kids_len p (i : Int)
   refine AW.skipN (fun _ h => h) ?_
   refine AW.seq ?_
   refine AW.block ?_
   refine AW.seq ?_
   refine rg [0,3,21] ?_
   intro k hk; simp -dsimp (maxSteps := 2000000) [go_sem, -decide_eq_true_eq, -decide_eq_false_iff_not, hx]
   repeat' first | (refine Chk.keys ?_; simp only [go_sem, List.map_cons, List.map_nil, List.flatMap_cons, List.flatMap_nil, List.flatMap_append, List.append_nil, List.nil_append, List.cons_append]; decide +kernel) | apply And.intro | refine hk _ ?_ | intro hg | ((first | refine CallK.intro (dc_spec_l4Kids p (i : Int) (by omega) (by rw [ho.par0]; omega)) ?_ | refine CallK.intro (dc_spec_l4Many x.kind (kids p (i : Int)).length (by omega)) ?_); simp -dsimp (maxSteps := 2000000) [go_sem, -decide_eq_true_eq, -decide_eq_false_iff_not, hx]) | omega | exact True.intro
   all_goals clear hk k
   refine AW.cond rfl ?_ ?_
   ·intro hc; try simp at hc
    all_goals (
     refine rg [2] ?_
     intro k hk; simp -dsimp [go_sem, -decide_eq_true_eq, -decide_eq_false_iff_not, hx]
     repeat' first | apply And.intro | refine hk _ ?_ | intro hg | omega | exact True.intro
     all_goals clear hk k
     refine rt ?_
     first | (rw [sc_none (fun k hk => hall k (by omega))]; simp [go_sem, Try.results48]; done) | (have hs : shapeF p i = 1 := (by simp [shapeF, hxS] at * <;> grind); rw [shape_sc hlt hall (by rw [hs]; decide), hs]; simp [go_sem, Try.results48]; done) | (have hs : shapeF p i = exprF x.cond := (by simp [shapeF, hxS] at * <;> grind); rw [shape_sc hlt hall (by rw [hs]; first | assumption | simpa using hc), hs]; simp [go_sem, Try.results48]))
   ·intro hc; try simp at hc
    all_goals (
     refine AW.skipN (fun _ h => h) ?_
     refine AW.seq ?_
     refine rg [0,3,32] ?_
     intro k hk; simp -dsimp (maxSteps := 2000000) [go_sem, -decide_eq_true_eq, -decide_eq_false_iff_not, hx]
     repeat' first | (refine Chk.keys ?_; simp only [go_sem, List.map_cons, List.map_nil, List.flatMap_cons, List.flatMap_nil, List.flatMap_append, List.append_nil, List.nil_append, List.cons_append]; decide +kernel) | apply And.intro | refine hk _ ?_ | intro hg | (refine CallK.intro (dc_spec_l4Needs p ho i hlt) ?_; simp -dsimp (maxSteps := 2000000) [go_sem, -decide_eq_true_eq, -decide_eq_false_iff_not, hx]) | omega | exact True.intro
     all_goals clear hk k
     refine AW.cond rfl ?_ ?_
     ·intro hc; try simp at hc
      all_goals (
       refine rg [2] ?_
       intro k hk; simp -dsimp [go_sem, -decide_eq_true_eq, -decide_eq_false_iff_not, hx]
       repeat' first | apply And.intro | refine hk _ ?_ | intro hg | omega | exact True.intro
       all_goals clear hk k
       refine rt ?_
       first | (rw [sc_none (fun k hk => hall k (by omega))]; simp [go_sem, Try.results48]; done) | (have hs : shapeF p i = 1 := (by simp [shapeF, hxS] at * <;> grind); rw [shape_sc hlt hall (by rw [hs]; decide), hs]; simp [go_sem, Try.results48]; done) | (have hs : shapeF p i = exprF x.cond := (by simp [shapeF, hxS] at * <;> grind); rw [shape_sc hlt hall (by rw [hs]; first | assumption | simpa using hc), hs]; simp [go_sem, Try.results48]))
     ·intro hc; try simp at hc
      all_goals (
       refine AW.skipN (fun _ h => h) ?_
       refine rg [0,3,39] ?_
       intro k hk; simp -dsimp (maxSteps := 2000000) [go_sem, -decide_eq_true_eq, -decide_eq_false_iff_not, hx]
       repeat' first | apply And.intro | refine hk _ ?_ | intro hg | omega | exact True.intro
       all_goals clear hk k
       refine AW.cond rfl ?_ ?_
       ·intro hc; try simp at hc
        all_goals (
         refine rg [0,3,4] ?_
         intro k hk; simp -dsimp (maxSteps := 2000000) [go_sem, -decide_eq_true_eq, -decide_eq_false_iff_not, hx]
         repeat' first | apply And.intro | refine hk _ ?_ | intro hg | (refine CallK.intro (dc_spec_l3Fault x.cond g1) ?_; simp -dsimp (maxSteps := 2000000) [go_sem, -decide_eq_true_eq, -decide_eq_false_iff_not, hx]) | omega | exact True.intro
         all_goals clear hk k
         refine rg [0,3,4,47] ?_
         intro k hk; simp -dsimp [go_sem, -decide_eq_true_eq, -decide_eq_false_iff_not, hx]
         repeat' first | apply And.intro | refine hk _ ?_ | intro hg | omega | exact True.intro
         all_goals clear hk k
         refine AW.cond rfl ?_ ?_
         ·intro hc; try simp at hc
          all_goals (
           refine rg [2] ?_
           intro k hk; simp -dsimp [go_sem, -decide_eq_true_eq, -decide_eq_false_iff_not, hx]
           repeat' first | apply And.intro | refine hk _ ?_ | intro hg | omega | exact True.intro
           all_goals clear hk k
           refine rt ?_
           first | (rw [sc_none (fun k hk => hall k (by omega))]; simp [go_sem, Try.results48]; done) | (have hs : shapeF p i = 1 := (by simp [shapeF, hxS] at * <;> grind); rw [shape_sc hlt hall (by rw [hs]; decide), hs]; simp [go_sem, Try.results48]; done) | (have hs : shapeF p i = exprF x.cond := (by simp [shapeF, hxS] at * <;> grind); rw [shape_sc hlt hall (by rw [hs]; first | assumption | simpa using hc), hs]; simp [go_sem, Try.results48]))
         ·intro hc; try simp at hc
          all_goals (
           refine AW.skipN (fun _ h => h) ?_
           refine rgK ?_
           intro k hk; simp -dsimp [go_sem, -decide_eq_true_eq, -decide_eq_false_iff_not, hx]
           repeat' first | apply And.intro | refine hk _ ?_ | intro hg | omega | exact True.intro
           all_goals clear hk k
           show ∃ _, _
           have hw := wrapi hlt (by omega)
           refine ⟨i + 1, ⟨by omega, upto hall (by simp [shapeF, hxS] at * <;> grind)⟩, by omega, Less.of rfl (by simp [go_sem, hw]) (by simp [go_sem])⟩))
       ·intro hc; try simp at hc
        all_goals (
         refine AW.skipN (fun _ h => h) ?_
         refine rgK ?_
         intro k hk; simp -dsimp [go_sem, -decide_eq_true_eq, -decide_eq_false_iff_not, hx]
         repeat' first | apply And.intro | refine hk _ ?_ | intro hg | omega | exact True.intro
         all_goals clear hk k
         show ∃ _, _
         have hw := wrapi hlt (by omega)
         refine ⟨i + 1, ⟨by omega, upto hall (by simp [shapeF, hxS] at * <;> grind)⟩, by omega, Less.of rfl (by simp [go_sem, hw]) (by simp [go_sem])⟩))))
 ·intro hc; try simp at hc
  all_goals (
   refine AW.exitN (fun _ h => h) ?_
   refine rgA [2] ?_
   refine rt ?_
   first | (rw [sc_none (fun k hk => hall k (by omega))]; simp [go_sem, Try.results48]; done) | (have hs : shapeF p i = 1 := (by simp [shapeF, hxS] at * <;> grind); rw [shape_sc hlt hall (by rw [hs]; decide), hs]; simp [go_sem, Try.results48]; done) | (have hs : shapeF p i = exprF x.cond := (by simp [shapeF, hxS] at * <;> grind); rw [shape_sc hlt hall (by rw [hs]; first | assumption | simpa using hc), hs]; simp [go_sem, Try.results48]))

end Go.AM
namespace Go.AM
open Go.Proofs

/-- spec.l4Fault -/
theorem dc_spec_l4Fault (p : List TStep) (hp : p.length ≤ 9223372036854775807) (hg : ∀ e ∈ p, e.gok) : DC Try.prog 24 [.isl 6 (p.map TStep.ro)] (.int .i64 (procF p)) [] := by
 refine DC.intro tiOk Try.func24 rfl rfl rfl rfl rfl rfl rfl rfl [] ?_
 refine rgA [0] ?_
 refine AW.seq ?_
 refine AW.cut ⟨58, [(0, .isl 6 (p.map TStep.ro)), (16, .bool (decide (p.length < 1 ∨ 24 < p.length)))], []⟩ ?_ ?_
 ·skip
  refine rgK ?_
  intro k hk; simp +contextual -dsimp (maxSteps := 2000000) [go_sem, -decide_eq_true_eq, -decide_eq_false_iff_not]
  repeat' first | apply And.intro | refine hk _ ?_ | (intro hg; try simp only [decide_eq_true_eq, decide_eq_false_iff_not] at hg) | omega | exact True.intro
  all_goals clear hk k
  all_goals (show St.Less _ _; exact Less.of rfl (by simp [go_sem, -Nat.lt_one_iff, -List.length_eq_zero_iff] <;> first | omega | grind) (by simp [go_sem]))
 ·skip
  refine AW.cond rfl ?_ ?_
  ·intro hc; try simp at hc
   all_goals (
    refine rgA [2] ?_
    refine rt ?_
    first | (rw [procF_len' (by simpa using hc)]; simp [go_sem, Try.results24]; done) | (rw [procF_ok hR h1 h2 h3]; simp [go_sem, Try.results24]; done) | (have hty : tyF p i = typF x.cond 2 := (by rw [hxt]; grind); rw [procF_ty hR h1 h2 hlt hal3 (by rw [hty]; first | assumption | simpa using hc), hty]; simp [go_sem, Try.results24]; done) | (have hty : tyF p i = typF x.expr 1 := (by rw [hxt]; grind); rw [procF_ty hR h1 h2 hlt hal3 (by rw [hty]; first | assumption | simpa using hc), hty]; simp [go_sem, Try.results24]; done) | (rw [procF_shape' hR h1 (by first | assumption | simpa using hc)]; simp [go_sem, Try.results24]; done) | (rw [procF_one hR hlt hall (by first | assumption | simpa using hc)]; simp [go_sem, Try.results24]))
  ·intro hc; try simp at hc
   all_goals (
    refine AW.skipN (fun _ h => h) ?_
    refine AW.seq ?_
    have hlen : 1 ≤ p.length ∧ p.length ≤ 24 := by obtain ⟨h8, h9⟩ := hc; have : p.length ≠ 0 := (fun h => h8 (List.length_eq_zero_iff.1 h)); omega
    have hR : inR p.length 1 24 = true := inR_iff.2 (by omega)
    refine rgA [0,3] ?_
    refine AW.block ?_
    refine AW.loopI (fun i : Nat => ⟨58, [(0, .isl 6 (p.map TStep.ro)), (3, .int .i64 i)], []⟩) (fun i => i ≤ p.length ∧ ∀ k, k < i → oneF p k = 0) (fun i => p.length - i) (0) (by simp) (Less.of rfl (by simp [go_sem]) (by simp [go_sem])) ?_
    rintro i ⟨hi, hall⟩
    refine AW.seq ?_
    refine rgA [0,3,20] ?_
    refine AW.cond rfl ?_ ?_
    ·intro hc; try simp at hc
     all_goals (
      have hlt : i < p.length := by assumption
      refine AW.skipN (fun _ h => h) ?_
      refine AW.seq ?_
      refine AW.block ?_
      refine rg [0,3,4] ?_
      intro k hk; simp -dsimp (maxSteps := 2000000) [go_sem, -decide_eq_true_eq, -decide_eq_false_iff_not]
      repeat' first | apply And.intro | refine hk _ ?_ | intro hg | (refine CallK.intro (dc_spec_l4One p (by omega) hg i hlt hall) ?_; simp -dsimp (maxSteps := 2000000) [go_sem, -decide_eq_true_eq, -decide_eq_false_iff_not]) | omega | exact True.intro
      all_goals clear hk k
      refine rgA [0,3,4,27] ?_
      refine AW.cond rfl ?_ ?_
      ·intro hc; try simp at hc
       all_goals (
        refine rgA [2] ?_
        refine rt ?_
        first | (rw [procF_len' (by simpa using hc)]; simp [go_sem, Try.results24]; done) | (rw [procF_ok hR h1 h2 h3]; simp [go_sem, Try.results24]; done) | (have hty : tyF p i = typF x.cond 2 := (by rw [hxt]; grind); rw [procF_ty hR h1 h2 hlt hal3 (by rw [hty]; first | assumption | simpa using hc), hty]; simp [go_sem, Try.results24]; done) | (have hty : tyF p i = typF x.expr 1 := (by rw [hxt]; grind); rw [procF_ty hR h1 h2 hlt hal3 (by rw [hty]; first | assumption | simpa using hc), hty]; simp [go_sem, Try.results24]; done) | (rw [procF_shape' hR h1 (by first | assumption | simpa using hc)]; simp [go_sem, Try.results24]; done) | (rw [procF_one hR hlt hall (by first | assumption | simpa using hc)]; simp [go_sem, Try.results24]))
      ·intro hc; try simp at hc
       all_goals (
        refine AW.skipN (fun _ h => h) ?_
        refine rgKA ?_
        show ∃ _, _
        have hw := wrapi hlt (by omega)
        refine ⟨i + 1, ⟨by omega, upto hall (by first | assumption | simpa using hc)⟩, by omega, Less.of rfl (by simp [go_sem, hw]) (by simp [go_sem])⟩))
    ·intro hc; try simp at hc
     all_goals (
      refine AW.exitN (fun _ h => h) ?_
      refine AW.seq ?_
      have h1 : ∀ k, k < p.length → oneF p k = 0 := fun k hk => hall k (by omega)
      have ho : StepsOk p := ⟨by omega, h1⟩
      refine rg [0,5] ?_
      intro k hk; simp -dsimp (maxSteps := 2000000) [go_sem, -decide_eq_true_eq, -decide_eq_false_iff_not]
      repeat' first | apply And.intro | refine hk _ ?_ | intro hg | (refine CallK.intro (dc_spec_l4Shape p ho hg) ?_; simp -dsimp (maxSteps := 2000000) [go_sem, -decide_eq_true_eq, -decide_eq_false_iff_not]) | omega | exact True.intro
      all_goals clear hk k
      refine rgA [0,5,32] ?_
      refine AW.cond rfl ?_ ?_
      ·intro hc; try simp at hc
       all_goals (
        refine rgA [2] ?_
        refine rt ?_
        first | (rw [procF_len' (by simpa using hc)]; simp [go_sem, Try.results24]; done) | (rw [procF_ok hR h1 h2 h3]; simp [go_sem, Try.results24]; done) | (have hty : tyF p i = typF x.cond 2 := (by rw [hxt]; grind); rw [procF_ty hR h1 h2 hlt hal3 (by rw [hty]; first | assumption | simpa using hc), hty]; simp [go_sem, Try.results24]; done) | (have hty : tyF p i = typF x.expr 1 := (by rw [hxt]; grind); rw [procF_ty hR h1 h2 hlt hal3 (by rw [hty]; first | assumption | simpa using hc), hty]; simp [go_sem, Try.results24]; done) | (rw [procF_shape' hR h1 (by first | assumption | simpa using hc)]; simp [go_sem, Try.results24]; done) | (rw [procF_one hR hlt hall (by first | assumption | simpa using hc)]; simp [go_sem, Try.results24]))
      ·intro hc; try simp at hc
       all_goals (
        refine AW.skipN (fun _ h => h) ?_
        refine AW.seq ?_
        have h2 : ∀ k, k < p.length → shapeF p k = 0 := sc_all (by first | assumption | simpa using hc)
        refine rgA [0,6] ?_
        refine AW.block ?_
        refine AW.loopI (fun i : Nat => ⟨58, [(0, .isl 6 (p.map TStep.ro)), (6, .int .i64 i)], []⟩) (fun i => i ≤ p.length ∧ ∀ k, k < i → tyF p k = 0) (fun i => p.length - i) (0) (by simp) (Less.of rfl (by simp [go_sem]) (by simp [go_sem])) ?_
        rintro i ⟨hi, hal3⟩
        refine AW.seq ?_
        refine rgA [0,6,37] ?_
        refine AW.cond rfl ?_ ?_
        ·intro hc; try simp at hc
         all_goals (
          have hlt : i < p.length := by assumption
          obtain ⟨x, hx⟩ := at_some hlt
          have hxt := tyF_at hx
          obtain ⟨g0, g1, g2⟩ := hg x (List.mem_of_getElem? hx)
          refine AW.skipN (fun _ h => h) ?_
          refine AW.seq ?_
          refine AW.block ?_
          refine AW.seq ?_
          refine rg [0,6,7] ?_
          intro k hk; simp -dsimp (maxSteps := 2000000) [go_sem, -decide_eq_true_eq, -decide_eq_false_iff_not, hx]
          repeat' first | apply And.intro | refine hk _ ?_ | intro hg | ((first | refine CallK.intro (dc_spec_l4Typed x.cond 2 g1) ?_ | refine CallK.intro (dc_spec_l4Typed x.expr 1 g2) ?_); simp -dsimp (maxSteps := 2000000) [go_sem, -decide_eq_true_eq, -decide_eq_false_iff_not, hx]) | omega | exact True.intro
          all_goals clear hk k
          refine rg [0,6,7,47] ?_
          intro k hk; simp -dsimp [go_sem, -decide_eq_true_eq, -decide_eq_false_iff_not, hx]
          repeat' first | apply And.intro | refine hk _ ?_ | intro hg | omega | exact True.intro
          all_goals clear hk k
          refine AW.cond rfl ?_ ?_
          ·intro hc; try simp at hc
           all_goals (
            refine rg [2] ?_
            intro k hk; simp -dsimp [go_sem, -decide_eq_true_eq, -decide_eq_false_iff_not, hx]
            repeat' first | apply And.intro | refine hk _ ?_ | intro hg | omega | exact True.intro
            all_goals clear hk k
            refine rt ?_
            first | (rw [procF_len' (by simpa using hc)]; simp [go_sem, Try.results24]; done) | (rw [procF_ok hR h1 h2 h3]; simp [go_sem, Try.results24]; done) | (have hty : tyF p i = typF x.cond 2 := (by rw [hxt]; grind); rw [procF_ty hR h1 h2 hlt hal3 (by rw [hty]; first | assumption | simpa using hc), hty]; simp [go_sem, Try.results24]; done) | (have hty : tyF p i = typF x.expr 1 := (by rw [hxt]; grind); rw [procF_ty hR h1 h2 hlt hal3 (by rw [hty]; first | assumption | simpa using hc), hty]; simp [go_sem, Try.results24]; done) | (rw [procF_shape' hR h1 (by first | assumption | simpa using hc)]; simp [go_sem, Try.results24]; done) | (rw [procF_one hR hlt hall (by first | assumption | simpa using hc)]; simp [go_sem, Try.results24]))
          ·intro hc; try simp at hc
           all_goals (
            refine AW.skipN (fun _ h => h) ?_
            refine rg [0,6,8] ?_
            intro k hk; simp -dsimp (maxSteps := 2000000) [go_sem, -decide_eq_true_eq, -decide_eq_false_iff_not, hx]
            repeat' first | apply And.intro | refine hk _ ?_ | intro hg | ((first | refine CallK.intro (dc_spec_l4Typed x.cond 2 g1) ?_ | refine CallK.intro (dc_spec_l4Typed x.expr 1 g2) ?_); simp -dsimp (maxSteps := 2000000) [go_sem, -decide_eq_true_eq, -decide_eq_false_iff_not, hx]) | omega | exact True.intro
            all_goals clear hk k
            refine rg [0,6,8,56] ?_
            intro k hk; simp -dsimp [go_sem, -decide_eq_true_eq, -decide_eq_false_iff_not, hx]
            repeat' first | apply And.intro | refine hk _ ?_ | intro hg | omega | exact True.intro
            all_goals clear hk k
            refine AW.cond rfl ?_ ?_
            ·intro hc; try simp at hc
             all_goals (
              refine rg [2] ?_
              intro k hk; simp -dsimp [go_sem, -decide_eq_true_eq, -decide_eq_false_iff_not, hx]
              repeat' first | apply And.intro | refine hk _ ?_ | intro hg | omega | exact True.intro
              all_goals clear hk k
              refine rt ?_
              first | (rw [procF_len' (by simpa using hc)]; simp [go_sem, Try.results24]; done) | (rw [procF_ok hR h1 h2 h3]; simp [go_sem, Try.results24]; done) | (have hty : tyF p i = typF x.cond 2 := (by rw [hxt]; grind); rw [procF_ty hR h1 h2 hlt hal3 (by rw [hty]; first | assumption | simpa using hc), hty]; simp [go_sem, Try.results24]; done) | (have hty : tyF p i = typF x.expr 1 := (by rw [hxt]; grind); rw [procF_ty hR h1 h2 hlt hal3 (by rw [hty]; first | assumption | simpa using hc), hty]; simp [go_sem, Try.results24]; done) | (rw [procF_shape' hR h1 (by first | assumption | simpa using hc)]; simp [go_sem, Try.results24]; done) | (rw [procF_one hR hlt hall (by first | assumption | simpa using hc)]; simp [go_sem, Try.results24]))
            ·intro hc; try simp at hc
             all_goals (
              refine AW.skipN (fun _ h => h) ?_
              refine rgK ?_
              intro k hk; simp -dsimp [go_sem, -decide_eq_true_eq, -decide_eq_false_iff_not, hx]
              repeat' first | apply And.intro | refine hk _ ?_ | intro hg | omega | exact True.intro
              all_goals clear hk k
              show ∃ _, _
              have hw := wrapi hlt (by omega)
              have htz : tyF p i = 0 := by rw [hxt]; grind
              refine ⟨i + 1, ⟨by omega, upto hal3 htz⟩, by omega, Less.of rfl (by simp [go_sem, hw]) (by simp [go_sem])⟩)))
        ·intro hc; try simp at hc
         all_goals (
          refine AW.exitN (fun _ h => h) ?_
          have h3 : ∀ k, k < p.length → tyF p k = 0 := fun k hk => hal3 k (by omega)
          refine rgA [2] ?_
          refine rt ?_
          first | (rw [procF_len' (by simpa using hc)]; simp [go_sem, Try.results24]; done) | (rw [procF_ok hR h1 h2 h3]; simp [go_sem, Try.results24]; done) | (have hty : tyF p i = typF x.cond 2 := (by rw [hxt]; grind); rw [procF_ty hR h1 h2 hlt hal3 (by rw [hty]; first | assumption | simpa using hc), hty]; simp [go_sem, Try.results24]; done) | (have hty : tyF p i = typF x.expr 1 := (by rw [hxt]; grind); rw [procF_ty hR h1 h2 hlt hal3 (by rw [hty]; first | assumption | simpa using hc), hty]; simp [go_sem, Try.results24]; done) | (rw [procF_shape' hR h1 (by first | assumption | simpa using hc)]; simp [go_sem, Try.results24]; done) | (rw [procF_one hR hlt hall (by first | assumption | simpa using hc)]; simp [go_sem, Try.results24])))))

end Go.AM
namespace Go.AM
open Go.Proofs

/-- spec.l7PlainOf -/
theorem dc_spec_l7PlainOf (p : List TStep) (hP : ProcOk p) : DC Try.prog 25 [.isl 6 (p.map TStep.ro)] (.osl 6 ((plS p).map TStep.oc)) [] := by
 have hpl := hP.len
 have hgo := grow_ok hP
 have hpo := plain_ok hP
 refine DC.intro tiOk Try.func25 rfl rfl rfl rfl rfl rfl rfl rfl [1000] ?_
 refine rgA [0] ?_
 refine rg [3] ?_
 intro k hk; simp -dsimp (maxSteps := 2000000) [go_sem, -decide_eq_true_eq, -decide_eq_false_iff_not]
 repeat' first | apply And.intro | refine hk _ ?_ | intro hg | ((first | refine CallK.intro (dc_grow_spec p hP p.length 0 (by omega) (by simp; omega) (by simp)) ?_ | refine CallK.intro (dc_plain_spec (growF p p.length 0) hgo.1) ?_); simp -dsimp (maxSteps := 2000000) [go_sem, -decide_eq_true_eq, -decide_eq_false_iff_not]) | omega | exact True.intro
 all_goals clear hk k
 refine AW.reg tiOk (fun i => if i = 0 then [1] else []) [2] ?_
 intro k hk; simp -dsimp (maxSteps := 2000000) [go_sem, -decide_eq_true_eq, -decide_eq_false_iff_not]
 repeat' first | apply And.intro | refine hk _ ?_ | intro hg | ((first | refine CallK.intro (dc_flat_spec_n (plainT (growF p p.length 0)) (-1) hpo.1) ?_ | refine CallK.intro (dc_spec_l4Copy (plS p) (plS_sz hP)) ?_); simp -dsimp (maxSteps := 2000000) [go_sem, -decide_eq_true_eq, -decide_eq_false_iff_not]) | omega | exact True.intro
 all_goals clear hk k
 refine rt ?_
 simp [go_sem, Try.results25]

/-- spec.PlainOf -/
theorem dc_spec_PlainOf_ok (p : List TStep) (hg : p.length ≤ 9223372036854775807 ∧ ∀ e ∈ p, e.gok) (hl : procF p = 0) : DC Try.prog 7 [.isl 6 (p.map TStep.ro)] (.agg [.int .i64 0, .osl 6 ((plS p).map TStep.oc)]) [] := by
 have hP := procOk hl
 refine DC.intro tiOk Try.func7 rfl rfl rfl rfl rfl rfl rfl rfl [1000] ?_
 refine rg [0,2] ?_
 intro k hk; simp -dsimp [go_sem, -decide_eq_true_eq, -decide_eq_false_iff_not, hl]
 repeat' first | apply And.intro | refine hk _ ?_ | intro hg | omega | exact True.intro
 all_goals clear hk k
 refine AW.seq ?_
 refine rg [0,2,3] ?_
 intro k hk; simp -dsimp (maxSteps := 2000000) [go_sem, -decide_eq_true_eq, -decide_eq_false_iff_not, hl]
 repeat' first | apply And.intro | refine hk _ ?_ | intro hg | (refine CallK.intro (dc_spec_l4Fault p hg.1 hg.2) ?_; simp -dsimp (maxSteps := 2000000) [go_sem, -decide_eq_true_eq, -decide_eq_false_iff_not, hl]) | omega | exact True.intro
 all_goals clear hk k
 refine rg [0,2,3,7] ?_
 intro k hk; simp -dsimp [go_sem, -decide_eq_true_eq, -decide_eq_false_iff_not, hl]
 repeat' first | apply And.intro | refine hk _ ?_ | intro hg | omega | exact True.intro
 all_goals clear hk k
 refine AW.cond rfl ?_ ?_
 ·intro hc; try simp at hc
  all_goals try (exfalso; contradiction; done)
  all_goals (
   refine rg [2] ?_
   intro k hk; simp -dsimp [go_sem, -decide_eq_true_eq, -decide_eq_false_iff_not, hl]
   repeat' first | apply And.intro | refine hk _ ?_ | intro hg | omega | exact True.intro
   all_goals clear hk k
   refine rt ?_
   simp [go_sem, Try.results7])
 ·intro hc; try simp at hc
  all_goals try (exfalso; contradiction; done)
  all_goals (
   refine AW.skipN (fun _ h => h) ?_
   refine rg [2] ?_
   intro k hk; simp -dsimp (maxSteps := 2000000) [go_sem, -decide_eq_true_eq, -decide_eq_false_iff_not, hl]
   repeat' first | apply And.intro | refine hk _ ?_ | intro hg | (refine CallK.intro (dc_spec_l7PlainOf p hP) ?_; simp -dsimp (maxSteps := 2000000) [go_sem, -decide_eq_true_eq, -decide_eq_false_iff_not, hl]) | omega | exact True.intro
   all_goals clear hk k
   refine rt ?_
   simp [go_sem, Try.results7])

/-- spec.PlainOf -/
theorem dc_spec_PlainOf_bad (p : List TStep) (hg : p.length ≤ 9223372036854775807 ∧ ∀ e ∈ p, e.gok) (hl : procF p ≠ 0) : DC Try.prog 7 [.isl 6 (p.map TStep.ro)] (.agg [.int .i64 (procF p), .isl 6 []]) [] := by
 refine DC.intro tiOk Try.func7 rfl rfl rfl rfl rfl rfl rfl rfl [1000] ?_
 refine rg [0,2] ?_
 intro k hk; simp -dsimp [go_sem, -decide_eq_true_eq, -decide_eq_false_iff_not, hl]
 repeat' first | apply And.intro | refine hk _ ?_ | intro hg | omega | exact True.intro
 all_goals clear hk k
 refine AW.seq ?_
 refine rg [0,2,3] ?_
 intro k hk; simp -dsimp (maxSteps := 2000000) [go_sem, -decide_eq_true_eq, -decide_eq_false_iff_not, hl]
 repeat' first | apply And.intro | refine hk _ ?_ | intro hg | (refine CallK.intro (dc_spec_l4Fault p hg.1 hg.2) ?_; simp -dsimp (maxSteps := 2000000) [go_sem, -decide_eq_true_eq, -decide_eq_false_iff_not, hl]) | omega | exact True.intro
 all_goals clear hk k
 refine rg [0,2,3,7] ?_
 intro k hk; simp -dsimp [go_sem, -decide_eq_true_eq, -decide_eq_false_iff_not, hl]
 repeat' first | apply And.intro | refine hk _ ?_ | intro hg | omega | exact True.intro
 all_goals clear hk k
 refine AW.cond rfl ?_ ?_
 ·intro hc; try simp at hc
  all_goals try (exfalso; contradiction; done)
  all_goals (
   refine rg [2] ?_
   intro k hk; simp -dsimp [go_sem, -decide_eq_true_eq, -decide_eq_false_iff_not, hl]
   repeat' first | apply And.intro | refine hk _ ?_ | intro hg | omega | exact True.intro
   all_goals clear hk k
   refine rt ?_
   simp [go_sem, Try.results7])
 ·intro hc; try simp at hc
  all_goals try (exfalso; contradiction; done)
  all_goals (
   refine AW.skipN (fun _ h => h) ?_
   skip)

end Go.AM
namespace Go.AM
open Go.Proofs

/-- laws.markNodeS -/
theorem dc_laws_markNodeS_nil (k : Int) : DC Try.prog 33 [.isl 4 [], .int .i64 k] (.int .i64 k) [] := by
 refine DC.intro tiOk Try.func33 rfl rfl rfl rfl rfl rfl rfl rfl [] ?_
 refine rgA [0,1] ?_
 refine AW.seq ?_
 refine rgA [0,1,5] ?_
 refine AW.block ?_
 refine AW.loopI (fun _ : Nat => ⟨41, [(0, .isl 4 []), (1, .int .i64 k), (5, .int .i64 0)], []⟩) (fun _ => True) (fun _ => 0) (0) (trivial) (Less.of rfl (by simp [go_sem]) (by simp [go_sem])) ?_
 rintro i _
 refine AW.seq ?_
 refine rgA [0,1,5,9] ?_
 refine AW.cond rfl ?_ ?_
 ·intro hc; try simp at hc
  all_goals try (exfalso; first | omega | (simp at hc; done); done)
  all_goals (
   refine AW.skipN (fun _ h => h) ?_
   refine AW.seq ?_
   refine AW.block ?_
   refine rgA [0,1,5] ?_
   refine rgA [0,1,5] ?_
   refine rgA [0,1,5] ?_
   refine rgA [0,1,5] ?_
   refine rgA [0,1,5] ?_
   refine rgA [0,1,5] ?_
   refine rgA [0,1,5] ?_
   refine rgNA [0,1,5] (fun _ h => h) ?_
   refine rgKA ?_
   show ∃ _, _
   exact absurd hc (by simp))
 ·intro hc; try simp at hc
  all_goals try (exfalso; first | omega | (simp at hc; done); done)
  all_goals (
   refine AW.exitN (fun _ h => h) ?_
   refine rgA [4] ?_
   refine rt ?_
   simp [go_sem, Try.results33])

/-- laws.markNodeS -/
theorem dc_laws_markNodeS_x (l : List TNode) (k : Int) (hk : 0 ≤ k ∧ k + 4 * l.length ≤ 4611686018427387904) : DC Try.prog 33 [.osl 4 (l.map TNode.ro), .int .i64 k] (.int .i64 (k + 4 * (l.length : Int))) [(0, .osl 4 ((mN l.length k).map TNode.ro))] := by
 refine DC.intro tiOk Try.func33 rfl rfl rfl rfl rfl rfl rfl (by simp [noW, noWo]) [] ?_
 refine rgA [0,1] ?_
 refine AW.seq ?_
 refine rgA [0,1,5] ?_
 refine AW.block ?_
 refine AW.loopI (fun i : Nat => ⟨41, [(0, .sl 1900 4 0 l.length), (1, .int .i64 (k + 4 * (i : Int))), (5, .int .i64 i)], [(1900, some ⟨4, mkP (fN k) (l.map TNode.ro) 0 i⟩)]⟩) (fun i => i ≤ l.length) (fun i => l.length - i) (0) (by simp) (Less.of rfl (by simp [go_sem]) (by simp [go_sem, mkP_zero])) ?_
 rintro i hi
 refine AW.seq ?_
 refine rgA [0,1,5,9] ?_
 refine AW.cond rfl ?_ ?_
 ·intro hc; try simp at hc
  all_goals (
   have hlt : i < l.length := by assumption
   obtain ⟨x, hx⟩ := at_some hlt
   have hp : (mkP (fN k) (l.map TNode.ro) 0 i).length = l.length := by rw [mkP_len (by simpa using hi)]; simp
   have hp2 : (mkP (fN k) (l.map TNode.ro) 0 i)[i]? = some x.ro := mkP_at (by simp [hx])
   have hp3 : ∀ h, (mkP (fN k) (l.map TNode.ro) 0 i)[i]'h = x.ro := fun h => by have h9 := hp2; rw [List.getElem?_eq_getElem h] at h9; exact Option.some.inj h9
   have hwk0 : IntKind.wrap .i64 (k + 4 * (i : Int) + 1) = k + 4 * (i : Int) + 1 := (wrap64 (by omega) (by omega)).trans (by omega)
   have hwk1 : IntKind.wrap .i64 (k + 4 * (i : Int) + 1 + 1) = k + 4 * (i : Int) + 2 := (wrap64 (by omega) (by omega)).trans (by omega)
   have hwk2 : IntKind.wrap .i64 (k + 4 * (i : Int) + 2 + 1) = k + 4 * (i : Int) + 3 := (wrap64 (by omega) (by omega)).trans (by omega)
   have hwk3 : IntKind.wrap .i64 (k + 4 * (i : Int) + 3 + 1) = k + 4 * (i : Int) + 4 := (wrap64 (by omega) (by omega)).trans (by omega)
   have hwv0 : IntKind.wrap .i64 (k + 4 * (i : Int)) = k + 4 * (i : Int) := wrap64 (by omega) (by omega)
   have hwv1 : IntKind.wrap .i64 (k + 4 * (i : Int) + 1) = k + 4 * (i : Int) + 1 := wrap64 (by omega) (by omega)
   have hwv2 : IntKind.wrap .i64 (k + 4 * (i : Int) + 2) = k + 4 * (i : Int) + 2 := wrap64 (by omega) (by omega)
   have hwv3 : IntKind.wrap .i64 (k + 4 * (i : Int) + 3) = k + 4 * (i : Int) + 3 := wrap64 (by omega) (by omega)
   have hwv4 : IntKind.wrap .i64 (k + 4 * (i : Int) + 4) = k + 4 * (i : Int) + 4 := wrap64 (by omega) (by omega)
   refine AW.skipN (fun _ h => h) ?_
   refine AW.seq ?_
   refine AW.block ?_
   refine rg [0,1,5] ?_
   intro k hk; simp -dsimp [go_sem, -decide_eq_true_eq, -decide_eq_false_iff_not, hp, hp2, hp3, hlt, hwk0, hwk1, hwk2, hwk3, hwv0, hwv1, hwv2, hwv3, hwv4]
   repeat' first | apply And.intro | refine hk _ ?_ | intro hg | omega | exact True.intro
   all_goals clear hk k
   refine rg [0,1,5] ?_
   intro k hk; simp -dsimp [go_sem, -decide_eq_true_eq, -decide_eq_false_iff_not, hp, hp2, hp3, hlt, hwk0, hwk1, hwk2, hwk3, hwv0, hwv1, hwv2, hwv3, hwv4]
   repeat' first | apply And.intro | refine hk _ ?_ | intro hg | omega | exact True.intro
   all_goals clear hk k
   refine rg [0,1,5] ?_
   intro k hk; simp -dsimp [go_sem, -decide_eq_true_eq, -decide_eq_false_iff_not, hp, hp2, hp3, hlt, hwk0, hwk1, hwk2, hwk3, hwv0, hwv1, hwv2, hwv3, hwv4]
   repeat' first | apply And.intro | refine hk _ ?_ | intro hg | omega | exact True.intro
   all_goals clear hk k
   refine rg [0,1,5] ?_
   intro k hk; simp -dsimp [go_sem, -decide_eq_true_eq, -decide_eq_false_iff_not, hp, hp2, hp3, hlt, hwk0, hwk1, hwk2, hwk3, hwv0, hwv1, hwv2, hwv3, hwv4]
   repeat' first | apply And.intro | refine hk _ ?_ | intro hg | omega | exact True.intro
   all_goals clear hk k
   refine rg [0,1,5] ?_
   intro k hk; simp -dsimp [go_sem, -decide_eq_true_eq, -decide_eq_false_iff_not, hp, hp2, hp3, hlt, hwk0, hwk1, hwk2, hwk3, hwv0, hwv1, hwv2, hwv3, hwv4]
   repeat' first | apply And.intro | refine hk _ ?_ | intro hg | omega | exact True.intro
   all_goals clear hk k
   refine rg [0,1,5] ?_
   intro k hk; simp -dsimp [go_sem, -decide_eq_true_eq, -decide_eq_false_iff_not, hp, hp2, hp3, hlt, hwk0, hwk1, hwk2, hwk3, hwv0, hwv1, hwv2, hwv3, hwv4]
   repeat' first | apply And.intro | refine hk _ ?_ | intro hg | omega | exact True.intro
   all_goals clear hk k
   refine rg [0,1,5] ?_
   intro k hk; simp -dsimp [go_sem, -decide_eq_true_eq, -decide_eq_false_iff_not, hp, hp2, hp3, hlt, hwk0, hwk1, hwk2, hwk3, hwv0, hwv1, hwv2, hwv3, hwv4]
   repeat' first | apply And.intro | refine hk _ ?_ | intro hg | omega | exact True.intro
   all_goals clear hk k
   refine rgN [0,1,5] (fun _ h => h) ?_
   intro k hk; simp -dsimp [go_sem, -decide_eq_true_eq, -decide_eq_false_iff_not, hp, hp2, hp3, hlt, hwk0, hwk1, hwk2, hwk3, hwv0, hwv1, hwv2, hwv3, hwv4]
   repeat' first | apply And.intro | refine hk _ ?_ | intro hg | omega | exact True.intro
   all_goals clear hk k
   refine rgK ?_
   intro k hk; simp -dsimp [go_sem, -decide_eq_true_eq, -decide_eq_false_iff_not, hp, hp2, hp3, hlt, hwk0, hwk1, hwk2, hwk3, hwv0, hwv1, hwv2, hwv3, hwv4]
   repeat' first | apply And.intro | refine hk _ ?_ | intro hg | omega | exact True.intro
   all_goals clear hk k
   show ∃ _, _
   have hw := wrapi hlt (by omega)
   have hs := mkP_set (f := fN k) (l := l.map TNode.ro) (k := 0) (i := i) (by simpa using hlt)
   rw [fN_eq] at hs
   refine ⟨i + 1, by omega, by omega, Less.of rfl (by simp [go_sem, hw]; omega) (by simp [go_sem, ← hs])⟩)
 ·intro hc; try simp at hc
  all_goals (
   refine AW.exitN (fun _ h => h) ?_
   refine rgA [0,4] ?_
   refine rt ?_
   obtain rfl : i = l.length := (by omega)
   simp [go_sem, Try.results33, mkN_end, mN_len])

/-- laws.heldNodeS -/
theorem dc_laws_heldNodeS (n : Nat) (k : Int) (hk : 0 ≤ k ∧ k + 4 * n ≤ 4611686018427387904) : DC Try.prog 62 [.isl 4 ((mN n k).map TNode.ro), .int .i64 k] (.int .i64 (k + 4 * (n : Int))) [] := by
 have hml := mN_len (n := n) (k := k)
 refine DC.intro tiOk Try.func62 rfl rfl rfl rfl rfl rfl rfl rfl [] ?_
 refine rg [0,1] ?_
 intro k hk; simp -dsimp [go_sem, -decide_eq_true_eq, -decide_eq_false_iff_not, hml]
 repeat' first | apply And.intro | refine hk _ ?_ | intro hg | omega | exact True.intro
 all_goals clear hk k
 refine AW.seq ?_
 refine rg [0,1,5] ?_
 intro k hk; simp -dsimp [go_sem, -decide_eq_true_eq, -decide_eq_false_iff_not, hml]
 repeat' first | apply And.intro | refine hk _ ?_ | intro hg | omega | exact True.intro
 all_goals clear hk k
 refine AW.block ?_
 refine AW.loopI (fun i : Nat => ⟨49, [(0, .isl 4 ((mN n k).map TNode.ro)), (1, .int .i64 (k + 4 * (i : Int))), (5, .int .i64 i)], []⟩) (fun i => i ≤ n) (fun i => n - i) (0) (by simp) (Less.of rfl (by simp [go_sem]) (by simp [go_sem])) ?_
 rintro i hi
 refine AW.seq ?_
 refine rg [0,1,5,9] ?_
 intro k hk; simp -dsimp [go_sem, -decide_eq_true_eq, -decide_eq_false_iff_not, hml]
 repeat' first | apply And.intro | refine hk _ ?_ | intro hg | omega | exact True.intro
 all_goals clear hk k
 refine AW.cond rfl ?_ ?_
 ·intro hc; try simp at hc
  all_goals try (exfalso; omega; done)
  all_goals (
   have hlt : i < n := by assumption
   have hx := mN_at (k := k) hlt
   have hwk0 : IntKind.wrap .i64 (k + 4 * (i : Int) + 1) = k + 4 * (i : Int) + 1 := (wrap64 (by omega) (by omega)).trans (by omega)
   have hwk1 : IntKind.wrap .i64 (k + 4 * (i : Int) + 1 + 1) = k + 4 * (i : Int) + 2 := (wrap64 (by omega) (by omega)).trans (by omega)
   have hwk2 : IntKind.wrap .i64 (k + 4 * (i : Int) + 2 + 1) = k + 4 * (i : Int) + 3 := (wrap64 (by omega) (by omega)).trans (by omega)
   have hwk3 : IntKind.wrap .i64 (k + 4 * (i : Int) + 3 + 1) = k + 4 * (i : Int) + 4 := (wrap64 (by omega) (by omega)).trans (by omega)
   have hwv0 : IntKind.wrap .i64 (k + 4 * (i : Int)) = k + 4 * (i : Int) := wrap64 (by omega) (by omega)
   have hwv1 : IntKind.wrap .i64 (k + 4 * (i : Int) + 1) = k + 4 * (i : Int) + 1 := wrap64 (by omega) (by omega)
   have hwv2 : IntKind.wrap .i64 (k + 4 * (i : Int) + 2) = k + 4 * (i : Int) + 2 := wrap64 (by omega) (by omega)
   have hwv3 : IntKind.wrap .i64 (k + 4 * (i : Int) + 3) = k + 4 * (i : Int) + 3 := wrap64 (by omega) (by omega)
   have hwv4 : IntKind.wrap .i64 (k + 4 * (i : Int) + 4) = k + 4 * (i : Int) + 4 := wrap64 (by omega) (by omega)
   refine AW.skipN (fun _ h => h) ?_
   refine AW.seq ?_
   refine AW.block ?_
   refine AW.seq ?_
   refine rg [0,1,5,18] ?_
   intro k hk; simp -dsimp (maxSteps := 2000000) [go_sem, -decide_eq_true_eq, -decide_eq_false_iff_not, hml, hx, nodeM, hwk0, hwk1, hwk2, hwk3, hwv0, hwv1, hwv2, hwv3, hwv4]
   repeat' first | apply And.intro | refine hk _ ?_ | intro hg | omega | exact True.intro
   all_goals clear hk k
   refine AW.cond rfl ?_ ?_
   ·intro hc; try simp at hc
    all_goals try (exfalso; omega; done)
    all_goals (
     refine rg [4] ?_
     intro k hk; simp -dsimp [go_sem, -decide_eq_true_eq, -decide_eq_false_iff_not, hml, hx, nodeM, hwk0, hwk1, hwk2, hwk3, hwv0, hwv1, hwv2, hwv3, hwv4]
     repeat' first | apply And.intro | refine hk _ ?_ | intro hg | omega | exact True.intro
     all_goals clear hk k
     refine rt ?_
     obtain rfl : i = n := (by omega)
     simp [go_sem, Try.results62])
   ·intro hc; try simp at hc
    all_goals try (exfalso; omega; done)
    all_goals (
     refine AW.skipN (fun _ h => h) ?_
     refine rg [0,1,5] ?_
     intro k hk; simp -dsimp [go_sem, -decide_eq_true_eq, -decide_eq_false_iff_not, hml, hx, nodeM, hwk0, hwk1, hwk2, hwk3, hwv0, hwv1, hwv2, hwv3, hwv4]
     repeat' first | apply And.intro | refine hk _ ?_ | intro hg | omega | exact True.intro
     all_goals clear hk k
     refine AW.seq ?_
     refine rg [0,1,5,27] ?_
     intro k hk; simp -dsimp (maxSteps := 2000000) [go_sem, -decide_eq_true_eq, -decide_eq_false_iff_not, hml, hx, nodeM, hwk0, hwk1, hwk2, hwk3, hwv0, hwv1, hwv2, hwv3, hwv4]
     repeat' first | apply And.intro | refine hk _ ?_ | intro hg | omega | exact True.intro
     all_goals clear hk k
     refine AW.cond rfl ?_ ?_
     ·intro hc; try simp at hc
      all_goals try (exfalso; omega; done)
      all_goals (
       refine rg [4] ?_
       intro k hk; simp -dsimp [go_sem, -decide_eq_true_eq, -decide_eq_false_iff_not, hml, hx, nodeM, hwk0, hwk1, hwk2, hwk3, hwv0, hwv1, hwv2, hwv3, hwv4]
       repeat' first | apply And.intro | refine hk _ ?_ | intro hg | omega | exact True.intro
       all_goals clear hk k
       refine rt ?_
       obtain rfl : i = n := (by omega)
       simp [go_sem, Try.results62])
     ·intro hc; try simp at hc
      all_goals try (exfalso; omega; done)
      all_goals (
       refine AW.skipN (fun _ h => h) ?_
       refine rg [0,1,5] ?_
       intro k hk; simp -dsimp [go_sem, -decide_eq_true_eq, -decide_eq_false_iff_not, hml, hx, nodeM, hwk0, hwk1, hwk2, hwk3, hwv0, hwv1, hwv2, hwv3, hwv4]
       repeat' first | apply And.intro | refine hk _ ?_ | intro hg | omega | exact True.intro
       all_goals clear hk k
       refine AW.seq ?_
       refine rg [0,1,5,36] ?_
       intro k hk; simp -dsimp (maxSteps := 2000000) [go_sem, -decide_eq_true_eq, -decide_eq_false_iff_not, hml, hx, nodeM, hwk0, hwk1, hwk2, hwk3, hwv0, hwv1, hwv2, hwv3, hwv4]
       repeat' first | apply And.intro | refine hk _ ?_ | intro hg | omega | exact True.intro
       all_goals clear hk k
       refine AW.cond rfl ?_ ?_
       ·intro hc; try simp at hc
        all_goals try (exfalso; omega; done)
        all_goals (
         refine rg [4] ?_
         intro k hk; simp -dsimp [go_sem, -decide_eq_true_eq, -decide_eq_false_iff_not, hml, hx, nodeM, hwk0, hwk1, hwk2, hwk3, hwv0, hwv1, hwv2, hwv3, hwv4]
         repeat' first | apply And.intro | refine hk _ ?_ | intro hg | omega | exact True.intro
         all_goals clear hk k
         refine rt ?_
         obtain rfl : i = n := (by omega)
         simp [go_sem, Try.results62])
       ·intro hc; try simp at hc
        all_goals try (exfalso; omega; done)
        all_goals (
         refine AW.skipN (fun _ h => h) ?_
         refine rg [0,1,5] ?_
         intro k hk; simp -dsimp [go_sem, -decide_eq_true_eq, -decide_eq_false_iff_not, hml, hx, nodeM, hwk0, hwk1, hwk2, hwk3, hwv0, hwv1, hwv2, hwv3, hwv4]
         repeat' first | apply And.intro | refine hk _ ?_ | intro hg | omega | exact True.intro
         all_goals clear hk k
         refine AW.seq ?_
         refine rg [0,1,5,45] ?_
         intro k hk; simp -dsimp (maxSteps := 2000000) [go_sem, -decide_eq_true_eq, -decide_eq_false_iff_not, hml, hx, nodeM, hwk0, hwk1, hwk2, hwk3, hwv0, hwv1, hwv2, hwv3, hwv4]
         repeat' first | apply And.intro | refine hk _ ?_ | intro hg | omega | exact True.intro
         all_goals clear hk k
         refine AW.cond rfl ?_ ?_
         ·intro hc; try simp at hc
          all_goals try (exfalso; omega; done)
          all_goals (
           refine rg [4] ?_
           intro k hk; simp -dsimp [go_sem, -decide_eq_true_eq, -decide_eq_false_iff_not, hml, hx, nodeM, hwk0, hwk1, hwk2, hwk3, hwv0, hwv1, hwv2, hwv3, hwv4]
           repeat' first | apply And.intro | refine hk _ ?_ | intro hg | omega | exact True.intro
           all_goals clear hk k
           refine rt ?_
           obtain rfl : i = n := (by omega)
           simp [go_sem, Try.results62])
         ·intro hc; try simp at hc
          all_goals try (exfalso; omega; done)
          all_goals (
           refine AW.skipN (fun _ h => h) ?_
           refine rgN [0,1,5] (fun _ h => h) ?_
           intro k hk; simp -dsimp [go_sem, -decide_eq_true_eq, -decide_eq_false_iff_not, hml, hx, nodeM, hwk0, hwk1, hwk2, hwk3, hwv0, hwv1, hwv2, hwv3, hwv4]
           repeat' first | apply And.intro | refine hk _ ?_ | intro hg | omega | exact True.intro
           all_goals clear hk k
           refine rgK ?_
           intro k hk; simp -dsimp [go_sem, -decide_eq_true_eq, -decide_eq_false_iff_not, hml, hx, nodeM, hwk0, hwk1, hwk2, hwk3, hwv0, hwv1, hwv2, hwv3, hwv4]
           repeat' first | apply And.intro | refine hk _ ?_ | intro hg | omega | exact True.intro
           all_goals clear hk k
           show ∃ _, _
           have hw := wrapi hlt (by omega)
           refine ⟨i + 1, by omega, by omega, Less.of rfl (by simp [go_sem, hw]; omega) (by simp [go_sem])⟩)))))
 ·intro hc; try simp at hc
  all_goals try (exfalso; omega; done)
  all_goals (
   refine AW.exitN (fun _ h => h) ?_
   refine rg [4] ?_
   intro k hk; simp -dsimp [go_sem, -decide_eq_true_eq, -decide_eq_false_iff_not, hml]
   repeat' first | apply And.intro | refine hk _ ?_ | intro hg | omega | exact True.intro
   all_goals clear hk k
   refine rt ?_
   obtain rfl : i = n := (by omega)
   simp [go_sem, Try.results62])

end Go.AM
namespace Go.AM
open Go.Proofs

set_option maxHeartbeats 4000000 in
/-- laws.markStepS -/
theorem dc_laws_markStepS_x (l : List TStep) (k : Int) (hk : 0 ≤ k ∧ k + (mkS l : Int) ≤ 4611686018427387904) : DC Try.prog 12 [.osl 6 (l.map TStep.oc), .int .i64 k] (.int .i64 (k + (mkS l : Int))) [(0, .osl 6 ((mSt k l).map TStep.oc))] := by
 have hlk := mkS_len l
 have hmm : (mSt k l).length = l.length := mSt_len
 refine DC.intro tiOk Try.func12 rfl rfl rfl rfl rfl rfl rfl (by simp [noW, noWo]) [] ?_
 refine rgA [0,1] ?_
 refine AW.seq ?_
 refine rgA [0,1,5] ?_
 refine AW.block ?_
 refine AW.loopI (fun i : Nat => ⟨56, [(0, .sl 1900 6 0 l.length), (1, .int .i64 (k + (mkS (l.take i) : Int))), (5, .int .i64 i)], [(1900, some ⟨6, (mix (mSt k l) l i).map TStep.oc⟩)]⟩) (fun i => i ≤ l.length) (fun i => l.length - i) (0) (by simp) (Less.of rfl (by simp [go_sem, mkS]) (by simp [go_sem, mix_zero])) ?_
 rintro i hi
 refine AW.seq ?_
 refine rgA [0,1,5,9] ?_
 refine AW.cond rfl ?_ ?_
 ·intro hc; try simp at hc
  all_goals (
   have hlt : i < l.length := by assumption
   obtain ⟨x, hx⟩ := at_some hlt
   have hp : (mix (mSt k l) l i).length = l.length := mix_len hmm hi
   have hp2 : (mix (mSt k l) l i)[i]? = some x := mix_at hmm hx
   have hp3 : ∀ h, (mix (mSt k l) l i)[i]'h = x := fun h => by have h9 := hp2; rw [List.getElem?_eq_getElem h] at h9; exact Option.some.inj h9
   have idm := ocids (mix (mSt k l) l i)
   have hpm : ((mix (mSt k l) l i).map TStep.oc).length = l.length := by rw [List.length_map, hp]
   have hmt := mkS_take hx
   have hml := mkS_le l i
   have hml2 := mkS_le l (i + 1)
   unfold TStep.mn at hmt
   have hwk0 : IntKind.wrap .i64 ((k + (mkS (l.take i) : Int)) + 1) = (k + (mkS (l.take i) : Int)) + 1 := (wrap64 (by omega) (by omega)).trans (by omega)
   have hwk1 : IntKind.wrap .i64 ((k + (mkS (l.take i) : Int)) + 1 + 1) = (k + (mkS (l.take i) : Int)) + 2 := (wrap64 (by omega) (by omega)).trans (by omega)
   have hwk2 : IntKind.wrap .i64 ((k + (mkS (l.take i) : Int)) + 2 + 1) = (k + (mkS (l.take i) : Int)) + 3 := (wrap64 (by omega) (by omega)).trans (by omega)
   have hwk3 : IntKind.wrap .i64 ((k + (mkS (l.take i) : Int)) + 3 + 1) = (k + (mkS (l.take i) : Int)) + 4 := (wrap64 (by omega) (by omega)).trans (by omega)
   have hwv0 : IntKind.wrap .i64 ((k + (mkS (l.take i) : Int))) = (k + (mkS (l.take i) : Int)) := wrap64 (by omega) (by omega)
   have hwv1 : IntKind.wrap .i64 ((k + (mkS (l.take i) : Int)) + 1) = (k + (mkS (l.take i) : Int)) + 1 := wrap64 (by omega) (by omega)
   have hwv2 : IntKind.wrap .i64 ((k + (mkS (l.take i) : Int)) + 2) = (k + (mkS (l.take i) : Int)) + 2 := wrap64 (by omega) (by omega)
   have hwv3 : IntKind.wrap .i64 ((k + (mkS (l.take i) : Int)) + 3) = (k + (mkS (l.take i) : Int)) + 3 := wrap64 (by omega) (by omega)
   refine AW.skipN (fun _ h => h) ?_
   refine AW.seq ?_
   refine AW.block ?_
   rcases ncases x.cond with ⟨hoc, hoc2, hoc0⟩ | ⟨hoc, hoc2, hoc0⟩ <;> rcases ncases x.expr with ⟨hoe, hoe2, hoe0⟩ | ⟨hoe, hoe2, hoe0⟩
   all_goals (
    refine rg [0,1,5] ?_
    intro k hk; simp -dsimp [go_sem, -decide_eq_true_eq, -decide_eq_false_iff_not, hp, hp2, hp3, hlt, idm, hoc, hoe, mN_len, hwk0, hwk1, hwk2, hwk3, hwv0, hwv1, hwv2, hwv3]
    repeat' first | apply And.intro | refine hk _ ?_ | intro hg | omega | exact True.intro
    all_goals clear hk k
    refine rg [0,1,5] ?_
    intro k hk; simp -dsimp [go_sem, -decide_eq_true_eq, -decide_eq_false_iff_not, hp, hp2, hp3, hlt, idm, hoc, hoe, mN_len, hwk0, hwk1, hwk2, hwk3, hwv0, hwv1, hwv2, hwv3]
    repeat' first | apply And.intro | refine hk _ ?_ | intro hg | omega | exact True.intro
    all_goals clear hk k
    refine rg [0,1,5] ?_
    intro k hk; simp -dsimp [go_sem, -decide_eq_true_eq, -decide_eq_false_iff_not, hp, hp2, hp3, hlt, idm, hoc, hoe, mN_len, hwk0, hwk1, hwk2, hwk3, hwv0, hwv1, hwv2, hwv3]
    repeat' first | apply And.intro | refine hk _ ?_ | intro hg | omega | exact True.intro
    all_goals clear hk k
    refine rg [0,1,5] ?_
    intro k hk; simp -dsimp [go_sem, -decide_eq_true_eq, -decide_eq_false_iff_not, hp, hp2, hp3, hlt, idm, hoc, hoe, mN_len, hwk0, hwk1, hwk2, hwk3, hwv0, hwv1, hwv2, hwv3]
    repeat' first | apply And.intro | refine hk _ ?_ | intro hg | omega | exact True.intro
    all_goals clear hk k
    refine rg [0,1,5] ?_
    intro k hk; simp -dsimp (maxSteps := 2000000) [go_sem, -decide_eq_true_eq, -decide_eq_false_iff_not, hp, hp2, hp3, hlt, idm, hoc, hoe, mN_len, hwk0, hwk1, hwk2, hwk3, hwv0, hwv1, hwv2, hwv3]
    repeat' first | apply And.intro | refine hk _ ?_ | intro hg | (refine CallK.intro (dc_laws_markText _ (by omega)) ?_; simp -dsimp (maxSteps := 2000000) [go_sem, -decide_eq_true_eq, -decide_eq_false_iff_not, hp, hp2, hp3, hlt, idm, hoc, hoe, mN_len, hwk0, hwk1, hwk2, hwk3, hwv0, hwv1, hwv2, hwv3]) | omega | exact True.intro
    all_goals clear hk k
    refine rg [0,1,5] ?_
    intro k hk; simp -dsimp [go_sem, -decide_eq_true_eq, -decide_eq_false_iff_not, hp, hp2, hp3, hlt, idm, hoc, hoe, mN_len, hwk0, hwk1, hwk2, hwk3, hwv0, hwv1, hwv2, hwv3]
    repeat' first | apply And.intro | refine hk _ ?_ | intro hg | omega | exact True.intro
    all_goals clear hk k
    refine rg [0,1,5] ?_
    intro k hk; simp -dsimp [go_sem, -decide_eq_true_eq, -decide_eq_false_iff_not, hp, hp2, hp3, hlt, idm, hoc, hoe, mN_len, hwk0, hwk1, hwk2, hwk3, hwv0, hwv1, hwv2, hwv3]
    repeat' first | apply And.intro | refine hk _ ?_ | intro hg | omega | exact True.intro
    all_goals clear hk k
    refine rg [0,1,5] ?_
    intro k hk; simp -dsimp [go_sem, -decide_eq_true_eq, -decide_eq_false_iff_not, hp, hp2, hp3, hlt, idm, hoc, hoe, mN_len, hwk0, hwk1, hwk2, hwk3, hwv0, hwv1, hwv2, hwv3]
    repeat' first | apply And.intro | refine hk _ ?_ | intro hg | omega | exact True.intro
    all_goals clear hk k
    try refine AW.thaw 1900 i 4 7004 rfl (node_here (by (repeat rw [List.length_set]); omega)) rfl (by simp [go_sem, idm, not_ids_set]) ?_
    refine AW.reg0 tiOk (fun i => if i = 6 then [0] else []) [0,1,5] ?_
    intro k hk; simp -dsimp (maxSteps := 2000000) [go_sem, -decide_eq_true_eq, -decide_eq_false_iff_not, hp, hp2, hp3, hlt, idm, hoc, hoe, mN_len, hwk0, hwk1, hwk2, hwk3, hwv0, hwv1, hwv2, hwv3]
    repeat' first | apply And.intro | refine hk _ ?_ | intro hg | ((first | refine CallK.intro (dc_laws_markNodeS_x x.cond _ (by constructor <;> omega)) ?_ | refine CallK.intro (dc_laws_markNodeS_x x.expr _ (by constructor <;> omega)) ?_ | refine CallK.intro (dc_laws_markNodeS_nil _) ?_); simp -dsimp (maxSteps := 2000000) [go_sem, -decide_eq_true_eq, -decide_eq_false_iff_not, hp, hp2, hp3, hlt, idm, hoc, hoe, mN_len, hwk0, hwk1, hwk2, hwk3, hwv0, hwv1, hwv2, hwv3]) | omega | exact True.intro
    all_goals clear hk k
    try (guard_hyp hoc0 : 0 < x.cond.length; refine AW.fold 1900 i 4 7004 rfl (node_here (by (repeat rw [List.length_set]); omega)) rfl rfl (by simp [mN_len]) (by decide) (by simp [go_sem, mN_len]) ?_)
    try refine AW.thaw 1900 i 5 7005 rfl (node_here (by (repeat rw [List.length_set]); omega)) rfl (by simp [go_sem, idm, not_ids_set]) ?_
    refine AW.regN0 tiOk (fun i => if i = 6 then [0] else []) [0,1,5] (fun _ h => h) ?_
    intro k hk; simp -dsimp (maxSteps := 2000000) [go_sem, -decide_eq_true_eq, -decide_eq_false_iff_not, hp, hp2, hp3, hlt, idm, hoc, hoe, mN_len, hwk0, hwk1, hwk2, hwk3, hwv0, hwv1, hwv2, hwv3]
    repeat' first | apply And.intro | refine hk _ ?_ | intro hg | ((first | refine CallK.intro (dc_laws_markNodeS_x x.cond _ (by constructor <;> omega)) ?_ | refine CallK.intro (dc_laws_markNodeS_x x.expr _ (by constructor <;> omega)) ?_ | refine CallK.intro (dc_laws_markNodeS_nil _) ?_); simp -dsimp (maxSteps := 2000000) [go_sem, -decide_eq_true_eq, -decide_eq_false_iff_not, hp, hp2, hp3, hlt, idm, hoc, hoe, mN_len, hwk0, hwk1, hwk2, hwk3, hwv0, hwv1, hwv2, hwv3]) | omega | exact True.intro
    all_goals clear hk k
    try (guard_hyp hoe0 : 0 < x.expr.length; refine AW.fold 1900 i 5 7005 rfl (node_here (by (repeat rw [List.length_set]); omega)) rfl rfl (by simp [mN_len]) (by decide) (by simp [go_sem, mN_len]) ?_)
    refine rgK ?_
    intro k hk; simp -dsimp [go_sem, -decide_eq_true_eq, -decide_eq_false_iff_not, hp, hp2, hp3, hlt, idm, hoc, hoe, mN_len, hwk0, hwk1, hwk2, hwk3, hwv0, hwv1, hwv2, hwv3]
    repeat' first | apply And.intro | refine hk _ ?_ | intro hg | omega | exact True.intro
    all_goals clear hk k
    show ∃ _, _
    have hw := wrapi hlt (by omega)
    have hs := congrArg (List.map TStep.oc) (mix_set hmm (mSt_at hx))
    rw [List.map_set] at hs
    refine ⟨i + 1, by omega, by omega, Less.of rfl (by simp [go_sem, hw, hmt, hoc0, hoe0] <;> omega) (by rw [← hs]; simp [go_sem, stepM, TStep.oc, hoc2, hoe2, List.set_set] <;> simp [hoc0])⟩))
 ·intro hc; try simp at hc
  all_goals (
   refine AW.exitN (fun _ h => h) ?_
   refine rgA [0,4] ?_
   refine rt ?_
   obtain rfl : i = l.length := (by omega)
   simp [go_sem, Try.results12, mix_end hmm (Nat.le_refl _), hmm])

end Go.AM
namespace Go.AM
open Go.Proofs

set_option maxHeartbeats 4000000 in
/-- laws.heldStepS -/
theorem dc_laws_heldStepS (l : List TStep) (k : Int) (hk : 0 ≤ k ∧ k + (mkS l : Int) ≤ 4611686018427387904) : DC Try.prog 34 [.isl 6 ((mSt k l).map TStep.ro), .int .i64 k] (.int .i64 (k + (mkS l : Int))) [] := by
 have hlk := mkS_len l
 have hmm : (mSt k l).length = l.length := mSt_len
 refine DC.intro tiOk Try.func34 rfl rfl rfl rfl rfl rfl rfl rfl [] ?_
 refine rg [0,1] ?_
 intro k hk; simp -dsimp [go_sem, -decide_eq_true_eq, -decide_eq_false_iff_not, hmm]
 repeat' first | apply And.intro | refine hk _ ?_ | intro hg | omega | exact True.intro
 all_goals clear hk k
 refine AW.seq ?_
 refine rg [0,1,5] ?_
 intro k hk; simp -dsimp [go_sem, -decide_eq_true_eq, -decide_eq_false_iff_not, hmm]
 repeat' first | apply And.intro | refine hk _ ?_ | intro hg | omega | exact True.intro
 all_goals clear hk k
 refine AW.block ?_
 refine AW.loopI (fun i : Nat => ⟨68, [(0, .isl 6 ((mSt k l).map TStep.ro)), (1, .int .i64 (k + (mkS (l.take i) : Int))), (5, .int .i64 i)], []⟩) (fun i => i ≤ l.length) (fun i => l.length - i) (0) (by simp) (Less.of rfl (by simp [go_sem, mkS]) (by simp [go_sem])) ?_
 rintro i hi
 refine AW.seq ?_
 refine rg [0,1,5,9] ?_
 intro k hk; simp -dsimp [go_sem, -decide_eq_true_eq, -decide_eq_false_iff_not, hmm]
 repeat' first | apply And.intro | refine hk _ ?_ | intro hg | omega | exact True.intro
 all_goals clear hk k
 refine AW.cond rfl ?_ ?_
 ·intro hc; try simp at hc
  all_goals try (exfalso; omega; done)
  all_goals (
   have hlt : i < l.length := by assumption
   obtain ⟨x, hx⟩ := at_some hlt
   have hy := mSt_at (k := k) hx
   have hmt := mkS_take hx
   have hml := mkS_le l i
   have hml2 := mkS_le l (i + 1)
   unfold TStep.mn at hmt
   have hwk0 : IntKind.wrap .i64 ((k + (mkS (l.take i) : Int)) + 1) = (k + (mkS (l.take i) : Int)) + 1 := (wrap64 (by omega) (by omega)).trans (by omega)
   have hwk1 : IntKind.wrap .i64 ((k + (mkS (l.take i) : Int)) + 1 + 1) = (k + (mkS (l.take i) : Int)) + 2 := (wrap64 (by omega) (by omega)).trans (by omega)
   have hwk2 : IntKind.wrap .i64 ((k + (mkS (l.take i) : Int)) + 2 + 1) = (k + (mkS (l.take i) : Int)) + 3 := (wrap64 (by omega) (by omega)).trans (by omega)
   have hwk3 : IntKind.wrap .i64 ((k + (mkS (l.take i) : Int)) + 3 + 1) = (k + (mkS (l.take i) : Int)) + 4 := (wrap64 (by omega) (by omega)).trans (by omega)
   have hwv0 : IntKind.wrap .i64 ((k + (mkS (l.take i) : Int))) = (k + (mkS (l.take i) : Int)) := wrap64 (by omega) (by omega)
   have hwv1 : IntKind.wrap .i64 ((k + (mkS (l.take i) : Int)) + 1) = (k + (mkS (l.take i) : Int)) + 1 := wrap64 (by omega) (by omega)
   have hwv2 : IntKind.wrap .i64 ((k + (mkS (l.take i) : Int)) + 2) = (k + (mkS (l.take i) : Int)) + 2 := wrap64 (by omega) (by omega)
   have hwv3 : IntKind.wrap .i64 ((k + (mkS (l.take i) : Int)) + 3) = (k + (mkS (l.take i) : Int)) + 3 := wrap64 (by omega) (by omega)
   refine AW.skipN (fun _ h => h) ?_
   refine AW.seq ?_
   refine AW.block ?_
   refine AW.seq ?_
   refine rg [0,1,5,18] ?_
   intro k hk; simp -dsimp (maxSteps := 2000000) [go_sem, -decide_eq_true_eq, -decide_eq_false_iff_not, hmm, hy, stepM, hwk0, hwk1, hwk2, hwk3, hwv0, hwv1, hwv2, hwv3]
   repeat' first | apply And.intro | refine hk _ ?_ | intro hg | omega | exact True.intro
   all_goals clear hk k
   refine AW.cond rfl ?_ ?_
   ·intro hc; try simp at hc
    all_goals try (exfalso; omega; done)
    all_goals (
     refine rg [4] ?_
     intro k hk; simp -dsimp [go_sem, -decide_eq_true_eq, -decide_eq_false_iff_not, hmm, hy, stepM, hwk0, hwk1, hwk2, hwk3, hwv0, hwv1, hwv2, hwv3]
     repeat' first | apply And.intro | refine hk _ ?_ | intro hg | omega | exact True.intro
     all_goals clear hk k
     refine rt ?_
     obtain rfl : i = l.length := (by omega)
     simp [go_sem, Try.results34])
   ·intro hc; try simp at hc
    all_goals try (exfalso; omega; done)
    all_goals (
     refine AW.skipN (fun _ h => h) ?_
     refine rg [0,1,5] ?_
     intro k hk; simp -dsimp [go_sem, -decide_eq_true_eq, -decide_eq_false_iff_not, hmm, hy, stepM, hwk0, hwk1, hwk2, hwk3, hwv0, hwv1, hwv2, hwv3]
     repeat' first | apply And.intro | refine hk _ ?_ | intro hg | omega | exact True.intro
     all_goals clear hk k
     refine AW.seq ?_
     refine rg [0,1,5,27] ?_
     intro k hk; simp -dsimp (maxSteps := 2000000) [go_sem, -decide_eq_true_eq, -decide_eq_false_iff_not, hmm, hy, stepM, hwk0, hwk1, hwk2, hwk3, hwv0, hwv1, hwv2, hwv3]
     repeat' first | apply And.intro | refine hk _ ?_ | intro hg | omega | exact True.intro
     all_goals clear hk k
     refine AW.cond rfl ?_ ?_
     ·intro hc; try simp at hc
      all_goals try (exfalso; omega; done)
      all_goals (
       refine rg [4] ?_
       intro k hk; simp -dsimp [go_sem, -decide_eq_true_eq, -decide_eq_false_iff_not, hmm, hy, stepM, hwk0, hwk1, hwk2, hwk3, hwv0, hwv1, hwv2, hwv3]
       repeat' first | apply And.intro | refine hk _ ?_ | intro hg | omega | exact True.intro
       all_goals clear hk k
       refine rt ?_
       obtain rfl : i = l.length := (by omega)
       simp [go_sem, Try.results34])
     ·intro hc; try simp at hc
      all_goals try (exfalso; omega; done)
      all_goals (
       refine AW.skipN (fun _ h => h) ?_
       refine rg [0,1,5] ?_
       intro k hk; simp -dsimp [go_sem, -decide_eq_true_eq, -decide_eq_false_iff_not, hmm, hy, stepM, hwk0, hwk1, hwk2, hwk3, hwv0, hwv1, hwv2, hwv3]
       repeat' first | apply And.intro | refine hk _ ?_ | intro hg | omega | exact True.intro
       all_goals clear hk k
       refine AW.seq ?_
       refine rg [0,1,5,37] ?_
       intro k hk; simp -dsimp (maxSteps := 2000000) [go_sem, -decide_eq_true_eq, -decide_eq_false_iff_not, hmm, hy, stepM, hwk0, hwk1, hwk2, hwk3, hwv0, hwv1, hwv2, hwv3]
       repeat' first | (refine Chk.keys ?_; simp only [go_sem, List.map_cons, List.map_nil, List.flatMap_cons, List.flatMap_nil, List.flatMap_append, List.append_nil, List.nil_append, List.cons_append]; decide +kernel) | apply And.intro | refine hk _ ?_ | intro hg | (refine CallK.intro (dc_laws_markText _ (by omega)) ?_; simp -dsimp (maxSteps := 2000000) [go_sem, -decide_eq_true_eq, -decide_eq_false_iff_not, hmm, hy, stepM, hwk0, hwk1, hwk2, hwk3, hwv0, hwv1, hwv2, hwv3]) | omega | exact True.intro
       all_goals clear hk k
       refine AW.cond rfl ?_ ?_
       ·intro hc; try simp at hc
        all_goals try (exfalso; omega; done)
        all_goals (
         refine rg [4] ?_
         intro k hk; simp -dsimp [go_sem, -decide_eq_true_eq, -decide_eq_false_iff_not, hmm, hy, stepM, hwk0, hwk1, hwk2, hwk3, hwv0, hwv1, hwv2, hwv3]
         repeat' first | apply And.intro | refine hk _ ?_ | intro hg | omega | exact True.intro
         all_goals clear hk k
         refine rt ?_
         obtain rfl : i = l.length := (by omega)
         simp [go_sem, Try.results34])
       ·intro hc; try simp at hc
        all_goals try (exfalso; omega; done)
        all_goals (
         refine AW.skipN (fun _ h => h) ?_
         refine rg [0,1,5] ?_
         intro k hk; simp -dsimp [go_sem, -decide_eq_true_eq, -decide_eq_false_iff_not, hmm, hy, stepM, hwk0, hwk1, hwk2, hwk3, hwv0, hwv1, hwv2, hwv3]
         repeat' first | apply And.intro | refine hk _ ?_ | intro hg | omega | exact True.intro
         all_goals clear hk k
         refine AW.seq ?_
         refine rg [0,1,5,46] ?_
         intro k hk; simp -dsimp (maxSteps := 2000000) [go_sem, -decide_eq_true_eq, -decide_eq_false_iff_not, hmm, hy, stepM, hwk0, hwk1, hwk2, hwk3, hwv0, hwv1, hwv2, hwv3]
         repeat' first | apply And.intro | refine hk _ ?_ | intro hg | omega | exact True.intro
         all_goals clear hk k
         refine AW.cond rfl ?_ ?_
         ·intro hc; try simp at hc
          all_goals try (exfalso; omega; done)
          all_goals (
           refine rg [4] ?_
           intro k hk; simp -dsimp [go_sem, -decide_eq_true_eq, -decide_eq_false_iff_not, hmm, hy, stepM, hwk0, hwk1, hwk2, hwk3, hwv0, hwv1, hwv2, hwv3]
           repeat' first | apply And.intro | refine hk _ ?_ | intro hg | omega | exact True.intro
           all_goals clear hk k
           refine rt ?_
           obtain rfl : i = l.length := (by omega)
           simp [go_sem, Try.results34])
         ·intro hc; try simp at hc
          all_goals try (exfalso; omega; done)
          all_goals (
           refine AW.skipN (fun _ h => h) ?_
           refine rg [0,1,5] ?_
           intro k hk; simp -dsimp [go_sem, -decide_eq_true_eq, -decide_eq_false_iff_not, hmm, hy, stepM, hwk0, hwk1, hwk2, hwk3, hwv0, hwv1, hwv2, hwv3]
           repeat' first | apply And.intro | refine hk _ ?_ | intro hg | omega | exact True.intro
           all_goals clear hk k
           refine rg [0,1,5] ?_
           intro k hk; simp -dsimp (maxSteps := 2000000) [go_sem, -decide_eq_true_eq, -decide_eq_false_iff_not, hmm, hy, stepM, hwk0, hwk1, hwk2, hwk3, hwv0, hwv1, hwv2, hwv3]
           repeat' first | apply And.intro | refine hk _ ?_ | intro hg | ((first | refine CallK.intro (dc_laws_heldNodeS x.cond.length _ (by constructor <;> omega)) ?_ | refine CallK.intro (dc_laws_heldNodeS x.expr.length _ (by constructor <;> omega)) ?_); simp -dsimp (maxSteps := 2000000) [go_sem, -decide_eq_true_eq, -decide_eq_false_iff_not, hmm, hy, stepM, hwk0, hwk1, hwk2, hwk3, hwv0, hwv1, hwv2, hwv3]) | omega | exact True.intro
           all_goals clear hk k
           refine AW.seq ?_
           refine rg [0,1,5,57] ?_
           intro k hk; simp -dsimp [go_sem, -decide_eq_true_eq, -decide_eq_false_iff_not, hmm, hy, stepM, hwk0, hwk1, hwk2, hwk3, hwv0, hwv1, hwv2, hwv3]
           repeat' first | apply And.intro | refine hk _ ?_ | intro hg | omega | exact True.intro
           all_goals clear hk k
           refine AW.cond rfl ?_ ?_
           ·intro hc; try simp at hc
            all_goals try (exfalso; omega; done)
            all_goals (
             refine rg [4] ?_
             intro k hk; simp -dsimp [go_sem, -decide_eq_true_eq, -decide_eq_false_iff_not, hmm, hy, stepM, hwk0, hwk1, hwk2, hwk3, hwv0, hwv1, hwv2, hwv3]
             repeat' first | apply And.intro | refine hk _ ?_ | intro hg | omega | exact True.intro
             all_goals clear hk k
             refine rt ?_
             obtain rfl : i = l.length := (by omega)
             simp [go_sem, Try.results34])
           ·intro hc; try simp at hc
            all_goals try (exfalso; omega; done)
            all_goals (
             refine AW.skipN (fun _ h => h) ?_
             refine rg [0,1,5] ?_
             intro k hk; simp -dsimp (maxSteps := 2000000) [go_sem, -decide_eq_true_eq, -decide_eq_false_iff_not, hmm, hy, stepM, hwk0, hwk1, hwk2, hwk3, hwv0, hwv1, hwv2, hwv3]
             repeat' first | apply And.intro | refine hk _ ?_ | intro hg | ((first | refine CallK.intro (dc_laws_heldNodeS x.cond.length _ (by constructor <;> omega)) ?_ | refine CallK.intro (dc_laws_heldNodeS x.expr.length _ (by constructor <;> omega)) ?_); simp -dsimp (maxSteps := 2000000) [go_sem, -decide_eq_true_eq, -decide_eq_false_iff_not, hmm, hy, stepM, hwk0, hwk1, hwk2, hwk3, hwv0, hwv1, hwv2, hwv3]) | omega | exact True.intro
             all_goals clear hk k
             refine rg [0,1,5,66] ?_
             intro k hk; simp -dsimp [go_sem, -decide_eq_true_eq, -decide_eq_false_iff_not, hmm, hy, stepM, hwk0, hwk1, hwk2, hwk3, hwv0, hwv1, hwv2, hwv3]
             repeat' first | apply And.intro | refine hk _ ?_ | intro hg | omega | exact True.intro
             all_goals clear hk k
             refine AW.cond rfl ?_ ?_
             ·intro hc; try simp at hc
              all_goals try (exfalso; omega; done)
              all_goals (
               refine rg [4] ?_
               intro k hk; simp -dsimp [go_sem, -decide_eq_true_eq, -decide_eq_false_iff_not, hmm, hy, stepM, hwk0, hwk1, hwk2, hwk3, hwv0, hwv1, hwv2, hwv3]
               repeat' first | apply And.intro | refine hk _ ?_ | intro hg | omega | exact True.intro
               all_goals clear hk k
               refine rt ?_
               obtain rfl : i = l.length := (by omega)
               simp [go_sem, Try.results34])
             ·intro hc; try simp at hc
              all_goals try (exfalso; omega; done)
              all_goals (
               refine AW.skipN (fun _ h => h) ?_
               refine rgK ?_
               intro k hk; simp -dsimp [go_sem, -decide_eq_true_eq, -decide_eq_false_iff_not, hmm, hy, stepM, hwk0, hwk1, hwk2, hwk3, hwv0, hwv1, hwv2, hwv3]
               repeat' first | apply And.intro | refine hk _ ?_ | intro hg | omega | exact True.intro
               all_goals clear hk k
               show ∃ _, _
               have hw := wrapi hlt (by omega)
               refine ⟨i + 1, by omega, by omega, Less.of rfl (by simp [go_sem, hw, hmt] <;> omega) (by simp [go_sem])⟩)))))))
 ·intro hc; try simp at hc
  all_goals try (exfalso; omega; done)
  all_goals (
   refine AW.exitN (fun _ h => h) ?_
   refine rg [4] ?_
   intro k hk; simp -dsimp [go_sem, -decide_eq_true_eq, -decide_eq_false_iff_not, hmm]
   repeat' first | apply And.intro | refine hk _ ?_ | intro hg | omega | exact True.intro
   all_goals clear hk k
   refine rt ?_
   obtain rfl : i = l.length := (by omega)
   simp [go_sem, Try.results34])

end Go.AM
namespace Go.AM
end Go.AM
namespace Go.AM
open Go.Proofs

/-- laws.markStepS -/
theorem dc_laws_markStepS_nil (k : Int) : DC Try.prog 12 [.isl 6 [], .int .i64 k] (.int .i64 k) [] := by
 refine DC.intro tiOk Try.func12 rfl rfl rfl rfl rfl rfl rfl rfl [] ?_
 refine rgA [0,1] ?_
 refine AW.seq ?_
 refine rgA [0,1,5] ?_
 refine AW.block ?_
 refine AW.loopI (fun _ : Nat => ⟨56, [(0, .isl 6 []), (1, .int .i64 k), (5, .int .i64 0)], []⟩) (fun _ => True) (fun _ => 0) (0) (trivial) (Less.of rfl (by simp [go_sem]) (by simp [go_sem])) ?_
 rintro i _
 refine AW.seq ?_
 refine rgA [0,1,5,9] ?_
 refine AW.cond rfl ?_ ?_
 ·intro hc; try simp at hc
  all_goals try (exfalso; first | omega | (simp at hc; done); done)
  all_goals (
   refine AW.skipN (fun _ h => h) ?_
   refine AW.seq ?_
   refine AW.block ?_
   refine rgA [0,1,5] ?_
   refine rgA [0,1,5] ?_
   refine rgA [0,1,5] ?_
   refine rgA [0,1,5] ?_
   refine rg [0,1,5] ?_
   intro k hk; simp -dsimp (maxSteps := 2000000) [go_sem, -decide_eq_true_eq, -decide_eq_false_iff_not]
   repeat' first | apply And.intro | refine hk _ ?_ | intro hg | (refine CallK.intro (dc_laws_markText _ (by omega)) ?_; simp -dsimp (maxSteps := 2000000) [go_sem, -decide_eq_true_eq, -decide_eq_false_iff_not]) | omega | exact True.intro
   all_goals clear hk k
   refine rgA [0,1,5] ?_
   refine rgA [0,1,5] ?_
   refine rgA [0,1,5] ?_
   refine AW.reg tiOk (fun _ => [0]) [0,1,5] ?_
   intro k hk; simp -dsimp (maxSteps := 2000000) [go_sem, -decide_eq_true_eq, -decide_eq_false_iff_not]
   repeat' first | apply And.intro | refine hk _ ?_ | intro hg | (refine CallK.intro (dc_laws_markNodeS _) ?_; simp -dsimp (maxSteps := 2000000) [go_sem, -decide_eq_true_eq, -decide_eq_false_iff_not]) | omega | exact True.intro
   all_goals clear hk k
   refine AW.regN tiOk (fun _ => [0]) [0,1,5] (fun _ h => h) ?_
   intro k hk; simp -dsimp (maxSteps := 2000000) [go_sem, -decide_eq_true_eq, -decide_eq_false_iff_not]
   repeat' first | apply And.intro | refine hk _ ?_ | intro hg | (refine CallK.intro (dc_laws_markNodeS _) ?_; simp -dsimp (maxSteps := 2000000) [go_sem, -decide_eq_true_eq, -decide_eq_false_iff_not]) | omega | exact True.intro
   all_goals clear hk k
   refine rgKA ?_
   show ∃ _, _
   exact absurd hc (by simp))
 ·intro hc; try simp at hc
  all_goals try (exfalso; first | omega | (simp at hc; done); done)
  all_goals (
   refine AW.exitN (fun _ h => h) ?_
   refine rgA [4] ?_
   refine rt ?_
   simp [go_sem, Try.results12])

end Go.AM
namespace Go.AM
open Go.Proofs

/-- laws.eqProcResult -/
theorem dc_laws_eqProcResult (a b : TProcResult) (hg : a.gok) : DC Try.prog 10 [.agg a.ro, .agg b.ro] (.bool (decide (a = b))) [] := by
 have h0 := hg
 unfold TProcResult.gok at h0
 refine DC.intro tiOk Try.func10 rfl rfl rfl rfl rfl rfl rfl rfl [] ?_
 refine rgA [2,3] ?_
 refine AW.seq ?_
 refine rgA [2,3,9] ?_
 refine AW.cond rfl ?_ ?_
 ·intro hc; try simp at hc
  all_goals (
   refine rgA [4] ?_
   refine rt ?_
   cases a; cases b; simp [go_sem, Try.results10] at *; simp [*])
 ·intro hc; try simp at hc
  all_goals (
   refine AW.skipN (fun _ h => h) ?_
   refine AW.seq ?_
   refine rg [15] ?_
   intro k hk; simp -dsimp (maxSteps := 2000000) [go_sem, -decide_eq_true_eq, -decide_eq_false_iff_not]
   repeat' first | apply And.intro | refine hk _ ?_ | intro hg | (refine CallK.intro (dc_laws_eqStepS a.proc b.proc h0) ?_; simp -dsimp (maxSteps := 2000000) [go_sem, -decide_eq_true_eq, -decide_eq_false_iff_not]) | omega | exact True.intro
   all_goals clear hk k
   refine AW.cond rfl ?_ ?_
   ·intro hc; try simp at hc
    all_goals (
     refine rgA [4] ?_
     refine rt ?_
     cases a; cases b; simp [go_sem, Try.results10] at *; simp [*])
   ·intro hc; try simp at hc
    all_goals (
     refine AW.skipN (fun _ h => h) ?_
     refine rgA [4] ?_
     refine rt ?_
     cases a; cases b; simp [go_sem, Try.results10] at *; simp [*]))

/-- laws.heldStepS -/
theorem dc_laws_heldStepS_nil (k : Int) : DC Try.prog 34 [.isl 6 [], .int .i64 k] (.int .i64 k) [] := by
 refine DC.intro tiOk Try.func34 rfl rfl rfl rfl rfl rfl rfl rfl [] ?_
 refine rgA [0,1] ?_
 refine AW.seq ?_
 refine rgA [0,1,5] ?_
 refine AW.block ?_
 refine AW.loopI (fun _ : Nat => ⟨68, [(0, .isl 6 []), (1, .int .i64 k), (5, .int .i64 0)], []⟩) (fun _ => True) (fun _ => 0) (0) (trivial) (Less.of rfl (by simp [go_sem]) (by simp [go_sem])) ?_
 rintro i _
 refine AW.seq ?_
 refine rgA [0,1,5,9] ?_
 refine AW.cond rfl ?_ ?_
 ·intro hc; try simp at hc
  all_goals try (exfalso; first | omega | (simp at hc; done); done)
  all_goals (
   refine AW.skipN (fun _ h => h) ?_
   refine AW.seq ?_
   refine AW.block ?_
   refine AW.seq ?_
   refine rgA [0,1,5,18] ?_
   refine AW.cond rfl ?_ ?_
   ·intro hc; try simp at hc
    all_goals try (exfalso; first | omega | (simp at hc; done); done)
    all_goals (
     refine rgA [4] ?_
     refine rt ?_
     simp [go_sem, Try.results34])
   ·intro hc; try simp at hc
    all_goals try (exfalso; first | omega | (simp at hc; done); done)
    all_goals (
     refine AW.skipN (fun _ h => h) ?_
     refine rgA [0,1,5] ?_
     refine AW.seq ?_
     refine rgA [0,1,5,27] ?_
     refine AW.cond rfl ?_ ?_
     ·intro hc; try simp at hc
      all_goals try (exfalso; first | omega | (simp at hc; done); done)
      all_goals (
       refine rgA [4] ?_
       refine rt ?_
       simp [go_sem, Try.results34])
     ·intro hc; try simp at hc
      all_goals try (exfalso; first | omega | (simp at hc; done); done)
      all_goals (
       refine AW.skipN (fun _ h => h) ?_
       refine rgA [0,1,5] ?_
       refine AW.seq ?_
       refine rg [0,1,5,37] ?_
       intro k hk; simp -dsimp (maxSteps := 2000000) [go_sem, -decide_eq_true_eq, -decide_eq_false_iff_not]
       repeat' first | (refine Chk.keys ?_; simp only [go_sem, List.map_cons, List.map_nil, List.flatMap_cons, List.flatMap_nil, List.flatMap_append, List.append_nil, List.nil_append, List.cons_append]; decide +kernel) | apply And.intro | refine hk _ ?_ | intro hg | (refine CallK.intro (dc_laws_markText _ (by omega)) ?_; simp -dsimp (maxSteps := 2000000) [go_sem, -decide_eq_true_eq, -decide_eq_false_iff_not]) | omega | exact True.intro
       all_goals clear hk k
       refine AW.cond rfl ?_ ?_
       ·intro hc; try simp at hc
        all_goals try (exfalso; first | omega | (simp at hc; done); done)
        all_goals (
         refine rgA [4] ?_
         refine rt ?_
         simp [go_sem, Try.results34])
       ·intro hc; try simp at hc
        all_goals try (exfalso; first | omega | (simp at hc; done); done)
        all_goals (
         refine AW.skipN (fun _ h => h) ?_
         refine rgA [0,1,5] ?_
         refine AW.seq ?_
         refine rgA [0,1,5,46] ?_
         refine AW.cond rfl ?_ ?_
         ·intro hc; try simp at hc
          all_goals try (exfalso; first | omega | (simp at hc; done); done)
          all_goals (
           refine rgA [4] ?_
           refine rt ?_
           simp [go_sem, Try.results34])
         ·intro hc; try simp at hc
          all_goals try (exfalso; first | omega | (simp at hc; done); done)
          all_goals (
           refine AW.skipN (fun _ h => h) ?_
           refine rgA [0,1,5] ?_
           refine rg [0,1,5] ?_
           intro k hk; simp -dsimp (maxSteps := 2000000) [go_sem, -decide_eq_true_eq, -decide_eq_false_iff_not]
           repeat' first | apply And.intro | refine hk _ ?_ | intro hg | (refine CallK.intro (dc_laws_heldNodeS _) ?_; simp -dsimp (maxSteps := 2000000) [go_sem, -decide_eq_true_eq, -decide_eq_false_iff_not]) | omega | exact True.intro
           all_goals clear hk k
           refine AW.seq ?_
           refine rgA [0,1,5,57] ?_
           refine AW.cond rfl ?_ ?_
           ·intro hc; try simp at hc
            all_goals try (exfalso; first | omega | (simp at hc; done); done)
            all_goals (
             refine rgA [4] ?_
             refine rt ?_
             simp [go_sem, Try.results34])
           ·intro hc; try simp at hc
            all_goals try (exfalso; first | omega | (simp at hc; done); done)
            all_goals (
             refine AW.skipN (fun _ h => h) ?_
             refine rg [0,1,5] ?_
             intro k hk; simp -dsimp (maxSteps := 2000000) [go_sem, -decide_eq_true_eq, -decide_eq_false_iff_not]
             repeat' first | apply And.intro | refine hk _ ?_ | intro hg | (refine CallK.intro (dc_laws_heldNodeS _) ?_; simp -dsimp (maxSteps := 2000000) [go_sem, -decide_eq_true_eq, -decide_eq_false_iff_not]) | omega | exact True.intro
             all_goals clear hk k
             refine rgA [0,1,5,66] ?_
             refine AW.cond rfl ?_ ?_
             ·intro hc; try simp at hc
              all_goals try (exfalso; first | omega | (simp at hc; done); done)
              all_goals (
               refine rgA [4] ?_
               refine rt ?_
               simp [go_sem, Try.results34])
             ·intro hc; try simp at hc
              all_goals try (exfalso; first | omega | (simp at hc; done); done)
              all_goals (
               refine AW.skipN (fun _ h => h) ?_
               refine rgKA ?_
               show ∃ _, _
               exact absurd hc (by simp))))))))
 ·intro hc; try simp at hc
  all_goals try (exfalso; first | omega | (simp at hc; done); done)
  all_goals (
   refine AW.exitN (fun _ h => h) ?_
   refine rgA [4] ?_
   refine rt ?_
   simp [go_sem, Try.results34])

/-- laws.markProcResult -/
theorem dc_laws_markProcResult_p (l : List TStep) (c k : Int) (hk : 0 ≤ k ∧ k + (mkS l : Int) ≤ 4611686018427387904) : DC Try.prog 13 [.agg [.int .i64 c, .osl 6 (l.map TStep.oc)], .int .i64 k] (.int .i64 (k + (mkS l : Int))) [(0, .agg [.int .i64 c, .osl 6 ((mSt k l).map TStep.oc)])] := by
 refine DC.intro tiOk Try.func13 rfl rfl rfl rfl rfl rfl rfl (by simp [noW, noWo]) [] ?_
 refine rg [0,1,2] ?_
 intro k hk; simp -dsimp [go_sem, -decide_eq_true_eq, -decide_eq_false_iff_not, mSt_len]
 repeat' first | apply And.intro | refine hk _ ?_ | intro hg | omega | exact True.intro
 all_goals clear hk k
 refine AW.reg tiOk (fun _ => [0]) [0,1] ?_
 intro k hk; simp -dsimp (maxSteps := 2000000) [go_sem, -decide_eq_true_eq, -decide_eq_false_iff_not, mSt_len]
 repeat' first | apply And.intro | refine hk _ ?_ | intro hg | (refine CallK.intro (dc_laws_markStepS_x l _ (by constructor <;> omega)) ?_; simp -dsimp (maxSteps := 2000000) [go_sem, -decide_eq_true_eq, -decide_eq_false_iff_not, mSt_len]) | omega | exact True.intro
 all_goals clear hk k
 refine rg [0,4] ?_
 intro k hk; simp -dsimp [go_sem, -decide_eq_true_eq, -decide_eq_false_iff_not, mSt_len]
 repeat' first | apply And.intro | refine hk _ ?_ | intro hg | omega | exact True.intro
 all_goals clear hk k
 refine rt ?_
 simp [go_sem, Try.results13, mSt_len]

/-- laws.markProcResult -/
theorem dc_laws_markProcResult_n (c k : Int) (hk : 0 ≤ k) : DC Try.prog 13 [.agg [.int .i64 c, .isl 6 []], .int .i64 k] (.int .i64 k) [] := by
 refine DC.intro tiOk Try.func13 rfl rfl rfl rfl rfl rfl rfl rfl [] ?_
 refine rgA [1,2] ?_
 refine rg [1] ?_
 intro k hk; simp -dsimp (maxSteps := 2000000) [go_sem, -decide_eq_true_eq, -decide_eq_false_iff_not]
 repeat' first | apply And.intro | refine hk _ ?_ | intro hg | (refine CallK.intro (dc_laws_markStepS_nil _) ?_; simp -dsimp (maxSteps := 2000000) [go_sem, -decide_eq_true_eq, -decide_eq_false_iff_not]) | omega | exact True.intro
 all_goals clear hk k
 refine rgA [4] ?_
 refine rt ?_
 simp [go_sem, Try.results13]

/-- laws.heldProcResult -/
theorem dc_laws_heldProcResult_p (l : List TStep) (c k : Int) (hk : 0 ≤ k ∧ k + (mkS l : Int) ≤ 4611686018427387904) : DC Try.prog 14 [.agg [.int .i64 c, .isl 6 ((mSt k l).map TStep.ro)], .int .i64 k] (.int .i64 (k + (mkS l : Int))) [] := by
 refine DC.intro tiOk Try.func14 rfl rfl rfl rfl rfl rfl rfl rfl [] ?_
 refine rgA [1,2] ?_
 refine rg [1] ?_
 intro k hk; simp -dsimp (maxSteps := 2000000) [go_sem, -decide_eq_true_eq, -decide_eq_false_iff_not]
 repeat' first | apply And.intro | refine hk _ ?_ | intro hg | (refine CallK.intro (dc_laws_heldStepS l _ (by constructor <;> omega)) ?_; simp -dsimp (maxSteps := 2000000) [go_sem, -decide_eq_true_eq, -decide_eq_false_iff_not]) | omega | exact True.intro
 all_goals clear hk k
 refine AW.seq ?_
 refine rgA [1,10] ?_
 refine AW.cond rfl ?_ ?_
 ·intro hc; try simp at hc
  all_goals try (exfalso; omega; done)
  all_goals (
   refine rgA [4] ?_
   refine rt ?_
   simp [go_sem, Try.results14])
 ·intro hc; try simp at hc
  all_goals try (exfalso; omega; done)
  all_goals (
   refine AW.skipN (fun _ h => h) ?_
   refine rgA [4] ?_
   refine rt ?_
   simp [go_sem, Try.results14])

/-- laws.heldProcResult -/
theorem dc_laws_heldProcResult_n (c k : Int) (hk : 0 ≤ k) : DC Try.prog 14 [.agg [.int .i64 c, .isl 6 []], .int .i64 k] (.int .i64 k) [] := by
 refine DC.intro tiOk Try.func14 rfl rfl rfl rfl rfl rfl rfl rfl [] ?_
 refine rgA [1,2] ?_
 refine rg [1] ?_
 intro k hk; simp -dsimp (maxSteps := 2000000) [go_sem, -decide_eq_true_eq, -decide_eq_false_iff_not]
 repeat' first | apply And.intro | refine hk _ ?_ | intro hg | (refine CallK.intro (dc_laws_heldStepS_nil _) ?_; simp -dsimp (maxSteps := 2000000) [go_sem, -decide_eq_true_eq, -decide_eq_false_iff_not]) | omega | exact True.intro
 all_goals clear hk k
 refine AW.seq ?_
 refine rgA [1,10] ?_
 refine AW.cond rfl ?_ ?_
 ·intro hc; try simp at hc
  all_goals try (exfalso; omega; done)
  all_goals (
   refine rgA [4] ?_
   refine rt ?_
   simp [go_sem, Try.results14])
 ·intro hc; try simp at hc
  all_goals try (exfalso; omega; done)
  all_goals (
   refine AW.skipN (fun _ h => h) ?_
   refine rgA [4] ?_
   refine rt ?_
   simp [go_sem, Try.results14])

end Go.AM
namespace Go.AM
open Go.Proofs

/-- laws.toStep -/
theorem dc_laws_toStep (x : TStep) (hs : x.sz ≤ 1048576) : DC Try.prog 26 [.agg x.ro] (.agg [.int .i64 x.kind, .int .i64 x.par, .str x.name, .int .i64 x.arg, .osl 4 (x.cond.map TNode.ro), .osl 4 (x.expr.map TNode.ro)]) [] := by
 unfold TStep.sz at hs
 have h4 : x.cond.length ≤ 1048576 := by omega
 have h5 : x.expr.length ≤ 1048576 := by omega
 refine DC.intro tiOk Try.func26 rfl rfl rfl rfl rfl rfl rfl rfl [1000] ?_
 refine rgA [1,2] ?_
 refine rgA [1,2,3] ?_
 refine rgA [1,2,3] ?_
 refine rgA [1,2,3] ?_
 refine rgA [1,2,3] ?_
 refine rgA [1,2,3] ?_
 refine rg [1,2,3] ?_
 intro k hk; simp -dsimp (maxSteps := 2000000) [go_sem, -decide_eq_true_eq, -decide_eq_false_iff_not]
 repeat' first | apply And.intro | refine hk _ ?_ | intro hg | (refine CallK.intro (dc_laws_toNodeS _ (by assumption)) ?_; simp -dsimp (maxSteps := 2000000) [go_sem, -decide_eq_true_eq, -decide_eq_false_iff_not]) | omega | exact True.intro
 all_goals clear hk k
 refine rg [2,3] ?_
 intro k hk; simp -dsimp (maxSteps := 2000000) [go_sem, -decide_eq_true_eq, -decide_eq_false_iff_not]
 repeat' first | apply And.intro | refine hk _ ?_ | intro hg | (refine CallK.intro (dc_laws_toNodeS _ (by assumption)) ?_; simp -dsimp (maxSteps := 2000000) [go_sem, -decide_eq_true_eq, -decide_eq_false_iff_not]) | omega | exact True.intro
 all_goals clear hk k
 refine rgA [2] ?_
 refine rt ?_
 simp [go_sem, Try.results26]

/-- laws.toStepS -/
theorem dc_laws_toStepS (l : List TStep) (hl : l.length ≤ 1048576 ∧ ∀ e ∈ l, e.sz ≤ 1048576) : DC Try.prog 8 [.isl 6 (l.map TStep.ro)] (.osl 6 (l.map TStep.oc)) [] := by
 obtain ⟨hl, hg⟩ := hl
 have idz : ∀ i, (fill TStep.oc [.int .i64 0, .int .i64 0, .str [], .int .i64 0, .nils, .nils] l i).flatMap idsL = [] := fun i => fill_ids (by intro x; simp [go_sem]) (by simp [go_sem])
 refine DC.intro tiOk Try.func8 rfl rfl rfl rfl rfl rfl rfl rfl [1000] ?_
 refine rg [0] ?_
 intro k hk; simp -dsimp [go_sem, -decide_eq_true_eq, -decide_eq_false_iff_not]
 repeat' first | apply And.intro | refine hk _ ?_ | intro hg | omega | exact True.intro | (show (_ : Nat) < _; simp [go_sem]; omega) | (show (_ : Nat) ≤ _; simp [go_sem]; done) | (show _ = _; simp [go_sem]; done) | (show _ ∧ _ ; simp [go_sem]; done)
 all_goals clear hk k
 refine rg [0,3] ?_
 intro k hk; simp -dsimp [go_sem, -decide_eq_true_eq, -decide_eq_false_iff_not]
 repeat' first | apply And.intro | refine hk _ ?_ | intro hg | omega | exact True.intro | (show (_ : Nat) < _; simp [go_sem]; omega) | (show (_ : Nat) ≤ _; simp [go_sem]; done) | (show _ = _; simp [go_sem]; done) | (show _ ∧ _ ; simp [go_sem]; done)
 all_goals clear hk k
 refine AW.seq ?_
 refine rg [0,3,4] ?_
 intro k hk; simp -dsimp [go_sem, -decide_eq_true_eq, -decide_eq_false_iff_not]
 repeat' first | apply And.intro | refine hk _ ?_ | intro hg | omega | exact True.intro | (show (_ : Nat) < _; simp [go_sem]; omega) | (show (_ : Nat) ≤ _; simp [go_sem]; done) | (show _ = _; simp [go_sem]; done) | (show _ ∧ _ ; simp [go_sem]; done)
 all_goals clear hk k
 refine AW.block ?_
 refine AW.loopI (fun i : Nat => ⟨23, [(0, .isl 6 (l.map TStep.ro)), (3, .sl 7 6 0 l.length), (4, .int .i64 i)], [(7, some ⟨6, fill TStep.oc [.int .i64 0, .int .i64 0, .str [], .int .i64 0, .nils, .nils] l i⟩)]⟩) (fun i => i ≤ l.length) (fun i => l.length - i) (0) (by simp) (Less.of rfl (by simp [go_sem]) (by simp [go_sem, fill_zero])) ?_
 rintro i hi
 refine AW.seq ?_
 refine rg [0,3,4,11] ?_
 intro k hk; simp -dsimp [go_sem, -decide_eq_true_eq, -decide_eq_false_iff_not]
 repeat' first | apply And.intro | refine hk _ ?_ | intro hg | omega | exact True.intro | (show (_ : Nat) < _; simp [go_sem]; omega) | (show (_ : Nat) ≤ _; simp [go_sem]; done) | (show _ = _; simp [go_sem]; done) | (show _ ∧ _ ; simp [go_sem]; done)
 all_goals clear hk k
 refine AW.cond rfl ?_ ?_
 ·intro hc; try simp at hc
  all_goals (
   have hlt : i < l.length := by assumption
   obtain ⟨x, hx⟩ := at_some hlt
   have hf := fill_len (f := TStep.oc) (z := [.int .i64 0, .int .i64 0, .str [], .int .i64 0, .nils, .nils]) hi
   have hf2 := fill_at (f := TStep.oc) (z := [.int .i64 0, .int .i64 0, .str [], .int .i64 0, .nils, .nils]) hlt
   refine AW.skipN (fun _ h => h) ?_
   refine AW.seq ?_
   refine AW.block ?_
   refine rgN0 [0,3,4] (fun _ h => h) ?_
   intro k hk; simp -dsimp (maxSteps := 2000000) [go_sem, -decide_eq_true_eq, -decide_eq_false_iff_not, hx, hf, hf2, idz]
   repeat' first | apply And.intro | refine hk _ ?_ | intro hg | (refine CallK.intro (dc_laws_toStep x (hg x (List.mem_of_getElem? hx))) ?_; simp -dsimp (maxSteps := 2000000) [go_sem, -decide_eq_true_eq, -decide_eq_false_iff_not, hx, hf, hf2, idz]) | omega | exact True.intro | (show (_ : Nat) < _; simp [go_sem, hx, hf, hf2, idz]; omega) | (show (_ : Nat) ≤ _; simp [go_sem, hx, hf, hf2, idz]; done) | (show _ = _; simp [go_sem, hx, hf, hf2, idz]; done) | (show _ ∧ _ ; simp [go_sem, hx, hf, hf2, idz]; done)
   all_goals clear hk k
   refine AW.fold (nd := ?nd_1) (c := ?c_1) (l := ?l_1) (es := ?es_1) (n := ?n_1) 7 i 4 1020 ?h1_1 ?h2_1 ?h4_1 ?h3_1 ?hn_1 (by decide) ?h6_1 ?kk_1
   (case h1_1 => exact rfl)
   (case h2_1 => refine node_here ?_; (repeat rw [List.length_set]); omega)
   (case h4_1 => exact rfl)
   (case h3_1 => exact rfl)
   (case hn_1 => simp)
   (case h6_1 => simp [go_sem])
   refine AW.cellLe (nd := ?nd_2) (c := ?c_2) (x := ?x_2) 7 i 4 (owc 4 (x.cond.map TNode.ro)) ?h1_2 ?h2_2 ?h3_2 ?h4_2 ?kk_2
   (case h1_2 => exact rfl)
   (case h2_2 => refine node_here ?_; (repeat rw [List.length_set]); omega)
   (case h3_2 => exact rfl)
   (case h4_2 => simp [go_sem])
   refine AW.fold (nd := ?nd_3) (c := ?c_3) (l := ?l_3) (es := ?es_3) (n := ?n_3) 7 i 5 2020 ?h1_3 ?h2_3 ?h4_3 ?h3_3 ?hn_3 (by decide) ?h6_3 ?kk_3
   (case h1_3 => exact rfl)
   (case h2_3 => refine node_here ?_; (repeat rw [List.length_set]); omega)
   (case h4_3 => exact rfl)
   (case h3_3 => exact rfl)
   (case hn_3 => simp)
   (case h6_3 => simp [go_sem])
   refine AW.cellLe (nd := ?nd_4) (c := ?c_4) (x := ?x_4) 7 i 5 (owc 4 (x.expr.map TNode.ro)) ?h1_4 ?h2_4 ?h3_4 ?h4_4 ?kk_4
   (case h1_4 => exact rfl)
   (case h2_4 => refine node_here ?_; (repeat rw [List.length_set]); omega)
   (case h3_4 => exact rfl)
   (case h4_4 => simp [go_sem])
   refine AW.tidy (st' := ?stt_5)  [0, 3, 4] ?e_5 ?kk_5
   (case e_5 => simp -dsimp [go_sem, List.set_set, hx, hf, hf2, idz]; exact rfl)
   refine rgK ?_
   intro k hk; simp -dsimp [go_sem, -decide_eq_true_eq, -decide_eq_false_iff_not, hx, hf, hf2, idz]
   repeat' first | apply And.intro | refine hk _ ?_ | intro hg | omega | exact True.intro | (show (_ : Nat) < _; simp [go_sem, hx, hf, hf2, idz]; omega) | (show (_ : Nat) ≤ _; simp [go_sem, hx, hf, hf2, idz]; done) | (show _ = _; simp [go_sem, hx, hf, hf2, idz]; done) | (show _ ∧ _ ; simp [go_sem, hx, hf, hf2, idz]; done)
   all_goals clear hk k
   show ∃ _, _
   have hw := wrapi hlt (by omega)
   have hs := fill_set (f := TStep.oc) (z := [.int .i64 0, .int .i64 0, .str [], .int .i64 0, .nils, .nils]) hx
   simp [go_sem] at hs
   refine ⟨i + 1, by omega, by omega, Less.of rfl (by simp [go_sem, hw]) (by simp [go_sem, List.set_set, ← hs])⟩)
 ·intro hc; try simp at hc
  all_goals (
   refine AW.exitN (fun _ h => h) ?_
   refine rg [2] ?_
   intro k hk; simp -dsimp [go_sem, -decide_eq_true_eq, -decide_eq_false_iff_not]
   repeat' first | apply And.intro | refine hk _ ?_ | intro hg | omega | exact True.intro | (show (_ : Nat) < _; simp [go_sem]; omega) | (show (_ : Nat) ≤ _; simp [go_sem]; done) | (show _ = _; simp [go_sem]; done) | (show _ ∧ _ ; simp [go_sem]; done)
   all_goals clear hk k
   refine rt ?_
   have he := fill_end (f := TStep.oc) (z := [.int .i64 0, .int .i64 0, .str [], .int .i64 0, .nils, .nils]) (show l.length ≤ i by omega); simp [go_sem, Try.results8, he])

end Go.AM
namespace Go.AM
@[go_sem ↓ high] theorem TNode_cells (x y : TNode) : ([x.kind, x.val, x.left, x.right] = ([y.kind, y.val, y.left, y.right] : List Int)) ↔ x = y := by
  cases x; cases y; simp
@[go_sem ↓ high] theorem TClaim_cells (x y : TClaim) : ([x.inst, x.step, x.user] = ([y.inst, y.step, y.user] : List Int)) ↔ x = y := by
  cases x; cases y; simp
end Go.AM
namespace Go.AM
@[go_sem high] theorem TStep_unC (l : List TStep) : List.map ((fun x => List.map unown x) ∘ TStep.oc) l = l.map TStep.ro := by rw [← TStep_oc_unM, List.map_map]
@[go_sem high] theorem TProc_unC (l : List TProc) : List.map ((fun x => List.map unown x) ∘ TProc.oc) l = l.map TProc.ro := by rw [← TProc_oc_unM, List.map_map]
@[go_sem high] theorem TInst_unC (l : List TInst) : List.map ((fun x => List.map unown x) ∘ TInst.oc) l = l.map TInst.ro := by rw [← TInst_oc_unM, List.map_map]
end Go.AM
namespace Go.AM
open Go.Proofs

set_option maxHeartbeats 20000000 in
/-- laws.FnExactPlainOf -/
theorem dc_laws_FnExactPlainOf_bad (p : List TStep) (gp : p.length ≤ 9223372036854775807 ∧ ∀ e ∈ p, e.gok) (hl : procF p ≠ 0) : DC Try.prog 3 [.isl 6 (p.map TStep.ro)] (.bool true) [] := by
 refine DC.intro tiOk Try.func3 rfl rfl rfl rfl rfl rfl rfl rfl [] ?_
 refine rgA [0] ?_
 refine rgA [0,3] ?_
 refine rg [0,3] ?_
 intro k hk; simp -dsimp (maxSteps := 2000000) [go_sem, -decide_eq_true_eq, -decide_eq_false_iff_not]
 repeat' first | apply And.intro | refine hk _ ?_ | intro hg | (refine CallK.intro (dc_laws_szStepS _ _ (by first | assumption | (constructor <;> first | assumption | omega | grind [subz])) (by assumption)) ?_; simp -dsimp (maxSteps := 2000000) [go_sem, -decide_eq_true_eq, -decide_eq_false_iff_not]) | omega | exact True.intro
 all_goals clear hk k
 refine AW.seq ?_
 refine rgA [0,15] ?_
 refine AW.cond rfl ?_ ?_
 ·intro hc; try simp [subz_neg, subz_nn] at hc
  all_goals try (exfalso; omega; done)
  all_goals (
   refine rgA [2] ?_
   refine rt ?_
   simp [go_sem, Try.results3])
 ·intro hc; try simp [subz_neg, subz_nn] at hc
  all_goals try (exfalso; omega; done)
  all_goals (
   refine AW.skipN (fun _ h => h) ?_
   have bp : p.length ≤ 1048576 ∧ ∀ e ∈ p, e.sz ≤ 1048576 := ⟨by grind [subz], fun e he => by have := sum_mem (f := TStep.sz) he; grind [subz]⟩
   have bps : p.length + (p.map TStep.sz).sum ≤ 1048576 := by grind [subz]
   have hms := mkS_sz p
   refine rg [0,4] ?_
   intro k hk; simp -dsimp (maxSteps := 2000000) [go_sem, -decide_eq_true_eq, -decide_eq_false_iff_not]
   repeat' first | apply And.intro | refine hk _ ?_ | intro hg | ((first | refine CallK.intro (dc_laws_toStepS p bp) ?_ | refine CallK.intro (dc_spec_PlainOf_bad p gp hl) ?_); simp -dsimp (maxSteps := 2000000) [go_sem, -decide_eq_true_eq, -decide_eq_false_iff_not]) | omega | exact True.intro
   all_goals clear hk k
   refine rg [0,4,5] ?_
   intro k hk; simp -dsimp (maxSteps := 2000000) [go_sem, -decide_eq_true_eq, -decide_eq_false_iff_not]
   repeat' first | apply And.intro | refine hk _ ?_ | intro hg | (refine CallK.intro (dc_laws_toStepS p bp) ?_; simp -dsimp (maxSteps := 2000000) [go_sem, -decide_eq_true_eq, -decide_eq_false_iff_not]) | omega | exact True.intro
   all_goals clear hk k
   refine rg [0,4,5,6] ?_
   intro k hk; simp -dsimp (maxSteps := 2000000) [go_sem, -decide_eq_true_eq, -decide_eq_false_iff_not]
   repeat' first | apply And.intro | refine hk _ ?_ | intro hg | (refine CallK.intro (dc_impl_PlainOf_bad p gp hl) ?_; simp -dsimp (maxSteps := 2000000) [go_sem, -decide_eq_true_eq, -decide_eq_false_iff_not]) | omega | exact True.intro
   all_goals clear hk k
   refine AW.seq ?_
   refine rg [0,4,5,6,26] ?_
   intro k hk; simp -dsimp (maxSteps := 2000000) [go_sem, -decide_eq_true_eq, -decide_eq_false_iff_not]
   repeat' first | apply And.intro | refine hk _ ?_ | intro hg | (refine CallK.intro (dc_laws_eqProcResult (⟨procF p, []⟩ : TProcResult) (⟨procF p, []⟩ : TProcResult) (by simp [TProcResult.gok])) ?_; simp -dsimp (maxSteps := 2000000) [go_sem, -decide_eq_true_eq, -decide_eq_false_iff_not]) | omega | exact True.intro
   all_goals clear hk k
   refine AW.cond rfl ?_ ?_
   ·intro hc; try simp [subz_neg, subz_nn] at hc
    all_goals try (exfalso; omega; done)
    all_goals (
     refine rgA [2] ?_
     refine rt ?_
     simp [go_sem, Try.results3])
   ·intro hc; try simp [subz_neg, subz_nn] at hc
    all_goals try (exfalso; omega; done)
    all_goals (
     refine AW.skipN (fun _ h => h) ?_
     refine AW.seq ?_
     refine rg [0,4,5,6,31] ?_
     intro k hk; simp -dsimp (maxSteps := 2000000) [go_sem, -decide_eq_true_eq, -decide_eq_false_iff_not]
     repeat' first | apply And.intro | refine hk _ ?_ | intro hg | ((first | refine CallK.intro (dc_laws_toStepS p bp) ?_ | refine CallK.intro (dc_laws_eqStepS p p gp) ?_); simp -dsimp (maxSteps := 2000000) [go_sem, -decide_eq_true_eq, -decide_eq_false_iff_not]) | omega | exact True.intro
     all_goals clear hk k
     refine AW.cond rfl ?_ ?_
     ·intro hc; try simp [subz_neg, subz_nn] at hc
      all_goals try (exfalso; omega; done)
      all_goals (
       refine rgA [2] ?_
       refine rt ?_
       simp [go_sem, Try.results3])
     ·intro hc; try simp [subz_neg, subz_nn] at hc
      all_goals try (exfalso; omega; done)
      all_goals (
       refine AW.skipN (fun _ h => h) ?_
       refine rgA [0,4,5,6,7] ?_
       refine AW.reg tiOk (fun i => if i = 2 then [0] else []) [0,4,6,7] ?_
       intro k hk; simp -dsimp (maxSteps := 2000000) [go_sem, -decide_eq_true_eq, -decide_eq_false_iff_not]
       repeat' first | apply And.intro | refine hk _ ?_ | intro hg | (refine CallK.intro (dc_laws_markStepS_x p 1 (by constructor <;> omega)) ?_; simp -dsimp (maxSteps := 2000000) [go_sem, -decide_eq_true_eq, -decide_eq_false_iff_not]) | omega | exact True.intro
       all_goals clear hk k
       refine AW.seq ?_
       refine rg [0,4,6,42] ?_
       intro k hk; simp +contextual -dsimp (maxSteps := 2000000) [go_sem, -decide_eq_true_eq, -decide_eq_false_iff_not]
       repeat' first | apply And.intro | refine hk _ ?_ | (intro hg; try simp only [decide_eq_true_eq, decide_eq_false_iff_not] at hg) | (refine CallK.intro (dc_laws_eqProcResult (⟨procF p, []⟩ : TProcResult) (⟨procF p, []⟩ : TProcResult) (by simp [TProcResult.gok])) ?_; simp +contextual -dsimp (maxSteps := 2000000) [go_sem, -decide_eq_true_eq, -decide_eq_false_iff_not]) | omega | exact True.intro
       all_goals clear hk k
       all_goals (
        refine AW.cond rfl ?_ ?_
        ·intro hc; try simp [subz_neg, subz_nn] at hc
         all_goals try (exfalso; omega; done)
         all_goals (
          refine rgA [2] ?_
          refine rt ?_
          simp [go_sem, Try.results3])
        ·intro hc; try simp [subz_neg, subz_nn] at hc
         all_goals try (exfalso; omega; done)
         all_goals (
          refine AW.skipN (fun _ h => h) ?_
          refine rgA [0,4,6,8] ?_
          refine rg [0,4,6,8] ?_
          intro k hk; simp -dsimp (maxSteps := 2000000) [go_sem, -decide_eq_true_eq, -decide_eq_false_iff_not]
          repeat' first | apply And.intro | refine hk _ ?_ | intro hg | (refine CallK.intro (dc_laws_markProcResult_n (procF p) 1 (by omega)) ?_; simp -dsimp (maxSteps := 2000000) [go_sem, -decide_eq_true_eq, -decide_eq_false_iff_not]) | omega | exact True.intro
          all_goals clear hk k
          refine rgA [0,4,6,8,9] ?_
          refine rg [0,4,6,8,9] ?_
          intro k hk; simp -dsimp (maxSteps := 2000000) [go_sem, -decide_eq_true_eq, -decide_eq_false_iff_not]
          repeat' first | apply And.intro | refine hk _ ?_ | intro hg | (refine CallK.intro (dc_laws_heldProcResult_n (procF p) 1 (by omega)) ?_; simp -dsimp (maxSteps := 2000000) [go_sem, -decide_eq_true_eq, -decide_eq_false_iff_not]) | omega | exact True.intro
          all_goals clear hk k
          refine AW.seq ?_
          refine rgA [0,4,6,8,9,50] ?_
          refine AW.cond rfl ?_ ?_
          ·intro hc; try simp [subz_neg, subz_nn] at hc
           all_goals try (exfalso; omega; done)
           all_goals (
            refine rgA [2] ?_
            refine rt ?_
            simp [go_sem, Try.results3])
          ·intro hc; try simp [subz_neg, subz_nn] at hc
           all_goals try (exfalso; omega; done)
           all_goals (
            refine AW.skipN (fun _ h => h) ?_
            refine AW.seq ?_
            refine rgA [0,4,6,8,53] ?_
            refine AW.cond rfl ?_ ?_
            ·intro hc; try simp [subz_neg, subz_nn] at hc
             all_goals try (exfalso; omega; done)
             all_goals (
              refine rgA [2] ?_
              refine rt ?_
              simp [go_sem, Try.results3])
            ·intro hc; try simp [subz_neg, subz_nn] at hc
             all_goals try (exfalso; omega; done)
             all_goals (
              refine AW.skipN (fun _ h => h) ?_
              refine rg [4,6,8,10] ?_
              intro k hk; simp -dsimp (maxSteps := 2000000) [go_sem, -decide_eq_true_eq, -decide_eq_false_iff_not]
              repeat' first | apply And.intro | refine hk _ ?_ | intro hg | ((first | refine CallK.intro (dc_laws_toStepS p bp) ?_ | refine CallK.intro (dc_impl_PlainOf_bad p gp hl) ?_); simp -dsimp (maxSteps := 2000000) [go_sem, -decide_eq_true_eq, -decide_eq_false_iff_not]) | omega | exact True.intro
              all_goals clear hk k
              refine AW.seq ?_
              refine rg [6,8,60] ?_
              intro k hk; simp -dsimp (maxSteps := 2000000) [go_sem, -decide_eq_true_eq, -decide_eq_false_iff_not]
              repeat' first | apply And.intro | refine hk _ ?_ | intro hg | (refine CallK.intro (dc_laws_eqProcResult (⟨procF p, []⟩ : TProcResult) (⟨procF p, []⟩ : TProcResult) (by simp [TProcResult.gok])) ?_; simp -dsimp (maxSteps := 2000000) [go_sem, -decide_eq_true_eq, -decide_eq_false_iff_not]) | omega | exact True.intro
              all_goals clear hk k
              refine AW.cond rfl ?_ ?_
              ·intro hc; try simp [subz_neg, subz_nn] at hc
               all_goals try (exfalso; omega; done)
               all_goals (
                refine rgA [2] ?_
                refine rt ?_
                simp [go_sem, Try.results3])
              ·intro hc; try simp [subz_neg, subz_nn] at hc
               all_goals try (exfalso; omega; done)
               all_goals (
                refine AW.skipN (fun _ h => h) ?_
                refine rgA [6,8,9] ?_
                refine rg [8,9] ?_
                intro k hk; simp -dsimp (maxSteps := 2000000) [go_sem, -decide_eq_true_eq, -decide_eq_false_iff_not]
                repeat' first | apply And.intro | refine hk _ ?_ | intro hg | (refine CallK.intro (dc_laws_heldProcResult_n (procF p) 1 (by omega)) ?_; simp -dsimp (maxSteps := 2000000) [go_sem, -decide_eq_true_eq, -decide_eq_false_iff_not]) | omega | exact True.intro
                all_goals clear hk k
                refine AW.seq ?_
                refine rgA [8,9,65] ?_
                refine AW.cond rfl ?_ ?_
                ·intro hc; try simp [subz_neg, subz_nn] at hc
                 all_goals try (exfalso; omega; done)
                 all_goals (
                  refine rgA [2] ?_
                  refine rt ?_
                  simp [go_sem, Try.results3])
                ·intro hc; try simp [subz_neg, subz_nn] at hc
                 all_goals try (exfalso; omega; done)
                 all_goals (
                  refine AW.skipN (fun _ h => h) ?_
                  refine AW.seq ?_
                  refine rgA [68] ?_
                  refine AW.cond rfl ?_ ?_
                  ·intro hc; try simp [subz_neg, subz_nn] at hc
                   all_goals try (exfalso; omega; done)
                   all_goals (
                    refine rgA [2] ?_
                    refine rt ?_
                    simp [go_sem, Try.results3])
                  ·intro hc; try simp [subz_neg, subz_nn] at hc
                   all_goals try (exfalso; omega; done)
                   all_goals (
                    refine AW.skipN (fun _ h => h) ?_
                    refine rgA [2] ?_
                    refine rt ?_
                    simp [go_sem, Try.results3]))))))))))

set_option maxHeartbeats 20000000 in
/-- laws.FnExactPlainOf -/
theorem dc_laws_FnExactPlainOf_ok (p : List TStep) (gp : p.length ≤ 9223372036854775807 ∧ ∀ e ∈ p, e.gok) (hl : procF p = 0) : DC Try.prog 3 [.isl 6 (p.map TStep.ro)] (.bool true) [] := by
 refine DC.intro tiOk Try.func3 rfl rfl rfl rfl rfl rfl rfl rfl [] ?_
 refine rgA [0] ?_
 refine rgA [0,3] ?_
 refine rg [0,3] ?_
 intro k hk; simp -dsimp (maxSteps := 2000000) [go_sem, -decide_eq_true_eq, -decide_eq_false_iff_not]
 repeat' first | apply And.intro | refine hk _ ?_ | intro hg | (refine CallK.intro (dc_laws_szStepS _ _ (by first | assumption | (constructor <;> first | assumption | omega | grind [subz])) (by assumption)) ?_; simp -dsimp (maxSteps := 2000000) [go_sem, -decide_eq_true_eq, -decide_eq_false_iff_not]) | omega | exact True.intro
 all_goals clear hk k
 refine AW.seq ?_
 refine rgA [0,15] ?_
 refine AW.cond rfl ?_ ?_
 ·intro hc; try simp [subz_neg, subz_nn] at hc
  all_goals try (exfalso; omega; done)
  all_goals (
   refine rgA [2] ?_
   refine rt ?_
   simp [go_sem, Try.results3])
 ·intro hc; try simp [subz_neg, subz_nn] at hc
  all_goals try (exfalso; omega; done)
  all_goals (
   refine AW.skipN (fun _ h => h) ?_
   have bp : p.length ≤ 1048576 ∧ ∀ e ∈ p, e.sz ≤ 1048576 := ⟨by grind [subz], fun e he => by have := sum_mem (f := TStep.sz) he; grind [subz]⟩
   have bps : p.length + (p.map TStep.sz).sum ≤ 1048576 := by grind [subz]
   have hms := mkS_sz p
   have hP := procOk hl
   have hme := plS_mk hP
   have htk : List.take (plS p).length ((mSt 1 (plS p)).map TStep.ro) = (mSt 1 (plS p)).map TStep.ro := List.take_of_length_le (by simp [mSt_len])
   have htk2 : List.take (plS p).length ((mSt 1 (plS p)).map TStep.oc) = (mSt 1 (plS p)).map TStep.oc := List.take_of_length_le (by simp [mSt_len])
   have hoc : owc 6 ((plS p).map TStep.oc) = .osl 6 ((plS p).map TStep.oc) := owc_ne (by simpa using plS_ne hP)
   refine rg [0,4] ?_
   intro k hk; simp -dsimp (maxSteps := 2000000) [go_sem, -decide_eq_true_eq, -decide_eq_false_iff_not]
   repeat' first | apply And.intro | refine hk _ ?_ | intro hg | ((first | refine CallK.intro (dc_laws_toStepS p bp) ?_ | refine CallK.intro (dc_spec_PlainOf_ok p gp hl) ?_); simp -dsimp (maxSteps := 2000000) [go_sem, -decide_eq_true_eq, -decide_eq_false_iff_not]) | omega | exact True.intro
   all_goals clear hk k
   refine rg [0,4,5] ?_
   intro k hk; simp -dsimp (maxSteps := 2000000) [go_sem, -decide_eq_true_eq, -decide_eq_false_iff_not]
   repeat' first | apply And.intro | refine hk _ ?_ | intro hg | (refine CallK.intro (dc_laws_toStepS p bp) ?_; simp -dsimp (maxSteps := 2000000) [go_sem, -decide_eq_true_eq, -decide_eq_false_iff_not]) | omega | exact True.intro
   all_goals clear hk k
   refine rg [0,4,5,6] ?_
   intro k hk; simp -dsimp (maxSteps := 2000000) [go_sem, -decide_eq_true_eq, -decide_eq_false_iff_not]
   repeat' first | apply And.intro | refine hk _ ?_ | intro hg | (refine CallK.intro (dc_impl_PlainOf_ok p gp hl) ?_; simp -dsimp (maxSteps := 2000000) [go_sem, -decide_eq_true_eq, -decide_eq_false_iff_not]) | omega | exact True.intro
   all_goals clear hk k
   refine AW.seq ?_
   refine rg [0,4,5,6,26] ?_
   intro k hk; simp -dsimp (maxSteps := 2000000) [go_sem, -decide_eq_true_eq, -decide_eq_false_iff_not]
   repeat' first | apply And.intro | refine hk _ ?_ | intro hg | (refine CallK.intro (dc_laws_eqProcResult (⟨0, plS p⟩ : TProcResult) (⟨0, plS p⟩ : TProcResult) (by unfold TProcResult.gok; exact plS_gok hP)) ?_; simp -dsimp (maxSteps := 2000000) [go_sem, -decide_eq_true_eq, -decide_eq_false_iff_not]) | omega | exact True.intro
   all_goals clear hk k
   refine AW.cond rfl ?_ ?_
   ·intro hc; try simp [subz_neg, subz_nn] at hc
    all_goals try (exfalso; omega; done)
    all_goals (
     refine rgA [2] ?_
     refine rt ?_
     simp [go_sem, Try.results3])
   ·intro hc; try simp [subz_neg, subz_nn] at hc
    all_goals try (exfalso; omega; done)
    all_goals (
     refine AW.skipN (fun _ h => h) ?_
     refine AW.seq ?_
     refine rg [0,4,5,6,31] ?_
     intro k hk; simp -dsimp (maxSteps := 2000000) [go_sem, -decide_eq_true_eq, -decide_eq_false_iff_not]
     repeat' first | apply And.intro | refine hk _ ?_ | intro hg | ((first | refine CallK.intro (dc_laws_toStepS p bp) ?_ | refine CallK.intro (dc_laws_eqStepS p p gp) ?_); simp -dsimp (maxSteps := 2000000) [go_sem, -decide_eq_true_eq, -decide_eq_false_iff_not]) | omega | exact True.intro
     all_goals clear hk k
     refine AW.cond rfl ?_ ?_
     ·intro hc; try simp [subz_neg, subz_nn] at hc
      all_goals try (exfalso; omega; done)
      all_goals (
       refine rgA [2] ?_
       refine rt ?_
       simp [go_sem, Try.results3])
     ·intro hc; try simp [subz_neg, subz_nn] at hc
      all_goals try (exfalso; omega; done)
      all_goals (
       refine AW.skipN (fun _ h => h) ?_
       refine rgA [0,4,5,6,7] ?_
       refine AW.reg tiOk (fun i => if i = 2 then [0] else []) [0,4,6,7] ?_
       intro k hk; simp -dsimp (maxSteps := 2000000) [go_sem, -decide_eq_true_eq, -decide_eq_false_iff_not]
       repeat' first | apply And.intro | refine hk _ ?_ | intro hg | (refine CallK.intro (dc_laws_markStepS_x p 1 (by constructor <;> omega)) ?_; simp -dsimp (maxSteps := 2000000) [go_sem, -decide_eq_true_eq, -decide_eq_false_iff_not]) | omega | exact True.intro
       all_goals clear hk k
       refine AW.seq ?_
       refine rg [0,4,6,42] ?_
       intro k hk; simp +contextual -dsimp (maxSteps := 2000000) [go_sem, -decide_eq_true_eq, -decide_eq_false_iff_not]
       repeat' first | apply And.intro | refine hk _ ?_ | (intro hg; try simp only [decide_eq_true_eq, decide_eq_false_iff_not] at hg) | (refine CallK.intro (dc_laws_eqProcResult (⟨0, plS p⟩ : TProcResult) (⟨0, plS p⟩ : TProcResult) (by unfold TProcResult.gok; exact plS_gok hP)) ?_; simp +contextual -dsimp (maxSteps := 2000000) [go_sem, -decide_eq_true_eq, -decide_eq_false_iff_not]) | omega | exact True.intro
       all_goals clear hk k
       all_goals (
        refine AW.cond rfl ?_ ?_
        ·intro hc; try simp [subz_neg, subz_nn] at hc
         all_goals try (exfalso; omega; done)
         all_goals (
          refine rgA [2] ?_
          refine rt ?_
          simp [go_sem, Try.results3])
        ·intro hc; try simp [subz_neg, subz_nn] at hc
         all_goals try (exfalso; omega; done)
         all_goals (
          refine AW.skipN (fun _ h => h) ?_
          refine rgA [0,4,6,8] ?_
          refine AW.reg tiOk (fun i => if i = 2 then [0] else []) [0,4,6,8] ?_
          intro k hk; simp -dsimp (maxSteps := 2000000) [go_sem, -decide_eq_true_eq, -decide_eq_false_iff_not]
          repeat' first | apply And.intro | refine hk _ ?_ | intro hg | (refine CallK.intro (dc_laws_markProcResult_p (plS p) 0 1 (by constructor <;> omega)) ?_; simp -dsimp (maxSteps := 2000000) [go_sem, -decide_eq_true_eq, -decide_eq_false_iff_not]) | omega | exact True.intro
          all_goals clear hk k
          refine rgA [0,4,6,8,9] ?_
          refine rg [0,4,6,8,9] ?_
          intro k hk; simp -dsimp (maxSteps := 2000000) [go_sem, -decide_eq_true_eq, -decide_eq_false_iff_not, htk, htk2, mSt_len]
          repeat' first | apply And.intro | refine hk _ ?_ | intro hg | (refine CallK.intro (dc_laws_heldProcResult_p (plS p) 0 1 (by constructor <;> omega)) ?_; simp -dsimp (maxSteps := 2000000) [go_sem, -decide_eq_true_eq, -decide_eq_false_iff_not, htk, htk2, mSt_len]) | omega | exact True.intro
          all_goals clear hk k
          refine AW.seq ?_
          refine rgA [0,4,6,8,9,50] ?_
          refine AW.cond rfl ?_ ?_
          ·intro hc; try simp [subz_neg, subz_nn] at hc
           all_goals try (exfalso; omega; done)
           all_goals (
            refine rgA [2] ?_
            refine rt ?_
            simp [go_sem, Try.results3])
          ·intro hc; try simp [subz_neg, subz_nn] at hc
           all_goals try (exfalso; omega; done)
           all_goals (
            refine AW.skipN (fun _ h => h) ?_
            refine AW.seq ?_
            refine rgA [0,4,6,8,53] ?_
            refine AW.cond rfl ?_ ?_
            ·intro hc; try simp [subz_neg, subz_nn] at hc
             all_goals try (exfalso; omega; done)
             all_goals (
              refine rgA [2] ?_
              refine rt ?_
              simp [go_sem, Try.results3])
            ·intro hc; try simp [subz_neg, subz_nn] at hc
             all_goals try (exfalso; omega; done)
             all_goals (
              refine AW.skipN (fun _ h => h) ?_
              refine rg [4,6,8,10] ?_
              intro k hk; simp -dsimp (maxSteps := 2000000) [go_sem, -decide_eq_true_eq, -decide_eq_false_iff_not]
              repeat' first | apply And.intro | refine hk _ ?_ | intro hg | ((first | refine CallK.intro (dc_laws_toStepS p bp) ?_ | refine CallK.intro (dc_impl_PlainOf_ok p gp hl) ?_); simp -dsimp (maxSteps := 2000000) [go_sem, -decide_eq_true_eq, -decide_eq_false_iff_not]) | omega | exact True.intro
              all_goals clear hk k
              refine AW.seq ?_
              refine rg [6,8,60] ?_
              intro k hk; simp -dsimp (maxSteps := 2000000) [go_sem, -decide_eq_true_eq, -decide_eq_false_iff_not]
              repeat' first | apply And.intro | refine hk _ ?_ | intro hg | (refine CallK.intro (dc_laws_eqProcResult (⟨0, plS p⟩ : TProcResult) (⟨0, plS p⟩ : TProcResult) (by unfold TProcResult.gok; exact plS_gok hP)) ?_; simp -dsimp (maxSteps := 2000000) [go_sem, -decide_eq_true_eq, -decide_eq_false_iff_not]) | omega | exact True.intro
              all_goals clear hk k
              refine AW.cond rfl ?_ ?_
              ·intro hc; try simp [subz_neg, subz_nn] at hc
               all_goals try (exfalso; omega; done)
               all_goals (
                refine rgA [2] ?_
                refine rt ?_
                simp [go_sem, Try.results3])
              ·intro hc; try simp [subz_neg, subz_nn] at hc
               all_goals try (exfalso; omega; done)
               all_goals (
                refine AW.skipN (fun _ h => h) ?_
                refine rgA [6,8,9] ?_
                refine rg [8,9] ?_
                intro k hk; simp -dsimp (maxSteps := 2000000) [go_sem, -decide_eq_true_eq, -decide_eq_false_iff_not, htk, htk2, mSt_len]
                repeat' first | apply And.intro | refine hk _ ?_ | intro hg | (refine CallK.intro (dc_laws_heldProcResult_p (plS p) 0 1 (by constructor <;> omega)) ?_; simp -dsimp (maxSteps := 2000000) [go_sem, -decide_eq_true_eq, -decide_eq_false_iff_not, htk, htk2, mSt_len]) | omega | exact True.intro
                all_goals clear hk k
                refine AW.seq ?_
                refine rgA [8,9,65] ?_
                refine AW.cond rfl ?_ ?_
                ·intro hc; try simp [subz_neg, subz_nn] at hc
                 all_goals try (exfalso; omega; done)
                 all_goals (
                  refine rgA [2] ?_
                  refine rt ?_
                  simp [go_sem, Try.results3])
                ·intro hc; try simp [subz_neg, subz_nn] at hc
                 all_goals try (exfalso; omega; done)
                 all_goals (
                  refine AW.skipN (fun _ h => h) ?_
                  refine AW.seq ?_
                  refine rgA [68] ?_
                  refine AW.cond rfl ?_ ?_
                  ·intro hc; try simp [subz_neg, subz_nn] at hc
                   all_goals try (exfalso; omega; done)
                   all_goals (
                    refine rgA [2] ?_
                    refine rt ?_
                    simp [go_sem, Try.results3])
                  ·intro hc; try simp [subz_neg, subz_nn] at hc
                   all_goals try (exfalso; omega; done)
                   all_goals (
                    refine AW.skipN (fun _ h => h) ?_
                    refine rgA [2] ?_
                    refine rt ?_
                    simp [go_sem, Try.results3]))))))))))
theorem dc_laws_FnExactPlainOf (p : List TStep) (gp : p.length ≤ 9223372036854775807 ∧ ∀ e ∈ p, e.gok) : DC Try.prog 3 [.isl 6 (p.map TStep.ro)] (.bool true) [] := by
  by_cases hl : procF p = 0
  · exact dc_laws_FnExactPlainOf_ok p gp hl
  · exact dc_laws_FnExactPlainOf_bad p gp hl

end Go.AM
