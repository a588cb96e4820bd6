/- Joined texts: Pt6 Pt7 Pc9 X7 G1 G2 G3 F1 F2 F5 F7 G4 G5 G6 H1 H2 H3 K1. -/
import Derived.Test.YtiadiaglblfjpaaGreatB1
import Derived.Test.YtiadiaglblfjpaaGreatB2
import Derived.Test.YtiadiaglblfjpaaGreatB3
set_option linter.unusedVariables false
set_option linter.unusedSimpArgs false
namespace Go.AM
def instM (k : Int) (x : TInst) : TInst := ⟨k, ⟨k + 1, k + 2, mkL (fun n : Int => n) x.chart.vars.length (k + 3), mkL (fun n : Int => n) x.chart.acts.length (k + 3 + (x.chart.vars.length : Int)), mkL (fun n : Int => n) x.chart.dues.length (k + 3 + (x.chart.vars.length : Int) + (x.chart.acts.length : Int))⟩⟩
def TInst.mn (x : TInst) : Nat := 3 + x.chart.vars.length + x.chart.acts.length + x.chart.dues.length
def mkI (l : List TInst) : Nat := (l.map TInst.mn).sum
theorem mkI_take {l : List TInst} {i : Nat} {x : TInst} (h : l[i]? = some x) : mkI (l.take (i + 1)) = mkI (l.take i) + x.mn := by
  unfold mkI; rw [List.map_take, List.map_take]; exact sum_take h
theorem mkI_le (l : List TInst) (i : Nat) : mkI (l.take i) ≤ mkI l := by
  unfold mkI; rw [List.map_take]; exact sum_le
theorem mkI_len (l : List TInst) : l.length ≤ mkI l := by
  unfold mkI
  induction l with
  | nil => simp
  | cons x l ih => simp only [List.map_cons, List.sum_cons, List.length_cons, TInst.mn] at *; omega
theorem mkI_sz (l : List TInst) : mkI l ≤ 3 * (l.length + (l.map TInst.sz).sum) := by
  unfold mkI
  induction l with
  | nil => simp
  | cons x l ih => simp only [List.map_cons, List.sum_cons, List.length_cons, TInst.mn, TInst.sz, TChart.sz] at *; omega
def mIn (k : Int) (l : List TInst) : List TInst := l.mapIdx fun j x => instM (k + (mkI (l.take j) : Int)) x
theorem mIn_len {k : Int} {l : List TInst} : (mIn k l).length = l.length := by simp [mIn]
theorem mIn_at {k : Int} {l : List TInst} {i : Nat} {x : TInst} (h : l[i]? = some x) : (mIn k l)[i]? = some (instM (k + (mkI (l.take i) : Int)) x) := by simp [mIn, h]
theorem icids (l : List TInst) : (l.map TInst.oc).flatMap idsL = [] := TInst_oc_idsL l
theorem icases (l : List Int) : (owc 1 (l.map I1) = .isl 1 [] ∧ (∀ K, owc 1 ((mkL (fun n : Int => n) l.length K).map I1) = .isl 1 []) ∧ l.length = 0) ∨
    (owc 1 (l.map I1) = .osl 1 (l.map I1) ∧ (∀ K, owc 1 ((mkL (fun n : Int => n) l.length K).map I1) = .osl 1 ((mkL (fun n : Int => n) l.length K).map I1)) ∧ 0 < l.length) := by
  cases l with
  | nil => exact Or.inl ⟨rfl, fun _ => rfl, rfl⟩
  | cons x r =>
    refine Or.inr ⟨rfl, fun K => ?_, by simp⟩
    have : (mkL (fun n : Int => n) (x :: r).length K).map I1 ≠ [] := by intro h; have := congrArg List.length h; simp [mkL] at this
    rcases owc_cases 1 ((mkL (fun n : Int => n) (x :: r).length K).map I1) with ⟨_, h⟩ | ⟨h, _⟩
    · exact absurd h this
    · exact h
/-! claims -/
def claimM (k : Int) : TClaim := ⟨k, k + 1, k + 2⟩
def mCl (n : Nat) (k : Int) : List TClaim := (List.range n).map fun (i : Nat) => claimM (k + 3 * (i : Int))
theorem mCl_len {n : Nat} {k : Int} : (mCl n k).length = n := by simp [mCl]
theorem mCl_at {n : Nat} {k : Int} {i : Nat} (h : i < n) : (mCl n k)[i]? = some (claimM (k + 3 * (i : Int))) := by simp [mCl, h]
def fC (k : Int) (x : Int) : List AV := [.int .i64 (k + 3 * x), .int .i64 (k + 3 * x + 1), .int .i64 (k + 3 * x + 2)]
theorem fC_eq (k : Int) (i : Nat) : fC k (0 + i) = [.int .i64 (k + 3 * (i : Int)), .int .i64 (k + 3 * (i : Int) + 1), .int .i64 (k + 3 * (i : Int) + 2)] := by simp [fC]
theorem mkC_end {l : List TClaim} {k : Int} : mkP (fC k) (l.map TClaim.ro) 0 l.length = (mCl l.length k).map TClaim.ro := by
  unfold mkP mCl
  rw [List.drop_eq_nil_of_le (by simp), List.append_nil, List.map_map]
  apply List.map_congr_left
  intro i _
  simp [fC, claimM, TClaim.ro]
@[go_sem] theorem take_mCl (g : TClaim → List AV) (n : Nat) (k : Int) : List.take n ((mCl n k).map g) = (mCl n k).map g := List.take_of_length_le (by simp [mCl])
@[go_sem high] theorem TClaim_compR : (fun x => List.map unown x) ∘ TClaim.ro = TClaim.ro := by funext x; simp [TClaim_ro_un]
end Go.AM
namespace Go.AM
theorem ahead_trans {a b c : TClaim} (h : aheadC a b = true) (h2 : aheadC b c = true) : aheadC a c = true := by
  unfold aheadC at *
  simp only [Bool.or_eq_true, Bool.and_eq_true, decide_eq_true_eq] at *
  omega
def SortC (l : List TClaim) : Prop := ∀ (i j : Nat) (x y : TClaim), i < j → l[i]? = some x → l[j]? = some y → aheadC x y = true
theorem desk_ok {d : TDesk} (h : deskF d = 0) : engF d.engine = 0 ∧ d.claims.length ≤ 60 ∧ SortC d.claims ∧ ∀ c ∈ d.claims, 1 ≤ c.user := by
  unfold deskF at h
  split at h
  · contradiction
  rename_i h1
  split at h
  · cases h
  rename_i h2
  have h3 := sc_all h
  have ha : ∀ i x z, 0 < i → d.claims[i]? = some x → d.claims[i - 1]? = some z → aheadC z x = true := by
    intro i x z hi hx hz
    have h4 := h3 i (at_lt hx)
    rw [claimF_at hx hz] at h4
    split at h4
    · cases h4
    · split at h4
      · cases h4
      · split at h4
        · cases h4
        · rename_i h5
          cases h6 : aheadC z x with
          | true => rfl
          | false => exact absurd ⟨hi, h6⟩ h5
  refine ⟨by simpa using h1, by omega, ?_, ?_⟩
  · intro i j x y hij hx hy
    obtain ⟨m, rfl⟩ : ∃ m, j = i + 1 + m := ⟨j - i - 1, by omega⟩
    clear hij
    induction m generalizing y with
    | zero => exact ha (i + 1) y x (by omega) hy (by simpa using hx)
    | succ m ih =>
      obtain ⟨z, hz⟩ := at_some (l := d.claims) (i := i + 1 + m) (by have := at_lt hy; omega)
      exact ahead_trans (ih z hz) (ha (i + 1 + (m + 1)) y z (by omega) hy (by rw [show i + 1 + (m + 1) - 1 = i + 1 + m by omega]; exact hz))
  · intro c hc
    obtain ⟨i, hi⟩ := List.mem_iff_getElem?.1 hc
    have h4 := h3 i (at_lt hi)
    obtain ⟨z, hz⟩ := at_some (l := d.claims) (i := i - 1) (by have := at_lt hi; omega)
    rw [claimF_at hi hz] at h4
    split at h4
    · cases h4
    · rename_i h5
      have h6 : inR c.user 1 9 = true := by
        cases h7 : inR c.user 1 9 with
        | true => rfl
        | false => exact absurd (Or.inr h7) h5
      exact (inR_iff.1 h6).1
/-! offers -/
theorem ncl (l : List TClaim) : (nlc 3 (l.map TClaim.ro) = .nils ∧ l = []) ∨ (nlc 3 (l.map TClaim.ro) = .osl 3 (l.map TClaim.ro) ∧ True) := by
  cases l with
  | nil => exact Or.inl ⟨rfl, rfl⟩
  | cons x r => exact Or.inr ⟨rfl, True.intro⟩
end Go.AM
namespace Go.AM
section
variable {α : Type} (keep : α → Bool)
/-- where the next that stays goes -/
def kpN (l : List α) (j : Nat) : Nat := ((l.take j).filter keep).length
/-- the row, as far as place j -/
def dlA (l : List α) : Nat → List α
  | 0 => l
  | j + 1 => match l[j]? with
    | some x => if keep x then (dlA l j).set (kpN keep l j) x else dlA l j
    | none => dlA l j
variable {keep}
theorem dlA_len (l : List α) : ∀ j, (dlA keep l j).length = l.length
  | 0 => rfl
  | j + 1 => by
    rw [dlA]; split
    · split
      · rw [List.length_set]; exact dlA_len l j
      · exact dlA_len l j
    · exact dlA_len l j
theorem kpN_le (l : List α) (j : Nat) : kpN keep l j ≤ j := by
  unfold kpN
  have h1 := List.length_filter_le keep (l.take j)
  rw [List.length_take] at h1; omega
theorem take_y {l : List α} {j : Nat} {x : α} (h : l[j]? = some x) : l.take (j + 1) = l.take j ++ [x] := by rw [List.take_add_one, h]; rfl
theorem kpN_y {l : List α} {j : Nat} {x : α} (h : l[j]? = some x) (hk : keep x = true) : kpN keep l (j + 1) = kpN keep l j + 1 := by
  unfold kpN; rw [take_y h, List.filter_append]; simp [hk]
theorem kpN_n {l : List α} {j : Nat} {x : α} (h : l[j]? = some x) (hk : keep x = false) : kpN keep l (j + 1) = kpN keep l j := by
  unfold kpN; rw [take_y h, List.filter_append]; simp [hk]
theorem dlA_y {l : List α} {j : Nat} {x : α} (h : l[j]? = some x) (hk : keep x = true) : dlA keep l (j + 1) = (dlA keep l j).set (kpN keep l j) x := by rw [dlA, h]; simp [hk]
theorem dlA_n {l : List α} {j : Nat} {x : α} (h : l[j]? = some x) (hk : keep x = false) : dlA keep l (j + 1) = dlA keep l j := by rw [dlA, h]; simp [hk]
theorem dlA_at {l : List α} : ∀ (j k : Nat), j ≤ k → (dlA keep l j)[k]? = l[k]?
  | 0, k, _ => rfl
  | j + 1, k, hk => by
    rw [dlA]; split
    · split
      · have h1 := kpN_le (keep := keep) l j
        rw [List.getElem?_set_ne (by omega)]
        exact dlA_at j k (by omega)
      · exact dlA_at j k (by omega)
    · exact dlA_at j k (by omega)
theorem dlA_take {l : List α} : ∀ (j : Nat), j ≤ l.length → (dlA keep l j).take (kpN keep l j) = (l.take j).filter keep
  | 0, _ => by simp [kpN]
  | j + 1, hj => by
    obtain ⟨x, hx⟩ := at_some (l := l) (i := j) (by omega)
    have ih := dlA_take (l := l) j (by omega)
    cases hk : keep x with
    | false => rw [dlA_n hx hk, kpN_n hx hk, ih, take_y hx, List.filter_append]; simp [hk]
    | true =>
      rw [dlA_y hx hk, kpN_y hx hk, take_y hx, List.filter_append]
      have hle := kpN_le (keep := keep) l j
      have e : ((dlA keep l j).set (kpN keep l j) x)[kpN keep l j]? = some x := by rw [List.getElem?_set, if_pos rfl, if_pos (by rw [dlA_len]; omega)]
      rw [List.take_add_one, e]
      rw [show ((dlA keep l j).set (kpN keep l j) x).take (kpN keep l j) = (dlA keep l j).take (kpN keep l j) from List.take_set_of_le (Nat.le_refl _), ih]
      simp [hk]
/-- nothing has been deleted yet -/
theorem dlA_id {l : List α} : ∀ (j : Nat), (∀ k x, k < j → l[k]? = some x → keep x = true) → dlA keep l j = l ∧ (j ≤ l.length → kpN keep l j = j)
  | 0, _ => ⟨rfl, fun _ => rfl⟩
  | j + 1, h => by
    have ih := dlA_id j (fun k x hk hx => h k x (by omega) hx)
    cases hx : l[j]? with
    | none =>
      refine ⟨by rw [dlA, hx]; exact ih.1, fun hj => ?_⟩
      rw [List.getElem?_eq_none_iff] at hx; omega
    | some x =>
      have hk := h j x (by omega) hx
      have hjl := at_lt hx
      have h2 := ih.2 (by omega)
      refine ⟨?_, fun _ => by rw [kpN_y hx hk, h2]⟩
      rw [dlA_y hx hk, ih.1, h2]
      apply List.ext_getElem?
      intro m
      rw [List.getElem?_set]
      split
      · rename_i e; subst e; first | exact hx.symm | (rw [if_pos hjl]; exact hx.symm)
      · rfl
theorem filter_all {l : List α} (h : ∀ (k : Nat) x, l[k]? = some x → keep x = true) : l.filter keep = l := by
  rw [List.filter_eq_self]
  intro x hx
  obtain ⟨k, hk⟩ := List.mem_iff_getElem?.1 hx
  exact h k x hk
/-- the first that is hit; -1: none -/
def idxG (p : α → Bool) (l : List α) : Int := match l.findIdx? p with | some i => (i : Int) | none => -1
theorem idxG_hit {p : α → Bool} {l : List α} {i : Nat} {x : α} (hx : l[i]? = some x) (h : p x = true) (hall : ∀ k y, k < i → l[k]? = some y → p y = false) : idxG p l = i := by
  have hi := at_lt hx
  have : l.findIdx? p = some i := by
    rw [List.findIdx?_eq_some_iff_getElem]
    refine ⟨hi, ?_, fun j hj => ?_⟩
    · rw [List.getElem?_eq_getElem hi] at hx; rw [Option.some.inj hx]; exact h
    · have := hall j l[j] hj (List.getElem?_eq_getElem (by omega))
      simp [this]
  unfold idxG; rw [this]
theorem idxG_none {p : α → Bool} {l : List α} (hall : ∀ (k : Nat) y, l[k]? = some y → p y = false) : idxG p l = -1 := by
  have : l.findIdx? p = none := by
    rw [List.findIdx?_eq_none_iff]
    intro x hx
    obtain ⟨k, hk⟩ := List.mem_iff_getElem?.1 hx
    exact hall k x hk
  unfold idxG; rw [this]
theorem idxG_cases (p : α → Bool) (l : List α) : (idxG p l = -1 ∧ ∀ (k : Nat) y, l[k]? = some y → p y = false) ∨ ∃ i : Nat, idxG p l = i ∧ i < l.length ∧ (∀ (k : Nat) y, k < i → l[k]? = some y → p y = false) ∧ ∃ z, l[i]? = some z ∧ p z = true := by
  unfold idxG
  cases h : l.findIdx? p with
  | none =>
    rw [List.findIdx?_eq_none_iff] at h
    exact Or.inl ⟨rfl, fun k y hk => h y (List.mem_of_getElem? hk)⟩
  | some i =>
    rw [List.findIdx?_eq_some_iff_getElem] at h
    obtain ⟨h1, h2, h3⟩ := h
    refine Or.inr ⟨i, rfl, h1, fun k y hk hy => ?_, l[i], List.getElem?_eq_getElem h1, h2⟩
    have := h3 k hk
    rw [List.getElem?_eq_getElem (by omega)] at hy
    rw [← Option.some.inj hy]; simpa using this
end
theorem idxG_nil {α : Type} (p : α → Bool) : idxG p ([] : List α) = -1 := rfl
def clF (u : Int) (l : List TClaim) : List TClaim := l.filter fun c => decide (c.user = u)
theorem clF_yes {u : Int} {l : List TClaim} {i : Nat} {x : TClaim} (hx : l[i]? = some x) (h : x.user = u) : clF u (l.take (i + 1)) = clF u (l.take i) ++ [x] := by
  unfold clF; rw [take_y hx, List.filter_append]; simp [h]
theorem clF_no {u : Int} {l : List TClaim} {i : Nat} {x : TClaim} (hx : l[i]? = some x) (h : ¬ x.user = u) : clF u (l.take (i + 1)) = clF u (l.take i) := by
  unfold clF; rw [take_y hx, List.filter_append]; simp [h]
theorem clF_one {u : Int} {l : List TClaim} {i : Nat} {x : TClaim} (h : x.user = u) (h0 : clF u (l.take i) = []) (hx : l[i]? = some x) : clF u (l.take (i + 1)) = [x] := by
  rw [clF_yes hx h, h0]; rfl
end Go.AM
set_option maxHeartbeats 600000
set_option maxRecDepth 100000
namespace Go.AM
open Go.Proofs

/-- impl.ClaimsOf$1 -/
theorem dc_impl_ClaimsOf_1 (c : TClaim) (u : Int) : DC Tryz.prog 25 [.agg c.ro, .ip [.int .i64 u]] (.bool (!decide (c.user = u))) [] := by
 refine DC.intro tiOk Tryz.func25 rfl rfl rfl rfl rfl rfl rfl rfl [] ?_
 refine rgA [1,2] ?_
 refine rgA [3] ?_
 refine rt ?_
 simp [go_sem, Tryz.results25]

/-- slices.IndexFunc[[]impl.Claim,impl.Claim] -/
theorem dc_IndexC (l : List TClaim) (u : Int) (hl : l.length ≤ 1048576) : DC Tryz.prog 45 [.isl 3 (l.map TClaim.ro), .fn 25 [.ip [.int .i64 u]]] (.int .i64 (idxG (fun c : TClaim => !decide (c.user = u)) l)) [] := by
 refine DC.intro tiOk Tryz.func45 rfl rfl rfl rfl rfl rfl rfl rfl [] ?_
 refine rgA [0,1] ?_
 refine AW.seq ?_
 refine rgA [0,1,7,8] ?_
 refine AW.block ?_
 refine AW.loopI (fun i : Nat => ⟨19, [(0, .isl 3 (l.map TClaim.ro)), (1, .fn 25 [.ip [.int .i64 u]]), (7, .int .i64 l.length), (8, .int .i64 (i : Nat))], []⟩) (fun i => i ≤ l.length ∧ ∀ (k : Nat) y, k < i → l[k]? = some y → (fun c : TClaim => !decide (c.user = u)) y = false) (fun i => l.length - i) (0) (⟨Nat.zero_le _, fun k y h => by omega⟩) (Less.of rfl (by simp [go_sem]) (by simp [go_sem])) ?_
 rintro i ⟨hi, hall⟩
 refine rgA [0,1,7,8,9] ?_
 refine AW.seq ?_
 refine AW.cond rfl ?_ ?_
 ·intro hc; try simp at hc
  all_goals (
   have hlt : i < l.length := by first | assumption | omega
   obtain ⟨x, hx⟩ := at_some hlt
   have hx3 : ∀ h, l[i]'h = x := fun h => by have h9 := hx; rw [List.getElem?_eq_getElem h] at h9; exact Option.some.inj h9
   refine AW.skipN (fun _ h => h) ?_
   refine AW.seq ?_
   refine AW.block ?_
   refine rg [0,1,5,7,8] ?_
   intro k hk; simp -dsimp [go_sem, -decide_eq_true_eq, -decide_eq_false_iff_not, hx, hx3]
   repeat' first | apply And.intro | refine hk _ ?_ | intro hg | omega | exact True.intro
   all_goals clear hk k
   refine rg [0,1,5,7,8,16] ?_
   intro k hk; simp -dsimp (maxSteps := 2000000) [go_sem, -decide_eq_true_eq, -decide_eq_false_iff_not, hx, hx3]
   repeat' first | apply And.intro | refine hk _ ?_ | intro hg | (refine CallK.intro (dc_impl_ClaimsOf_1 x u) ?_; simp -dsimp (maxSteps := 2000000) [go_sem, -decide_eq_true_eq, -decide_eq_false_iff_not, hx, hx3]) | omega | exact True.intro
   all_goals clear hk k
   refine AW.cond rfl ?_ ?_
   ·intro hc; try simp at hc
    all_goals (
     refine rg [4] ?_
     intro k hk; simp -dsimp [go_sem, -decide_eq_true_eq, -decide_eq_false_iff_not, hx, hx3]
     repeat' first | apply And.intro | refine hk _ ?_ | intro hg | omega | exact True.intro
     all_goals clear hk k
     refine rt ?_
     first | (rw [idxG_hit hx (show (fun c : TClaim => !decide (c.user = u)) x = true by simp at hc ⊢; exact hc) (fun k y hk hy => hall k y hk hy)]; simp [go_sem, Tryz.results45]; done) | (rw [idxG_none (fun k y hy => hall k y (by have := at_lt hy; omega) hy)]; simp [go_sem, Tryz.results45]))
   ·intro hc; try simp at hc
    all_goals (
     refine AW.skipN (fun _ h => h) ?_
     refine rgK ?_
     intro k hk; simp -dsimp [go_sem, -decide_eq_true_eq, -decide_eq_false_iff_not, hx, hx3]
     repeat' first | apply And.intro | refine hk _ ?_ | intro hg | omega | exact True.intro
     all_goals clear hk k
     show ∃ _, _
     have hw := wrapi hlt (by omega)
     have hxf : (fun c : TClaim => !decide (c.user = u)) x = false := by simp at hc ⊢; exact hc
     refine ⟨i + 1, ⟨by omega, fun k y hk hy => ?_⟩, by omega, Less.of rfl (by simp [go_sem, hw]) (by simp [go_sem])⟩
     rcases Nat.lt_or_ge k i with h | h
     ·exact hall k y h hy
     ·(obtain rfl : k = i := (by omega)); (rw [hx] at hy); (cases hy); exact hxf))
 ·intro hc; try simp at hc
  all_goals (
   refine AW.exitN (fun _ h => h) ?_
   refine rgA [4] ?_
   refine rt ?_
   first | (rw [idxG_hit hx (show (fun c : TClaim => !decide (c.user = u)) x = true by simp at hc ⊢; exact hc) (fun k y hk hy => hall k y hk hy)]; simp [go_sem, Tryz.results45]; done) | (rw [idxG_none (fun k y hy => hall k y (by have := at_lt hy; omega) hy)]; simp [go_sem, Tryz.results45]))

set_option maxHeartbeats 4000000 in
/-- slices.DeleteFunc[[]impl.Claim,impl.Claim] -/
theorem dc_slices_DeleteFunc_impl_Claim_impl_Claim_y (l : List TClaim) (u : Int) (hl : l.length ≤ 1048576) (i0 : Nat) (hix : idxG (fun c : TClaim => !decide (c.user = u)) l = i0) (hi0 : i0 < l.length) (hno : ∀ (k : Nat) y, k < i0 → l[k]? = some y → (fun c : TClaim => !decide (c.user = u)) y = false) (z : TClaim) (hz : l[i0]? = some z) (hzd : (fun c : TClaim => !decide (c.user = u)) z = true) : DC Tryz.prog 23 [.osl 3 (l.map TClaim.ro), .fn 25 [.ip [.int .i64 u]]] (.osl 3 ((clF u l).map TClaim.ro)) [] := by
 refine DC.intro tiOk Tryz.func23 rfl rfl rfl rfl rfl rfl rfl rfl [1000] ?_
 refine rg [0,1] ?_
 intro k hk; simp -dsimp [go_sem, -decide_eq_true_eq, -decide_eq_false_iff_not, hix]
 repeat' first | apply And.intro | refine hk _ ?_ | intro hg | omega | exact True.intro
 all_goals clear hk k
 refine rg [0,1,5] ?_
 intro k hk; simp -dsimp (maxSteps := 2000000) [go_sem, -decide_eq_true_eq, -decide_eq_false_iff_not, hix]
 repeat' first | apply And.intro | refine hk _ ?_ | intro hg | (refine CallK.intro (dc_IndexC l u hl) ?_; simp -dsimp (maxSteps := 2000000) [go_sem, -decide_eq_true_eq, -decide_eq_false_iff_not, hix]) | omega | exact True.intro
 all_goals clear hk k
 refine AW.seq ?_
 refine rg [0,1,5,12] ?_
 intro k hk; simp -dsimp [go_sem, -decide_eq_true_eq, -decide_eq_false_iff_not, hix]
 repeat' first | apply And.intro | refine hk _ ?_ | intro hg | omega | exact True.intro
 all_goals clear hk k
 refine AW.cond rfl ?_ ?_
 ·intro hc; try simp at hc
  all_goals try (exfalso; omega; done)
  all_goals (
   skip)
 ·intro hc; try simp at hc
  all_goals try (exfalso; omega; done)
  all_goals (
   refine AW.skipN (fun _ h => h) ?_
   refine AW.seq ?_
   have hwi0 : IntKind.wrap .i64 ((i0 : Int) + 1) = (i0 : Int) + 1 := wrap64 (by omega) (by omega)
   have hq := dlA_id (keep := (fun c : TClaim => decide (c.user = u))) (l := l) i0 (fun k x hk hx => by have := hno k x hk hx; simpa using this)
   have hzk : (fun c : TClaim => decide (c.user = u)) z = false := by simpa using hzd
   have hkn0 : kpN (fun c : TClaim => decide (c.user = u)) l (i0 + 1) = i0 := by rw [kpN_n hz hzk]; exact hq.2 (by omega)
   have hda0 : dlA (fun c : TClaim => decide (c.user = u)) l (i0 + 1) = l := by rw [dlA_n hz hzk]; exact hq.1
   refine rg [0,1,5,6] ?_
   intro k hk; simp -dsimp [go_sem, -decide_eq_true_eq, -decide_eq_false_iff_not, hix, hwi0]
   repeat' first | apply And.intro | refine hk _ ?_ | intro hg | omega | exact True.intro
   all_goals clear hk k
   refine AW.block ?_
   refine AW.loopI (fun j : Nat => ⟨42, [(0, .sl 1900 3 0 l.length), (1, .fn 25 [.ip [.int .i64 u]]), (5, .int .i64 (kpN (fun c : TClaim => decide (c.user = u)) l j)), (6, .int .i64 (j : Nat))], [(1900, some ⟨3, (dlA (fun c : TClaim => decide (c.user = u)) l j).map TClaim.ro⟩)]⟩) (fun j => i0 + 1 ≤ j ∧ j ≤ l.length) (fun j => l.length - j) (i0 + 1) (⟨Nat.le_refl _, by omega⟩) (Less.of rfl (by simp [go_sem, hkn0, hwi0]) (by simp [go_sem, hda0])) ?_
   rintro j ⟨hj0, hj1⟩
   refine AW.seq ?_
   refine rg [0,1,5,6,19] ?_
   intro k hk; simp -dsimp [go_sem, -decide_eq_true_eq, -decide_eq_false_iff_not, hix]
   repeat' first | apply And.intro | refine hk _ ?_ | intro hg | omega | exact True.intro
   all_goals clear hk k
   refine AW.cond rfl ?_ ?_
   ·intro hc; try simp at hc
    all_goals try (exfalso; omega; done)
    all_goals (
     have hlt : j < l.length := by first | assumption | omega
     obtain ⟨x, hx⟩ := at_some hlt
     have hda := dlA_len (keep := (fun c : TClaim => decide (c.user = u))) l j
     have hkl := kpN_le (keep := (fun c : TClaim => decide (c.user = u))) l j
     have hxa : (dlA (fun c : TClaim => decide (c.user = u)) l j)[j]? = some x := by rw [dlA_at j j (Nat.le_refl _)]; exact hx
     obtain ⟨y, hy⟩ := at_some (l := (dlA (fun c : TClaim => decide (c.user = u)) l j)) (i := (kpN (fun c : TClaim => decide (c.user = u)) l j)) (by omega)
     have hxa3 : ∀ h, (dlA (fun c : TClaim => decide (c.user = u)) l j)[j]'h = x := fun h => by have h9 := hxa; rw [List.getElem?_eq_getElem h] at h9; exact Option.some.inj h9
     have hy3 : ∀ h, (dlA (fun c : TClaim => decide (c.user = u)) l j)[(kpN (fun c : TClaim => decide (c.user = u)) l j)]'h = y := fun h => by have h9 := hy; rw [List.getElem?_eq_getElem h] at h9; exact Option.some.inj h9
     have hwk : IntKind.wrap .i64 (((kpN (fun c : TClaim => decide (c.user = u)) l j) : Int) + 1) = ((kpN (fun c : TClaim => decide (c.user = u)) l j) : Int) + 1 := wrap64 (by omega) (by omega)
     refine AW.skipN (fun _ h => h) ?_
     refine AW.seq ?_
     refine AW.block ?_
     refine rg [0,1,5,6,7] ?_
     intro k hk; simp -dsimp [go_sem, -decide_eq_true_eq, -decide_eq_false_iff_not, hix, hxa, hxa3, hy, hy3, hda, hwk]
     repeat' first | apply And.intro | refine hk _ ?_ | intro hg | omega | exact True.intro
     all_goals clear hk k
     refine rg [0,1,5,6,7,29] ?_
     intro k hk; simp -dsimp (maxSteps := 2000000) [go_sem, -decide_eq_true_eq, -decide_eq_false_iff_not, hix, hxa, hxa3, hy, hy3, hda, hwk]
     repeat' first | apply And.intro | refine hk _ ?_ | intro hg | (refine CallK.intro (dc_impl_ClaimsOf_1 x u) ?_; simp -dsimp (maxSteps := 2000000) [go_sem, -decide_eq_true_eq, -decide_eq_false_iff_not, hix, hxa, hxa3, hy, hy3, hda, hwk]) | omega | exact True.intro
     all_goals clear hk k
     refine AW.cond rfl ?_ ?_
     ·intro hc; try simp at hc
      all_goals try (exfalso; omega; done)
      all_goals (
       refine rg [0,1,5,6] ?_
       intro k hk; simp -dsimp [go_sem, -decide_eq_true_eq, -decide_eq_false_iff_not, hix, hxa, hxa3, hy, hy3, hda, hwk]
       repeat' first | apply And.intro | refine hk _ ?_ | intro hg | omega | exact True.intro
       all_goals clear hk k
       refine rgN [0,1,5,6] (fun _ h => h) ?_
       intro k hk; simp -dsimp [go_sem, -decide_eq_true_eq, -decide_eq_false_iff_not, hix, hxa, hxa3, hy, hy3, hda, hwk]
       repeat' first | apply And.intro | refine hk _ ?_ | intro hg | omega | exact True.intro
       all_goals clear hk k
       refine rgK ?_
       intro k hk; simp -dsimp [go_sem, -decide_eq_true_eq, -decide_eq_false_iff_not, hix, hxa, hxa3, hy, hy3, hda, hwk]
       repeat' first | apply And.intro | refine hk _ ?_ | intro hg | omega | exact True.intro
       all_goals clear hk k
       show ∃ _, _
       have hw := wrapi hlt (by omega)
       first | (have hk : (fun c : TClaim => decide (c.user = u)) x = true := (by simp at hc ⊢; exact hc); have e1 := kpN_y (keep := (fun c : TClaim => decide (c.user = u))) hx hk; have e2 := dlA_y (keep := (fun c : TClaim => decide (c.user = u))) hx hk; refine ⟨j + 1, ⟨by omega, by omega⟩, by omega, Less.of rfl (by simp [go_sem, hw, e1, hwk]) (by rw [e2]; simp [go_sem, TClaim.ro])⟩) | (have hk : (fun c : TClaim => decide (c.user = u)) x = false := (by simp at hc ⊢; exact hc); have e1 := kpN_n (keep := (fun c : TClaim => decide (c.user = u))) hx hk; have e2 := dlA_n (keep := (fun c : TClaim => decide (c.user = u))) hx hk; refine ⟨j + 1, ⟨by omega, by omega⟩, by omega, Less.of rfl (by simp [go_sem, hw, e1]) (by rw [e2]; simp [go_sem])⟩))
     ·intro hc; try simp at hc
      all_goals try (exfalso; omega; done)
      all_goals (
       refine AW.skipN (fun _ h => h) ?_
       refine rgK ?_
       intro k hk; simp -dsimp [go_sem, -decide_eq_true_eq, -decide_eq_false_iff_not, hix, hxa, hxa3, hy, hy3, hda, hwk]
       repeat' first | apply And.intro | refine hk _ ?_ | intro hg | omega | exact True.intro
       all_goals clear hk k
       show ∃ _, _
       have hw := wrapi hlt (by omega)
       first | (have hk : (fun c : TClaim => decide (c.user = u)) x = true := (by simp at hc ⊢; exact hc); have e1 := kpN_y (keep := (fun c : TClaim => decide (c.user = u))) hx hk; have e2 := dlA_y (keep := (fun c : TClaim => decide (c.user = u))) hx hk; refine ⟨j + 1, ⟨by omega, by omega⟩, by omega, Less.of rfl (by simp [go_sem, hw, e1, hwk]) (by rw [e2]; simp [go_sem, TClaim.ro])⟩) | (have hk : (fun c : TClaim => decide (c.user = u)) x = false := (by simp at hc ⊢; exact hc); have e1 := kpN_n (keep := (fun c : TClaim => decide (c.user = u))) hx hk; have e2 := dlA_n (keep := (fun c : TClaim => decide (c.user = u))) hx hk; refine ⟨j + 1, ⟨by omega, by omega⟩, by omega, Less.of rfl (by simp [go_sem, hw, e1]) (by rw [e2]; simp [go_sem])⟩)))
   ·intro hc; try simp at hc
    all_goals try (exfalso; omega; done)
    all_goals (
     refine AW.exitN (fun _ h => h) ?_
     obtain rfl : j = l.length := by first | omega | (simp at hc; omega)
     have hda := dlA_len (keep := (fun c : TClaim => decide (c.user = u))) l l.length
     have hkl := kpN_le (keep := (fun c : TClaim => decide (c.user = u))) l l.length
     have htk := dlA_take (keep := (fun c : TClaim => decide (c.user = u))) (l := l) l.length (Nat.le_refl _)
     rw [List.take_length] at htk
     have hck : kpN (fun c : TClaim => decide (c.user = u)) l l.length = (clF u l).length := by unfold kpN; rw [List.take_length]; rfl
     have hfin : ∀ R : List (List AV), (((dlA (fun c : TClaim => decide (c.user = u)) l l.length).map TClaim.ro).take (kpN (fun c : TClaim => decide (c.user = u)) l l.length) ++ R).take (kpN (fun c : TClaim => decide (c.user = u)) l l.length) = (clF u l).map TClaim.ro := fun R => by rw [List.take_append_of_le_length (by simp; omega), List.take_take, Nat.min_self, ← List.map_take, htk]; rfl
     refine rg [0,5] ?_
     intro k hk; simp -dsimp [go_sem, -decide_eq_true_eq, -decide_eq_false_iff_not, hix, hda]
     repeat' first | apply And.intro | refine hk _ ?_ | intro hg | omega | exact True.intro
     all_goals clear hk k
     refine AW.shrink (nd := ?nd_1) 1900 (kpN (fun c : TClaim => decide (c.user = u)) l l.length) ?h1_1 ?kk_1
     (case h1_1 => exact rfl)
     simp only [hfin]
     simp only [hck]
     refine rg [4] ?_
     intro k hk; simp -dsimp [go_sem, -decide_eq_true_eq, -decide_eq_false_iff_not, hix]
     repeat' first | apply And.intro | refine hk _ ?_ | intro hg | omega | exact True.intro
     all_goals clear hk k
     refine rt ?_
     simp [go_sem, Tryz.results23]))

/-- slices.DeleteFunc[[]impl.Claim,impl.Claim] -/
theorem dc_slices_DeleteFunc_impl_Claim_impl_Claim_n (l : List TClaim) (u : Int) (hl : l.length ≤ 1048576) (hix : idxG (fun c : TClaim => !decide (c.user = u)) l = -1) (hno : ∀ (k : Nat) y, l[k]? = some y → (fun c : TClaim => !decide (c.user = u)) y = false) : DC Tryz.prog 23 [.osl 3 (l.map TClaim.ro), .fn 25 [.ip [.int .i64 u]]] (.osl 3 ((clF u l).map TClaim.ro)) [] := by
 refine DC.intro tiOk Tryz.func23 rfl rfl rfl rfl rfl rfl rfl rfl [1000] ?_
 refine rg [0,1] ?_
 intro k hk; simp -dsimp [go_sem, -decide_eq_true_eq, -decide_eq_false_iff_not, hix]
 repeat' first | apply And.intro | refine hk _ ?_ | intro hg | omega | exact True.intro
 all_goals clear hk k
 refine rg [0,1,5] ?_
 intro k hk; simp -dsimp (maxSteps := 2000000) [go_sem, -decide_eq_true_eq, -decide_eq_false_iff_not, hix]
 repeat' first | apply And.intro | refine hk _ ?_ | intro hg | (refine CallK.intro (dc_IndexC l u hl) ?_; simp -dsimp (maxSteps := 2000000) [go_sem, -decide_eq_true_eq, -decide_eq_false_iff_not, hix]) | omega | exact True.intro
 all_goals clear hk k
 refine AW.seq ?_
 refine rg [0,1,5,12] ?_
 intro k hk; simp -dsimp [go_sem, -decide_eq_true_eq, -decide_eq_false_iff_not, hix]
 repeat' first | apply And.intro | refine hk _ ?_ | intro hg | omega | exact True.intro
 all_goals clear hk k
 refine AW.cond rfl ?_ ?_
 ·intro hc; try simp at hc
  all_goals try (exfalso; omega; done)
  all_goals (
   refine rg [4] ?_
   intro k hk; simp -dsimp [go_sem, -decide_eq_true_eq, -decide_eq_false_iff_not, hix]
   repeat' first | apply And.intro | refine hk _ ?_ | intro hg | omega | exact True.intro
   all_goals clear hk k
   refine rt ?_
   have hfl : clF u l = l := filter_all (fun k x hx => by have := hno k x hx; simpa using this)
   rw [hfl]; simp [go_sem, Tryz.results23])
 ·intro hc; try simp at hc
  all_goals try (exfalso; omega; done)
  all_goals (
   refine AW.skipN (fun _ h => h) ?_
   refine AW.seq ?_
   skip)
theorem dc_DeleteC (l : List TClaim) (u : Int) (hl : l.length ≤ 1048576) : DC Tryz.prog 23 [.osl 3 (l.map TClaim.ro), .fn 25 [.ip [.int .i64 u]]] (.osl 3 ((clF u l).map TClaim.ro)) [] := by
  rcases idxG_cases (fun c : TClaim => !decide (c.user = u)) l with ⟨hix, hno⟩ | ⟨i0, hix, hi0, hno, z, hz, hzd⟩
  · exact dc_slices_DeleteFunc_impl_Claim_impl_Claim_n l u hl hix hno
  · exact dc_slices_DeleteFunc_impl_Claim_impl_Claim_y l u hl i0 hix hi0 hno z hz hzd

/-- slices.DeleteFunc[[]impl.Claim,impl.Claim] -/
theorem dc_slices_DeleteFunc_impl_Claim_impl_Claim_z (u : Int) : DC Tryz.prog 23 [.isl 3 [], .fn 25 [.ip [.int .i64 u]]] (.isl 3 []) [] := by
 refine DC.intro tiOk Tryz.func23 rfl rfl rfl rfl rfl rfl rfl rfl [] ?_
 refine rg [0,1] ?_
 intro k hk; simp -dsimp [go_sem, -decide_eq_true_eq, -decide_eq_false_iff_not, idxG_nil]
 repeat' first | apply And.intro | refine hk _ ?_ | intro hg | omega | exact True.intro
 all_goals clear hk k
 refine rg [0,1,5] ?_
 intro k hk; simp -dsimp (maxSteps := 2000000) [go_sem, -decide_eq_true_eq, -decide_eq_false_iff_not, idxG_nil]
 repeat' first | apply And.intro | refine hk _ ?_ | intro hg | (refine CallK.intro (dc_IndexC [] u (by simp)) ?_; simp -dsimp (maxSteps := 2000000) [go_sem, -decide_eq_true_eq, -decide_eq_false_iff_not, idxG_nil]) | omega | exact True.intro
 all_goals clear hk k
 refine AW.seq ?_
 refine rg [0,1,5,12] ?_
 intro k hk; simp -dsimp [go_sem, -decide_eq_true_eq, -decide_eq_false_iff_not, idxG_nil]
 repeat' first | apply And.intro | refine hk _ ?_ | intro hg | omega | exact True.intro
 all_goals clear hk k
 refine AW.cond rfl ?_ ?_
 ·intro hc; try simp at hc
  all_goals try (exfalso; omega; done)
  all_goals (
   refine rg [4] ?_
   intro k hk; simp -dsimp [go_sem, -decide_eq_true_eq, -decide_eq_false_iff_not, idxG_nil]
   repeat' first | apply And.intro | refine hk _ ?_ | intro hg | omega | exact True.intro
   all_goals clear hk k
   refine rt ?_
   simp [go_sem, Tryz.results23])
 ·intro hc; try simp at hc
  all_goals try (exfalso; omega; done)
  all_goals (
   refine AW.skipN (fun _ h => h) ?_
   refine AW.seq ?_
   skip)

end Go.AM
namespace Go.AM
open Go.Proofs

/-- impl.argBounds -/
theorem dc_impl_argBounds (k : Int) : DC Tryz.prog 113 [.int .i64 k] (.tup [.int .i64 (lowA k), .int .i64 (highA k)]) [] := by
 refine DC.intro tiOk Tryz.func113 rfl rfl rfl rfl rfl rfl rfl rfl [] ?_
 refine rgA [0] ?_
 refine AW.seq ?_
 refine rgA [4] ?_
 refine AW.block ?_
 refine rgA [4,5] ?_
 refine AW.cond rfl ?_ ?_
 ·intro hc; try simp at hc
  all_goals try (exfalso; omega; done)
  all_goals (
   refine rgA [2,3] ?_
   refine rt ?_
   simp [go_sem, Tryz.results113, lowA, highA] <;> grind)
 ·intro hc; try simp at hc
  all_goals try (exfalso; omega; done)
  all_goals (
   refine AW.seq ?_
   refine rgA [4,7] ?_
   refine AW.cond rfl ?_ ?_
   ·intro hc; try simp at hc
    all_goals try (exfalso; omega; done)
    all_goals (
     refine AW.skipN (fun _ h => h) ?_
     refine AW.cond rfl ?_ ?_
     ·intro hc; try simp at hc
      all_goals try (exfalso; omega; done)
      all_goals (
       refine rgA [2,3] ?_
       refine rt ?_
       simp [go_sem, Tryz.results113, lowA, highA] <;> grind)
     ·intro hc; try simp at hc
      all_goals try (exfalso; omega; done)
      all_goals (
       refine rgA [10] ?_
       refine AW.cond rfl ?_ ?_
       ·intro hc; try simp at hc
        all_goals try (exfalso; omega; done)
        all_goals (
         refine rgA [2,3] ?_
         refine rt ?_
         simp [go_sem, Tryz.results113, lowA, highA] <;> grind)
       ·intro hc; try simp at hc
        all_goals try (exfalso; omega; done)
        all_goals (
         refine AW.skipN (fun _ h => h) ?_
         refine rgA [2,3] ?_
         refine rt ?_
         simp [go_sem, Tryz.results113, lowA, highA] <;> grind)))
   ·intro hc; try simp at hc
    all_goals try (exfalso; omega; done)
    all_goals (
     refine rgNA [4,7] (fun _ h => h) ?_
     refine AW.cond rfl ?_ ?_
     ·intro hc; try simp at hc
      all_goals try (exfalso; omega; done)
      all_goals (
       refine rgA [2,3] ?_
       refine rt ?_
       simp [go_sem, Tryz.results113, lowA, highA] <;> grind)
     ·intro hc; try simp at hc
      all_goals try (exfalso; omega; done)
      all_goals (
       refine rgA [10] ?_
       refine AW.cond rfl ?_ ?_
       ·intro hc; try simp at hc
        all_goals try (exfalso; omega; done)
        all_goals (
         refine rgA [2,3] ?_
         refine rt ?_
         simp [go_sem, Tryz.results113, lowA, highA] <;> grind)
       ·intro hc; try simp at hc
        all_goals try (exfalso; omega; done)
        all_goals (
         refine AW.skipN (fun _ h => h) ?_
         refine rgA [2,3] ?_
         refine rt ?_
         simp [go_sem, Tryz.results113, lowA, highA] <;> grind))))

/-- impl.kidBounds -/
theorem dc_impl_kidBounds (k : Int) : DC Tryz.prog 118 [.int .i64 k] (.tup [.int .i64 (kidLo k), .int .i64 (kidHi k)]) [] := by
 refine DC.intro tiOk Tryz.func118 rfl rfl rfl rfl rfl rfl rfl rfl [] ?_
 refine rgA [0] ?_
 refine AW.seq ?_
 refine rgA [4] ?_
 refine AW.block ?_
 refine rgA [4,5] ?_
 refine AW.cond rfl ?_ ?_
 ·intro hc; try simp at hc
  all_goals try (exfalso; omega; done)
  all_goals (
   refine rgA [2,3] ?_
   refine rt ?_
   simp [go_sem, Tryz.results118, kidLo, kidHi] <;> grind)
 ·intro hc; try simp at hc
  all_goals try (exfalso; omega; done)
  all_goals (
   refine AW.seq ?_
   refine rgA [4,7] ?_
   refine AW.cond rfl ?_ ?_
   ·intro hc; try simp at hc
    all_goals try (exfalso; omega; done)
    all_goals (
     refine AW.skipN (fun _ h => h) ?_
     refine AW.cond rfl ?_ ?_
     ·intro hc; try simp at hc
      all_goals try (exfalso; omega; done)
      all_goals (
       refine rgA [2,3] ?_
       refine rt ?_
       simp [go_sem, Tryz.results118, kidLo, kidHi] <;> grind)
     ·intro hc; try simp at hc
      all_goals try (exfalso; omega; done)
      all_goals (
       refine rgA [10] ?_
       refine AW.cond rfl ?_ ?_
       ·intro hc; try simp at hc
        all_goals try (exfalso; omega; done)
        all_goals (
         refine rgA [2,3] ?_
         refine rt ?_
         simp [go_sem, Tryz.results118, kidLo, kidHi] <;> grind)
       ·intro hc; try simp at hc
        all_goals try (exfalso; omega; done)
        all_goals (
         refine AW.skipN (fun _ h => h) ?_
         refine rgA [2,3] ?_
         refine rt ?_
         simp [go_sem, Tryz.results118, kidLo, kidHi] <;> grind)))
   ·intro hc; try simp at hc
    all_goals try (exfalso; omega; done)
    all_goals (
     refine rgNA [4,7] (fun _ h => h) ?_
     refine AW.cond rfl ?_ ?_
     ·intro hc; try simp at hc
      all_goals try (exfalso; omega; done)
      all_goals (
       refine rgA [2,3] ?_
       refine rt ?_
       simp [go_sem, Tryz.results118, kidLo, kidHi] <;> grind)
     ·intro hc; try simp at hc
      all_goals try (exfalso; omega; done)
      all_goals (
       refine rgA [10] ?_
       refine AW.cond rfl ?_ ?_
       ·intro hc; try simp at hc
        all_goals try (exfalso; omega; done)
        all_goals (
         refine rgA [2,3] ?_
         refine rt ?_
         simp [go_sem, Tryz.results118, kidLo, kidHi] <;> grind)
       ·intro hc; try simp at hc
        all_goals try (exfalso; omega; done)
        all_goals (
         refine AW.skipN (fun _ h => h) ?_
         refine rgA [2,3] ?_
         refine rt ?_
         simp [go_sem, Tryz.results118, kidLo, kidHi] <;> grind))))

/-- spec.l4Many -/
theorem dc_spec_l4Many (k : Int) (n : Nat) (hn : n ≤ 24) : DC Tryz.prog 109 [.int .i64 k, .int .i64 (n : Nat)] (.bool (inR n (kidLo k) (kidHi k))) [] := by
 refine DC.intro tiOk Tryz.func109 rfl rfl rfl rfl rfl rfl rfl rfl [] ?_
 refine rgA [0,1] ?_
 refine AW.seq ?_
 refine rgA [1,5] ?_
 refine AW.block ?_
 refine rgA [1,5,6] ?_
 refine AW.cond rfl ?_ ?_
 ·intro hc; try simp at hc
  all_goals try (exfalso; omega; done)
  all_goals (
   refine rgA [4] ?_
   refine rt ?_
   simp [go_sem, Tryz.results109, inR, kidLo, kidHi] <;> grind)
 ·intro hc; try simp at hc
  all_goals try (exfalso; omega; done)
  all_goals (
   refine AW.seq ?_
   refine rgA [1,5,10] ?_
   refine AW.cond rfl ?_ ?_
   ·intro hc; try simp at hc
    all_goals try (exfalso; omega; done)
    all_goals (
     refine AW.skipN (fun _ h => h) ?_
     refine AW.cond rfl ?_ ?_
     ·intro hc; try simp at hc
      all_goals try (exfalso; omega; done)
      all_goals (
       refine rgA [4] ?_
       refine rt ?_
       simp [go_sem, Tryz.results109, inR, kidLo, kidHi] <;> grind)
     ·intro hc; try simp at hc
      all_goals try (exfalso; omega; done)
      all_goals (
       refine rgA [1,15] ?_
       refine AW.cond rfl ?_ ?_
       ·intro hc; try simp at hc
        all_goals try (exfalso; omega; done)
        all_goals (
         refine rgA [4] ?_
         refine rt ?_
         simp [go_sem, Tryz.results109, inR, kidLo, kidHi] <;> grind)
       ·intro hc; try simp at hc
        all_goals try (exfalso; omega; done)
        all_goals (
         refine AW.skipN (fun _ h => h) ?_
         refine rgA [4] ?_
         refine rt ?_
         simp [go_sem, Tryz.results109, inR, kidLo, kidHi] <;> grind)))
   ·intro hc; try simp at hc
    all_goals try (exfalso; omega; done)
    all_goals (
     refine rgNA [1,5,10] (fun _ h => h) ?_
     refine AW.cond rfl ?_ ?_
     ·intro hc; try simp at hc
      all_goals try (exfalso; omega; done)
      all_goals (
       refine rgA [4] ?_
       refine rt ?_
       simp [go_sem, Tryz.results109, inR, kidLo, kidHi] <;> grind)
     ·intro hc; try simp at hc
      all_goals try (exfalso; omega; done)
      all_goals (
       refine rgA [1,15] ?_
       refine AW.cond rfl ?_ ?_
       ·intro hc; try simp at hc
        all_goals try (exfalso; omega; done)
        all_goals (
         refine rgA [4] ?_
         refine rt ?_
         simp [go_sem, Tryz.results109, inR, kidLo, kidHi] <;> grind)
       ·intro hc; try simp at hc
        all_goals try (exfalso; omega; done)
        all_goals (
         refine AW.skipN (fun _ h => h) ?_
         refine rgA [4] ?_
         refine rt ?_
         simp [go_sem, Tryz.results109, inR, kidLo, kidHi] <;> grind))))

/-- spec.l4Arg -/
theorem dc_spec_l4Arg (s : TStep) : DC Tryz.prog 107 [.ip s.ro] (.bool (decide (s.kind = 5 ∨ s.kind = 6 ∨ s.kind = 7 ∨ s.kind = 8 → lowA s.kind ≤ s.arg ∧ s.arg ≤ highA s.kind))) [] := by
 refine DC.intro tiOk Tryz.func107 rfl rfl rfl rfl rfl rfl rfl rfl [] ?_
 refine rgA [0] ?_
 refine AW.seq ?_
 refine rgA [0,6] ?_
 refine AW.block ?_
 refine rgA [0,6,7] ?_
 refine AW.cond rfl ?_ ?_
 ·intro hc; try simp at hc
  all_goals try (exfalso; omega; done)
  all_goals (
   refine rg [2] ?_
   intro k hk; simp -dsimp (maxSteps := 2000000) [go_sem, -decide_eq_true_eq, -decide_eq_false_iff_not]
   repeat' first | apply And.intro | refine hk _ ?_ | intro hg | (refine CallK.intro (dc_spec_l1In _ _ _) ?_; simp -dsimp (maxSteps := 2000000) [go_sem, -decide_eq_true_eq, -decide_eq_false_iff_not]) | omega | exact True.intro
   all_goals clear hk k
   refine rt ?_
   simp [go_sem, Tryz.results107, inR, lowA, highA] <;> grind)
 ·intro hc; try simp at hc
  all_goals try (exfalso; omega; done)
  all_goals (
   refine AW.seq ?_
   refine rgA [0,6,14] ?_
   refine AW.cond rfl ?_ ?_
   ·intro hc; try simp at hc
    all_goals try (exfalso; omega; done)
    all_goals (
     refine AW.skipN (fun _ h => h) ?_
     refine AW.cond rfl ?_ ?_
     ·intro hc; try simp at hc
      all_goals try (exfalso; omega; done)
      all_goals (
       refine rg [2] ?_
       intro k hk; simp -dsimp (maxSteps := 2000000) [go_sem, -decide_eq_true_eq, -decide_eq_false_iff_not]
       repeat' first | apply And.intro | refine hk _ ?_ | intro hg | (refine CallK.intro (dc_spec_l1In _ _ _) ?_; simp -dsimp (maxSteps := 2000000) [go_sem, -decide_eq_true_eq, -decide_eq_false_iff_not]) | omega | exact True.intro
       all_goals clear hk k
       refine rt ?_
       simp [go_sem, Tryz.results107, inR, lowA, highA] <;> grind)
     ·intro hc; try simp at hc
      all_goals try (exfalso; omega; done)
      all_goals (
       refine rgA [0,22] ?_
       refine AW.cond rfl ?_ ?_
       ·intro hc; try simp at hc
        all_goals try (exfalso; omega; done)
        all_goals (
         refine rg [2] ?_
         intro k hk; simp -dsimp (maxSteps := 2000000) [go_sem, -decide_eq_true_eq, -decide_eq_false_iff_not]
         repeat' first | apply And.intro | refine hk _ ?_ | intro hg | (refine CallK.intro (dc_spec_l1In _ _ _) ?_; simp -dsimp (maxSteps := 2000000) [go_sem, -decide_eq_true_eq, -decide_eq_false_iff_not]) | omega | exact True.intro
         all_goals clear hk k
         refine rt ?_
         simp [go_sem, Tryz.results107, inR, lowA, highA] <;> grind)
       ·intro hc; try simp at hc
        all_goals try (exfalso; omega; done)
        all_goals (
         refine AW.skipN (fun _ h => h) ?_
         refine rgA [2] ?_
         refine rt ?_
         simp [go_sem, Tryz.results107, inR, lowA, highA] <;> grind)))
   ·intro hc; try simp at hc
    all_goals try (exfalso; omega; done)
    all_goals (
     refine rgNA [0,6,14] (fun _ h => h) ?_
     refine AW.cond rfl ?_ ?_
     ·intro hc; try simp at hc
      all_goals try (exfalso; omega; done)
      all_goals (
       refine rg [2] ?_
       intro k hk; simp -dsimp (maxSteps := 2000000) [go_sem, -decide_eq_true_eq, -decide_eq_false_iff_not]
       repeat' first | apply And.intro | refine hk _ ?_ | intro hg | (refine CallK.intro (dc_spec_l1In _ _ _) ?_; simp -dsimp (maxSteps := 2000000) [go_sem, -decide_eq_true_eq, -decide_eq_false_iff_not]) | omega | exact True.intro
       all_goals clear hk k
       refine rt ?_
       simp [go_sem, Tryz.results107, inR, lowA, highA] <;> grind)
     ·intro hc; try simp at hc
      all_goals try (exfalso; omega; done)
      all_goals (
       refine rgA [0,22] ?_
       refine AW.cond rfl ?_ ?_
       ·intro hc; try simp at hc
        all_goals try (exfalso; omega; done)
        all_goals (
         refine rg [2] ?_
         intro k hk; simp -dsimp (maxSteps := 2000000) [go_sem, -decide_eq_true_eq, -decide_eq_false_iff_not]
         repeat' first | apply And.intro | refine hk _ ?_ | intro hg | (refine CallK.intro (dc_spec_l1In _ _ _) ?_; simp -dsimp (maxSteps := 2000000) [go_sem, -decide_eq_true_eq, -decide_eq_false_iff_not]) | omega | exact True.intro
         all_goals clear hk k
         refine rt ?_
         simp [go_sem, Tryz.results107, inR, lowA, highA] <;> grind)
       ·intro hc; try simp at hc
        all_goals try (exfalso; omega; done)
        all_goals (
         refine AW.skipN (fun _ h => h) ?_
         refine rgA [2] ?_
         refine rt ?_
         simp [go_sem, Tryz.results107, inR, lowA, highA] <;> grind))))

/-- spec.l4Bare -/
theorem dc_spec_l4Bare (s : TStep) (hg : s.gok) : DC Tryz.prog 103 [.ip s.ro] (.bool (!alien s)) [] := by
 obtain ⟨g0, g1, g2⟩ := hg
 refine DC.intro tiOk Tryz.func103 rfl rfl rfl rfl rfl rfl rfl rfl [] ?_
 refine rgA [0] ?_
 refine rg [0,3] ?_
 intro k hk; simp -dsimp (maxSteps := 2000000) [go_sem, -decide_eq_true_eq, -decide_eq_false_iff_not]
 repeat' first | apply And.intro | refine hk _ ?_ | intro hg | (refine CallK.intro (dc_spec_l1In _ _ _) ?_; simp -dsimp (maxSteps := 2000000) [go_sem, -decide_eq_true_eq, -decide_eq_false_iff_not]) | omega | exact True.intro
 all_goals clear hk k
 refine AW.cut ⟨46, [(2, .bool (!alien s))], []⟩ ?_ ?_
 ·skip
  refine rgK ?_
  intro k hk; simp +contextual -dsimp (maxSteps := 2000000) [go_sem, -decide_eq_true_eq, -decide_eq_false_iff_not]
  repeat' first | apply And.intro | refine hk _ ?_ | (intro hg; try simp only [decide_eq_true_eq, decide_eq_false_iff_not] at hg) | omega | exact True.intro
  all_goals clear hk k
  all_goals (show St.Less _ _; exact Less.of rfl (by simp [go_sem, alien, highA, inR] at * <;> grind) (by simp [go_sem]))
 ·skip
  refine rt ?_
  simp [go_sem, Tryz.results103]

/-- (*impl.parents).next -/
theorem dc_impl_parents_next_z (par : Int) : DC Tryz.prog 114 [.op [.nils, .nils], .int .i64 par] (.int .i64 (parF [] par)) [(0, .op [nlc 1 ((nxtL [] par).map I1), nlc 1 ((nxtD [] [] par).map I1)])] := by
 have hwm : IntKind.wrap .i64 (-1) = -1 := wrap64 (by omega) (by omega)
 refine DC.intro tiOk Tryz.func114 rfl rfl rfl rfl rfl rfl rfl (by simp [noW, noWo]) [] ?_
 refine rg [0,1] ?_
 intro k hk; simp -dsimp [go_sem, -decide_eq_true_eq, -decide_eq_false_iff_not, hwm]
 repeat' first | apply And.intro | refine hk _ ?_ | intro hg | omega | exact True.intro
 all_goals clear hk k
 refine rg [0,1,5] ?_
 intro k hk; simp -dsimp [go_sem, -decide_eq_true_eq, -decide_eq_false_iff_not, hwm]
 repeat' first | apply And.intro | refine hk _ ?_ | intro hg | omega | exact True.intro
 all_goals clear hk k
 refine AW.seq ?_
 refine AW.cut ⟨75, [(0, .ptr 1900 2 0 0), (1, .int .i64 par), (5, .int .i64 0), (29, .bool (decide (par ≠ -1)))], [(1900, some ⟨2, [[.nils, .nils]]⟩)]⟩ ?_ ?_
 ·skip
  refine rgK ?_
  intro k hk; simp +contextual -dsimp (maxSteps := 2000000) [go_sem, -decide_eq_true_eq, -decide_eq_false_iff_not, hwm]
  repeat' first | apply And.intro | refine hk _ ?_ | (intro hg; try simp only [decide_eq_true_eq, decide_eq_false_iff_not] at hg) | (refine CallK.intro (dc_impl_inRange _ _ _) ?_; simp +contextual -dsimp (maxSteps := 2000000) [go_sem, -decide_eq_true_eq, -decide_eq_false_iff_not, hwm]) | omega | exact True.intro
  all_goals clear hk k
  all_goals (show St.Less _ _; exact Less.of rfl (by simp [go_sem] <;> grind) (by simp [go_sem]))
 ·skip
  refine AW.cond rfl ?_ ?_
  ·intro hc; try simp at hc
   all_goals try (exfalso; omega; done)
   all_goals (
    refine rg [0,4] ?_
    intro k hk; simp -dsimp [go_sem, -decide_eq_true_eq, -decide_eq_false_iff_not, hwm]
    repeat' first | apply And.intro | refine hk _ ?_ | intro hg | omega | exact True.intro
    all_goals clear hk k
    refine rt ?_
    first | (have hpm : par = -1 := (by assumption); subst hpm; simp [go_sem, Tryz.results114, nxtL, nxtD, parF]; done) | (have hpm : ¬ par = -1 := (by first | assumption | simpa using hc); simp [go_sem, Tryz.results114, nxtL, nxtD, parF, hpm]))
  ·intro hc; try simp at hc
   all_goals try (exfalso; omega; done)
   all_goals (
    refine AW.skipN (fun _ h => h) ?_
    have hpm : par = -1 := by simpa using hc
    refine rg [0,1,6] ?_
    intro k hk; simp -dsimp [go_sem, -decide_eq_true_eq, -decide_eq_false_iff_not, hwm, hpm]
    repeat' first | apply And.intro | refine hk _ ?_ | intro hg | omega | exact True.intro
    all_goals clear hk k
    refine AW.seq ?_
    refine AW.block ?_
    refine AW.loopI (fun _ : Nat => ⟨75, [(0, .ptr 1900 2 0 0), (1, .int .i64 par), (6, .int .i64 (-1))], [(1900, some ⟨2, [[.nils, .nils]]⟩)]⟩) (fun _ => True) (fun _ => 0) (0) (trivial) (Less.of rfl (by simp [go_sem, hpm, hwm]) (by simp [go_sem])) ?_
    rintro i _
    refine AW.seq ?_
    refine rg [0,1,6,34] ?_
    intro k hk; simp -dsimp [go_sem, -decide_eq_true_eq, -decide_eq_false_iff_not, hwm]
    repeat' first | apply And.intro | refine hk _ ?_ | intro hg | omega | exact True.intro
    all_goals clear hk k
    refine AW.cond rfl ?_ ?_
    ·intro hc; try simp at hc
     all_goals try (exfalso; omega; done)
     all_goals (
      refine AW.skipN (fun _ h => h) ?_
      refine AW.block ?_
      refine rgK ?_
      intro k hk; simp -dsimp (maxSteps := 2000000) [go_sem, -decide_eq_true_eq, -decide_eq_false_iff_not, hwm]
      repeat' first | apply And.intro | refine hk _ ?_ | intro hg | omega | exact True.intro
      all_goals clear hk k
      show ∃ _, _
      exfalso; omega)
    ·intro hc; try simp at hc
     all_goals try (exfalso; omega; done)
     all_goals (
      refine AW.exitN (fun _ h => h) ?_
      refine AW.seq ?_
      refine rg [0,1,44] ?_
      intro k hk; simp -dsimp [go_sem, -decide_eq_true_eq, -decide_eq_false_iff_not, hwm]
      repeat' first | apply And.intro | refine hk _ ?_ | intro hg | omega | exact True.intro
      all_goals clear hk k
      refine AW.cond rfl ?_ ?_
      ·intro hc; try simp at hc
       all_goals try (exfalso; omega; done)
       all_goals (
        refine rg [0,4] ?_
        intro k hk; simp -dsimp [go_sem, -decide_eq_true_eq, -decide_eq_false_iff_not, hwm]
        repeat' first | apply And.intro | refine hk _ ?_ | intro hg | omega | exact True.intro
        all_goals clear hk k
        refine rt ?_
        first | (have hpm : par = -1 := (by assumption); subst hpm; simp [go_sem, Tryz.results114, nxtL, nxtD, parF]; done) | (have hpm : ¬ par = -1 := (by first | assumption | simpa using hc); simp [go_sem, Tryz.results114, nxtL, nxtD, parF, hpm]))
      ·intro hc; try simp at hc
       all_goals try (exfalso; omega; done)
       all_goals (
        refine AW.skipN (fun _ h => h) ?_
        refine rg [0,1,7] ?_
        intro k hk; simp -dsimp [go_sem, -decide_eq_true_eq, -decide_eq_false_iff_not, hwm]
        repeat' first | apply And.intro | refine hk _ ?_ | intro hg | omega | exact True.intro
        all_goals clear hk k
        refine AW.seq ?_
        refine rg [0,1,7,46] ?_
        intro k hk; simp -dsimp [go_sem, -decide_eq_true_eq, -decide_eq_false_iff_not, hwm]
        repeat' first | apply And.intro | refine hk _ ?_ | intro hg | omega | exact True.intro
        all_goals clear hk k
        refine AW.cond rfl ?_ ?_
        ·intro hc; try simp at hc
         all_goals try (exfalso; omega; done)
         all_goals (
          refine rgN [0,1,7] (fun _ h => h) ?_
          intro k hk; simp -dsimp (maxSteps := 2000000) [go_sem, -decide_eq_true_eq, -decide_eq_false_iff_not, hwm]
          repeat' first | apply And.intro | refine hk _ ?_ | intro hg | omega | exact True.intro
          all_goals clear hk k
          refine rg [0] ?_
          intro k hk; simp -dsimp (maxSteps := 2000000) [go_sem, -decide_eq_true_eq, -decide_eq_false_iff_not, hwm]
          repeat' first | (refine Chk.keys ?_; simp only [go_sem, List.map_cons, List.map_nil, List.flatMap_cons, List.flatMap_nil, List.flatMap_append, List.append_nil, List.nil_append, List.cons_append]; decide +kernel) | apply And.intro | refine hk _ ?_ | intro hg | omega | exact True.intro
          all_goals clear hk k
          refine AW.fold (nd := ?nd_1) (c := ?c_1) (l := ?l_1) (es := ?es_1) (n := ?n_1) 1900 0 0 63 ?h1_1 ?h2_1 ?h4_1 ?h3_1 ?hn_1 (by decide) ?h6_1 ?kk_1
          (case h1_1 => exact rfl)
          (case h2_1 => exact rfl)
          (case h4_1 => exact rfl)
          (case h3_1 => exact rfl)
          (case hn_1 => simp)
          (case h6_1 => simp [go_sem])
          refine AW.fold (nd := ?nd_2) (c := ?c_2) (l := ?l_2) (es := ?es_2) (n := ?n_2) 1900 0 1 70 ?h1_2 ?h2_2 ?h4_2 ?h3_2 ?hn_2 (by decide) ?h6_2 ?kk_2
          (case h1_2 => exact rfl)
          (case h2_2 => exact rfl)
          (case h4_2 => exact rfl)
          (case h3_2 => exact rfl)
          (case hn_2 => simp)
          (case h6_2 => simp [go_sem])
          refine rg [0,4] ?_
          intro k hk; simp -dsimp [go_sem, -decide_eq_true_eq, -decide_eq_false_iff_not, hwm]
          repeat' first | apply And.intro | refine hk _ ?_ | intro hg | omega | exact True.intro
          all_goals clear hk k
          refine rt ?_
          first | (have hpm : par = -1 := (by assumption); subst hpm; simp [go_sem, Tryz.results114, nxtL, nxtD, parF]; done) | (have hpm : ¬ par = -1 := (by first | assumption | simpa using hc); simp [go_sem, Tryz.results114, nxtL, nxtD, parF, hpm]))
        ·intro hc; try simp at hc
         all_goals try (exfalso; omega; done)
         all_goals (
          refine AW.skipN (fun _ h => h) ?_
          refine rg [0] ?_
          intro k hk; simp -dsimp (maxSteps := 2000000) [go_sem, -decide_eq_true_eq, -decide_eq_false_iff_not, hwm]
          repeat' first | (refine Chk.keys ?_; simp only [go_sem, List.map_cons, List.map_nil, List.flatMap_cons, List.flatMap_nil, List.flatMap_append, List.append_nil, List.nil_append, List.cons_append]; decide +kernel) | apply And.intro | refine hk _ ?_ | intro hg | omega | exact True.intro
          all_goals clear hk k
          refine AW.fold (nd := ?nd_3) (c := ?c_3) (l := ?l_3) (es := ?es_3) (n := ?n_3) 1900 0 0 63 ?h1_3 ?h2_3 ?h4_3 ?h3_3 ?hn_3 (by decide) ?h6_3 ?kk_3
          (case h1_3 => exact rfl)
          (case h2_3 => exact rfl)
          (case h4_3 => exact rfl)
          (case h3_3 => exact rfl)
          (case hn_3 => simp)
          (case h6_3 => simp [go_sem])
          refine AW.fold (nd := ?nd_4) (c := ?c_4) (l := ?l_4) (es := ?es_4) (n := ?n_4) 1900 0 1 70 ?h1_4 ?h2_4 ?h4_4 ?h3_4 ?hn_4 (by decide) ?h6_4 ?kk_4
          (case h1_4 => exact rfl)
          (case h2_4 => exact rfl)
          (case h4_4 => exact rfl)
          (case h3_4 => exact rfl)
          (case hn_4 => simp)
          (case h6_4 => simp [go_sem])
          refine rg [0,4] ?_
          intro k hk; simp -dsimp [go_sem, -decide_eq_true_eq, -decide_eq_false_iff_not, hwm]
          repeat' first | apply And.intro | refine hk _ ?_ | intro hg | omega | exact True.intro
          all_goals clear hk k
          refine rt ?_
          first | (have hpm : par = -1 := (by assumption); subst hpm; simp [go_sem, Tryz.results114, nxtL, nxtD, parF]; done) | (have hpm : ¬ par = -1 := (by first | assumption | simpa using hc); simp [go_sem, Tryz.results114, nxtL, nxtD, parF, hpm])))))

/-- (*impl.parents).next -/
theorem dc_impl_parents_next_s (l d : List Int) (par : Int) (hl : ParOk l) (hd : d = depsOf l) (hn : l ≠ []) (h24 : l.length ≤ 24) : DC Tryz.prog 114 [.op [.osl 1 (l.map I1), .osl 1 (d.map I1)], .int .i64 par] (.int .i64 (parF l par)) [(0, .op [nlc 1 ((nxtL l par).map I1), nlc 1 ((nxtD l d par).map I1)])] := by
 have hlp : 0 < l.length := List.length_pos_iff.2 hn
 have hdl : d.length = l.length := by rw [hd]; exact depsOf_len l
 have hnl := nlc_map (f := I1) hn 1
 have hnd := nlc_map (f := I1) (l := d) (by intro h; rw [h] at hdl; simp at hdl; omega) 1
 have hw1 : IntKind.wrap .i64 ((l.length : Int) - 1) = (l.length : Int) - 1 := wrap64 (by omega) (by omega)
 have htl : List.take l.length (d.map I1) = d.map I1 := List.take_of_length_le (by simp [hdl])
 refine DC.intro tiOk Tryz.func114 rfl rfl rfl rfl rfl rfl rfl (by simp [noW, noWo]) [] ?_
 refine rg [0,1] ?_
 intro k hk; simp -dsimp [go_sem, -decide_eq_true_eq, -decide_eq_false_iff_not, hw1, hdl, htl]
 repeat' first | apply And.intro | refine hk _ ?_ | intro hg | omega | exact True.intro
 all_goals clear hk k
 refine AW.thaw (nd := ?nd_1) (c := ?c_1) (l := ?l_1) (es := ?es_1) 1900 0 0 7001 ?h1_1 ?h2_1 ?h3_1 ?h45_1 ?kk_1
 (case h1_1 => exact rfl)
 (case h2_1 => exact rfl)
 (case h3_1 => exact rfl)
 (case h45_1 => simp [go_sem])
 refine AW.thaw (nd := ?nd_2) (c := ?c_2) (l := ?l_2) (es := ?es_2) 1900 0 1 7002 ?h1_2 ?h2_2 ?h3_2 ?h45_2 ?kk_2
 (case h1_2 => exact rfl)
 (case h2_2 => exact rfl)
 (case h3_2 => exact rfl)
 (case h45_2 => simp [go_sem])
 refine rg [0,1,5] ?_
 intro k hk; simp -dsimp [go_sem, -decide_eq_true_eq, -decide_eq_false_iff_not, hw1, hdl, htl]
 repeat' first | apply And.intro | refine hk _ ?_ | intro hg | omega | exact True.intro
 all_goals clear hk k
 refine AW.seq ?_
 refine AW.cut ⟨75, [(0, .ptr 1900 2 0 0), (1, .int .i64 par), (5, .int .i64 (l.length : Nat)), (29, .bool (decide (parF l par = 3)))], [(7001, some ⟨1, l.map I1⟩), (7002, some ⟨1, d.map I1⟩), (1900, some ⟨2, [[.sl 7001 1 0 l.length, .sl 7002 1 0 l.length]]⟩)]⟩ ?_ ?_
 ·skip
  refine rgK ?_
  intro k hk; simp +contextual -dsimp (maxSteps := 2000000) [go_sem, -decide_eq_true_eq, -decide_eq_false_iff_not, hw1, hdl, htl]
  repeat' first | apply And.intro | refine hk _ ?_ | (intro hg; try simp only [decide_eq_true_eq, decide_eq_false_iff_not] at hg) | (refine CallK.intro (dc_impl_inRange _ _ _) ?_; simp +contextual -dsimp (maxSteps := 2000000) [go_sem, -decide_eq_true_eq, -decide_eq_false_iff_not, hw1, hdl, htl]) | omega | exact True.intro
  all_goals clear hk k
  all_goals (show St.Less _ _; exact Less.of rfl (by simp [go_sem, parF, inR] at * <;> grind) (by simp [go_sem, hdl]))
 ·skip
  refine AW.cond rfl ?_ ?_
  ·intro hc; try simp at hc
   all_goals try (exfalso; omega; done)
   all_goals (
    refine AW.fold (nd := ?nd_3) (c := ?c_3) (l := ?l_3) (es := ?es_3) (n := ?n_3) 1900 0 0 7001 ?h1_3 ?h2_3 ?h4_3 ?h3_3 ?hn_3 (by decide) ?h6_3 ?kk_3
    (case h1_3 => exact rfl)
    (case h2_3 => exact rfl)
    (case h4_3 => exact rfl)
    (case h3_3 => exact rfl)
    (case hn_3 => simp [hdl])
    (case h6_3 => simp [go_sem, hdl])
    refine AW.fold (nd := ?nd_4) (c := ?c_4) (l := ?l_4) (es := ?es_4) (n := ?n_4) 1900 0 1 7002 ?h1_4 ?h2_4 ?h4_4 ?h3_4 ?hn_4 (by decide) ?h6_4 ?kk_4
    (case h1_4 => exact rfl)
    (case h2_4 => exact rfl)
    (case h4_4 => exact rfl)
    (case h3_4 => exact rfl)
    (case hn_4 => simp [hdl])
    (case h6_4 => simp [go_sem, hdl])
    have hp3 : parF l par = 3 := by simpa using hc
    refine rg [0,4] ?_
    intro k hk; simp -dsimp [go_sem, -decide_eq_true_eq, -decide_eq_false_iff_not, hw1, hdl, htl]
    repeat' first | apply And.intro | refine hk _ ?_ | intro hg | omega | exact True.intro
    all_goals clear hk k
    refine rt ?_
    first | (simp [go_sem, Tryz.results114, nxtL, nxtD, hp3, hnl, hnd]; done) | (simp [go_sem, Tryz.results114, nxtL, nxtD, hp1, hnl, hnd]; done) | (simp [go_sem, Tryz.results114, hb, hnl2, hnd2, hp0, hnl, hnd, htl]; done))
  ·intro hc; try simp at hc
   all_goals try (exfalso; omega; done)
   all_goals (
    refine AW.skipN (fun _ h => h) ?_
    have hp3 : ¬ parF l par = 3 := by simpa using hc
    have hpr := parF_not3 hlp hp3
    refine rg [0,1,6] ?_
    intro k hk; simp -dsimp [go_sem, -decide_eq_true_eq, -decide_eq_false_iff_not, hw1, hdl, htl]
    repeat' first | apply And.intro | refine hk _ ?_ | intro hg | omega | exact True.intro
    all_goals clear hk k
    refine AW.seq ?_
    refine AW.block ?_
    refine AW.loopI (fun a : Int => ⟨75, [(0, .ptr 1900 2 0 0), (1, .int .i64 par), (6, .int .i64 a)], [(7001, some ⟨1, l.map I1⟩), (7002, some ⟨1, d.map I1⟩), (1900, some ⟨2, [[.sl 7001 1 0 l.length, .sl 7002 1 0 l.length]]⟩)]⟩) (fun a => -1 ≤ a ∧ a < l.length ∧ upB l a par = upB l ((l.length : Int) - 1) par) (fun a => (a + 1).toNat) ((l.length : Int) - 1) (by refine ⟨by omega, by omega, rfl⟩) (Less.of rfl (by simp [go_sem, hdl]) (by simp [go_sem, hdl])) ?_
    rintro a ⟨ha0, ha1, hinv⟩
    refine AW.seq ?_
    refine rg [0,1,6,34] ?_
    intro k hk; simp -dsimp [go_sem, -decide_eq_true_eq, -decide_eq_false_iff_not, hw1, hdl, htl]
    repeat' first | apply And.intro | refine hk _ ?_ | intro hg | omega | exact True.intro
    all_goals clear hk k
    refine AW.cond rfl ?_ ?_
    ·intro hc; try simp at hc
     all_goals try (exfalso; omega; done)
     all_goals (
      have hlt : par < a := by assumption
      obtain ⟨k, hk⟩ : ∃ k : Nat, a = k := ⟨_, (Int.toNat_of_nonneg (show 0 ≤ a by omega)).symm⟩
      subst hk
      obtain ⟨x, hx⟩ := at_some (l := l) (show k < l.length by omega)
      have hxg : l.getD k 0 = x := by rw [List.getD, hx]; rfl
      have hxl := hl k (by omega)
      rw [hxg] at hxl
      refine AW.skipN (fun _ h => h) ?_
      refine AW.block ?_
      refine rgK ?_
      intro k hk; simp -dsimp (maxSteps := 2000000) [go_sem, -decide_eq_true_eq, -decide_eq_false_iff_not, hw1, hdl, htl, hx]
      repeat' first | apply And.intro | refine hk _ ?_ | intro hg | omega | exact True.intro
      all_goals clear hk k
      show ∃ _, _
      refine ⟨x, ⟨by omega, by omega, ?_⟩, by omega, Less.of rfl (by simp [go_sem]) (by simp [go_sem])⟩
      rw [← hinv, upB_eq hl (show (0 : Int) ≤ (k : Int) by omega) (by omega), if_neg (by omega), Int.toNat_natCast, hxg])
    ·intro hc; try simp at hc
     all_goals try (exfalso; omega; done)
     all_goals (
      refine AW.exitN (fun _ h => h) ?_
      refine AW.seq ?_
      refine rg [0,1,44] ?_
      intro k hk; simp -dsimp [go_sem, -decide_eq_true_eq, -decide_eq_false_iff_not, hw1, hdl, htl]
      repeat' first | apply And.intro | refine hk _ ?_ | intro hg | omega | exact True.intro
      all_goals clear hk k
      refine AW.cond rfl ?_ ?_
      ·intro hc; try simp at hc
       all_goals try (exfalso; omega; done)
       all_goals (
        refine AW.fold (nd := ?nd_5) (c := ?c_5) (l := ?l_5) (es := ?es_5) (n := ?n_5) 1900 0 0 7001 ?h1_5 ?h2_5 ?h4_5 ?h3_5 ?hn_5 (by decide) ?h6_5 ?kk_5
        (case h1_5 => exact rfl)
        (case h2_5 => exact rfl)
        (case h4_5 => exact rfl)
        (case h3_5 => exact rfl)
        (case hn_5 => simp [hdl])
        (case h6_5 => simp [go_sem, hdl])
        refine AW.fold (nd := ?nd_6) (c := ?c_6) (l := ?l_6) (es := ?es_6) (n := ?n_6) 1900 0 1 7002 ?h1_6 ?h2_6 ?h4_6 ?h3_6 ?hn_6 (by decide) ?h6_6 ?kk_6
        (case h1_6 => exact rfl)
        (case h2_6 => exact rfl)
        (case h4_6 => exact rfl)
        (case h3_6 => exact rfl)
        (case hn_6 => simp [hdl])
        (case h6_6 => simp [go_sem, hdl])
        have hup : upB l ((l.length : Int) - 1) par = false := by rw [← hinv]; exact upB_lt hl l.length a (by omega) (by omega) (by omega)
        have hp1 : parF l par = 1 := by unfold parF; rw [if_neg (by omega), if_pos ⟨hlp, hup⟩]
        refine rg [0,4] ?_
        intro k hk; simp -dsimp [go_sem, -decide_eq_true_eq, -decide_eq_false_iff_not, hw1, hdl, htl]
        repeat' first | apply And.intro | refine hk _ ?_ | intro hg | omega | exact True.intro
        all_goals clear hk k
        refine rt ?_
        first | (simp [go_sem, Tryz.results114, nxtL, nxtD, hp3, hnl, hnd]; done) | (simp [go_sem, Tryz.results114, nxtL, nxtD, hp1, hnl, hnd]; done) | (simp [go_sem, Tryz.results114, hb, hnl2, hnd2, hp0, hnl, hnd, htl]; done))
      ·intro hc; try simp at hc
       all_goals try (exfalso; omega; done)
       all_goals (
        refine AW.skipN (fun _ h => h) ?_
        have hpa : a = par := by first | assumption | omega
        have hup : upB l ((l.length : Int) - 1) par = true := by rw [← hinv, upB_eq hl (by omega) (by omega), if_pos hpa]
        have hp0 : parF l par = 0 := by unfold parF; rw [if_neg (by omega), if_neg (by rw [hup]; simp)]
        refine rg [0,1,7] ?_
        intro k hk; simp -dsimp [go_sem, -decide_eq_true_eq, -decide_eq_false_iff_not, hw1, hdl, htl]
        repeat' first | apply And.intro | refine hk _ ?_ | intro hg | omega | exact True.intro
        all_goals clear hk k
        refine AW.seq ?_
        refine rg [0,1,7,46] ?_
        intro k hk; simp -dsimp [go_sem, -decide_eq_true_eq, -decide_eq_false_iff_not, hw1, hdl, htl]
        repeat' first | apply And.intro | refine hk _ ?_ | intro hg | omega | exact True.intro
        all_goals clear hk k
        refine AW.cond rfl ?_ ?_
        ·intro hc; try simp at hc
         all_goals try (exfalso; omega; done)
         all_goals (
          obtain ⟨b, hb⟩ : ∃ b : Nat, par = b := ⟨_, (Int.toNat_of_nonneg hpr.1).symm⟩
          have hdb : d[b]? = some (dep l b) := by rw [hd]; exact depsOf_at (by omega)
          have hds := dep_small hl (a := (b : Int)) (by omega)
          have hw2 : IntKind.wrap .i64 (dep l b + 1) = dep l b + 1 := wrap64 (by omega) (by omega)
          have hdg : d.getD b 0 = dep l b := by rw [List.getD, hdb]; rfl
          have hnl2 : nxtL l par = l ++ [par] := nxtL_app hp0
          have hnd2 : nxtD l d par = d ++ [dep l b + 1] := by rw [nxtD, if_pos hp0, if_pos hpr.1, hb, Int.toNat_natCast, hdg]
          rw [hb] at hnl2 hnd2 hp0
          refine rgN [0,1,7] (fun _ h => h) ?_
          intro k hk; simp -dsimp (maxSteps := 2000000) [go_sem, -decide_eq_true_eq, -decide_eq_false_iff_not, hw1, hdl, htl, hb, hdb, hw2]
          repeat' first | apply And.intro | refine hk _ ?_ | intro hg | omega | exact True.intro
          all_goals clear hk k
          refine rg [0] ?_
          intro k hk; simp -dsimp (maxSteps := 2000000) [go_sem, -decide_eq_true_eq, -decide_eq_false_iff_not, hw1, hdl, htl]
          repeat' first | (refine Chk.keys ?_; simp only [go_sem, List.map_cons, List.map_nil, List.flatMap_cons, List.flatMap_nil, List.flatMap_append, List.append_nil, List.nil_append, List.cons_append]; decide +kernel) | apply And.intro | refine hk _ ?_ | intro hg | omega | exact True.intro
          all_goals clear hk k
          refine AW.fold (nd := ?nd_7) (c := ?c_7) (l := ?l_7) (es := ?es_7) (n := ?n_7) 1900 0 0 63 ?h1_7 ?h2_7 ?h4_7 ?h3_7 ?hn_7 (by decide) ?h6_7 ?kk_7
          (case h1_7 => exact rfl)
          (case h2_7 => exact rfl)
          (case h4_7 => exact rfl)
          (case h3_7 => exact rfl)
          (case hn_7 => simp [hdl])
          (case h6_7 => simp [go_sem, hdl])
          refine AW.fold (nd := ?nd_8) (c := ?c_8) (l := ?l_8) (es := ?es_8) (n := ?n_8) 1900 0 1 70 ?h1_8 ?h2_8 ?h4_8 ?h3_8 ?hn_8 (by decide) ?h6_8 ?kk_8
          (case h1_8 => exact rfl)
          (case h2_8 => exact rfl)
          (case h4_8 => exact rfl)
          (case h3_8 => exact rfl)
          (case hn_8 => simp [hdl])
          (case h6_8 => simp [go_sem, hdl])
          refine rg [0,4] ?_
          intro k hk; simp -dsimp [go_sem, -decide_eq_true_eq, -decide_eq_false_iff_not, hw1, hdl, htl]
          repeat' first | apply And.intro | refine hk _ ?_ | intro hg | omega | exact True.intro
          all_goals clear hk k
          refine rt ?_
          first | (simp [go_sem, Tryz.results114, nxtL, nxtD, hp3, hnl, hnd]; done) | (simp [go_sem, Tryz.results114, nxtL, nxtD, hp1, hnl, hnd]; done) | (simp [go_sem, Tryz.results114, hb, hnl2, hnd2, hp0, hnl, hnd, htl]; done))
        ·intro hc; try simp at hc
         all_goals try (exfalso; omega; done)
         all_goals (
          refine AW.skipN (fun _ h => h) ?_
          refine rg [0] ?_
          intro k hk; simp -dsimp (maxSteps := 2000000) [go_sem, -decide_eq_true_eq, -decide_eq_false_iff_not, hw1, hdl, htl]
          repeat' first | (refine Chk.keys ?_; simp only [go_sem, List.map_cons, List.map_nil, List.flatMap_cons, List.flatMap_nil, List.flatMap_append, List.append_nil, List.nil_append, List.cons_append]; decide +kernel) | apply And.intro | refine hk _ ?_ | intro hg | omega | exact True.intro
          all_goals clear hk k
          refine AW.fold (nd := ?nd_9) (c := ?c_9) (l := ?l_9) (es := ?es_9) (n := ?n_9) 1900 0 0 63 ?h1_9 ?h2_9 ?h4_9 ?h3_9 ?hn_9 (by decide) ?h6_9 ?kk_9
          (case h1_9 => exact rfl)
          (case h2_9 => exact rfl)
          (case h4_9 => exact rfl)
          (case h3_9 => exact rfl)
          (case hn_9 => simp [hdl])
          (case h6_9 => simp [go_sem, hdl])
          refine AW.fold (nd := ?nd_10) (c := ?c_10) (l := ?l_10) (es := ?es_10) (n := ?n_10) 1900 0 1 70 ?h1_10 ?h2_10 ?h4_10 ?h3_10 ?hn_10 (by decide) ?h6_10 ?kk_10
          (case h1_10 => exact rfl)
          (case h2_10 => exact rfl)
          (case h4_10 => exact rfl)
          (case h3_10 => exact rfl)
          (case hn_10 => simp [hdl])
          (case h6_10 => simp [go_sem, hdl])
          refine rg [0,4] ?_
          intro k hk; simp -dsimp [go_sem, -decide_eq_true_eq, -decide_eq_false_iff_not, hw1, hdl, htl]
          repeat' first | apply And.intro | refine hk _ ?_ | intro hg | omega | exact True.intro
          all_goals clear hk k
          refine rt ?_
          first | (simp [go_sem, Tryz.results114, nxtL, nxtD, hp3, hnl, hnd]; done) | (simp [go_sem, Tryz.results114, nxtL, nxtD, hp1, hnl, hnd]; done) | (simp [go_sem, Tryz.results114, hb, hnl2, hnd2, hp0, hnl, hnd, htl]; done)))))
theorem dc_parents_next (l d : List Int) (par : Int) (hl : ParOk l) (hd : d = depsOf l) (h24 : l.length ≤ 24) : DC Tryz.prog 114 [.op [nlc 1 (l.map I1), nlc 1 (d.map I1)], .int .i64 par] (.int .i64 (parF l par)) [(0, .op [nlc 1 ((nxtL l par).map I1), nlc 1 ((nxtD l d par).map I1)])] := by
  by_cases hn : l = []
  · subst hn; subst hd; exact dc_impl_parents_next_z par
  · have hdl : d.length = l.length := by rw [hd]; exact depsOf_len l
    rw [nlc_map hn, nlc_map (l := d) (by intro h; rw [h] at hdl; exact hn (List.eq_nil_of_length_eq_zero hdl.symm))]
    exact dc_impl_parents_next_s l d par hl hd hn h24

/-- (*impl.parents).last -/
theorem dc_impl_parents_last (L D : List (List AV)) (v : Int) (hD : D.length ≤ 1000) : DC Tryz.prog 115 [.ip [.isl 1 L, .isl 1 (D ++ [[.int .i64 v]])]] (.int .i64 v) [] := by
 have hw1 : IntKind.wrap .i64 (D.length : Int) = (D.length : Int) := wrap64 (by omega) (by omega)
 have hat : (D ++ [[AV.int .i64 v]])[D.length]? = some [AV.int .i64 v] := List.getElem?_concat_length
 refine DC.intro tiOk Tryz.func115 rfl rfl rfl rfl rfl rfl rfl rfl [] ?_
 refine rg [0] ?_
 intro k hk; simp -dsimp [go_sem, -decide_eq_true_eq, -decide_eq_false_iff_not, hw1, hat]
 repeat' first | apply And.intro | refine hk _ ?_ | intro hg | omega | exact True.intro
 all_goals clear hk k
 refine rg [2] ?_
 intro k hk; simp -dsimp (maxSteps := 2000000) [go_sem, -decide_eq_true_eq, -decide_eq_false_iff_not, hw1, hat]
 repeat' first | (refine Chk.keys ?_; simp only [go_sem, List.map_cons, List.map_nil, List.flatMap_cons, List.flatMap_nil, List.flatMap_append, List.append_nil, List.nil_append, List.cons_append]; decide +kernel) | apply And.intro | refine hk _ ?_ | intro hg | omega | exact True.intro
 all_goals clear hk k
 refine rt ?_
 simp [go_sem, Tryz.results115]

end Go.AM
namespace Go.AM
open Go.Proofs

/-- impl.kids -/
theorem dc_impl_kids (p : List TStep) (a : Int) (hp : p.length ≤ 24) : DC Tryz.prog 119 [.isl 6 (p.map TStep.ro), .int .i64 a] (.osl 1 ((kids p a).map I1)) [] := by
 refine DC.intro tiOk Tryz.func119 rfl rfl rfl rfl rfl rfl rfl rfl [1000] ?_
 refine rgA [0,1] ?_
 refine rgA [0,1,5] ?_
 refine AW.seq ?_
 refine rgA [1,5,9,10,11] ?_
 refine AW.block ?_
 refine AW.rename (nd := ?nd_1) 8 27 ?h1_1 ?h2_1 ?h4_1 ?kk_1
 (case h1_1 => exact rfl)
 (case h2_1 => simp [go_sem])
 (case h4_1 => simp [go_sem])
 refine AW.loopI (fun i : Nat => ⟨30, [(1, .int .i64 a), (5, .sl 27 1 0 (kidU p a i).length), (9, .isl 6 (p.map TStep.ro)), (10, .int .i64 p.length), (11, .int .i64 i)], [(27, some ⟨1, (kidU p a i).map I1⟩)]⟩) (fun i => i ≤ p.length) (fun i => p.length - i) (0) (by simp) (Less.of rfl (by simp [go_sem, kidU]) (by simp [go_sem, kidU])) ?_
 rintro i hi
 refine AW.rename (nd := ?nd_2) 27 8 ?h1_2 ?h2_2 ?h4_2 ?kk_2
 (case h1_2 => exact rfl)
 (case h2_2 => simp [go_sem])
 (case h4_2 => simp [go_sem])
 refine rgA [1,5,9,10,11,12] ?_
 refine AW.seq ?_
 refine AW.cond rfl ?_ ?_
 ·intro hc; try simp at hc
  all_goals (
   have hlt : i < p.length := by assumption
   obtain ⟨x, hx⟩ := at_some hlt
   have hkl := kidU_len p a i
   refine AW.skipN (fun _ h => h) ?_
   refine AW.seq ?_
   refine AW.block ?_
   refine rg [1,5,6,7,9,10,11] ?_
   intro k hk; simp -dsimp [go_sem, -decide_eq_true_eq, -decide_eq_false_iff_not, hx]
   repeat' first | apply And.intro | refine hk _ ?_ | intro hg | omega | exact True.intro
   all_goals clear hk k
   refine AW.cut ⟨30, [(1, .int .i64 a), (5, .sl 8 1 0 (kidU p a i).length), (6, .int .i64 i), (9, .isl 6 (p.map TStep.ro)), (10, .int .i64 p.length), (11, .int .i64 i), (23, .bool (decide (0 < i ∧ x.par = a)))], [(8, some ⟨1, (kidU p a i).map I1⟩)]⟩ ?_ ?_
   ·skip
    refine rgK ?_
    intro k hk; simp +contextual -dsimp (maxSteps := 2000000) [go_sem, -decide_eq_true_eq, -decide_eq_false_iff_not, hx]
    repeat' first | apply And.intro | refine hk _ ?_ | (intro hg; try simp only [decide_eq_true_eq, decide_eq_false_iff_not] at hg) | omega | exact True.intro
    all_goals clear hk k
    all_goals (show St.Less _ _; exact Less.of rfl (by simp [go_sem] <;> first | omega | grind) (by simp [go_sem]))
   ·skip
    refine AW.cond rfl ?_ ?_
    ·intro hc; try simp at hc
     all_goals (
      have hks := kidU_yes hx (by simpa using hc)
      refine rgN [1,5,9,10,11] (fun _ h => h) ?_
      intro k hk; simp -dsimp [go_sem, -decide_eq_true_eq, -decide_eq_false_iff_not, hx]
      repeat' first | apply And.intro | refine hk _ ?_ | intro hg | omega | exact True.intro
      all_goals clear hk k
      try (have hks := kidU_not hx (by simpa using hc))
      try (refine AW.rename (nd := ?nd_3) 8 27 ?h1_3 ?h2_3 ?h4_3 ?kk_3; (case h1_3 => exact rfl); (case h2_3 => simp [go_sem]); (case h4_3 => simp [go_sem]))
      refine rgK ?_
      intro k hk; simp -dsimp [go_sem, -decide_eq_true_eq, -decide_eq_false_iff_not, hx]
      repeat' first | apply And.intro | refine hk _ ?_ | intro hg | omega | exact True.intro
      all_goals clear hk k
      show ∃ _, _
      have hw := wrapi hlt (by omega)
      refine ⟨i + 1, by omega, by omega, Less.of rfl (by simp [go_sem, hw, hks] <;> omega) (by simp [go_sem, hks])⟩)
    ·intro hc; try simp at hc
     all_goals (
      refine AW.skipN (fun _ h => h) ?_
      try (have hks := kidU_not hx (by simpa using hc))
      try (refine AW.rename (nd := ?nd_4) 8 27 ?h1_4 ?h2_4 ?h4_4 ?kk_4; (case h1_4 => exact rfl); (case h2_4 => simp [go_sem]); (case h4_4 => simp [go_sem]))
      refine rgK ?_
      intro k hk; simp -dsimp [go_sem, -decide_eq_true_eq, -decide_eq_false_iff_not, hx]
      repeat' first | apply And.intro | refine hk _ ?_ | intro hg | omega | exact True.intro
      all_goals clear hk k
      show ∃ _, _
      have hw := wrapi hlt (by omega)
      refine ⟨i + 1, by omega, by omega, Less.of rfl (by simp [go_sem, hw, hks] <;> omega) (by simp [go_sem, hks])⟩))
 ·intro hc; try simp at hc
  all_goals (
   refine AW.exitN (fun _ h => h) ?_
   refine rgA [4] ?_
   refine rt ?_
   rw [kids_end (by omega)]; simp [go_sem, Tryz.results119])

/-- spec.l4Kids -/
theorem dc_spec_l4Kids (p : List TStep) (a : Int) (hp : p.length ≤ 24) (h0 : (nS p 0).par ≠ a) : DC Tryz.prog 90 [.isl 6 (p.map TStep.ro), .int .i64 a] (.osl 1 ((kids p a).map I1)) [] := by
 refine DC.intro tiOk Tryz.func90 rfl rfl rfl rfl rfl rfl rfl rfl [1000] ?_
 refine rgA [0,1] ?_
 refine rgA [0,1,5] ?_
 refine AW.seq ?_
 refine rgA [0,1,5,6] ?_
 refine AW.block ?_
 refine AW.rename (nd := ?nd_1) 7 24 ?h1_1 ?h2_1 ?h4_1 ?kk_1
 (case h1_1 => exact rfl)
 (case h2_1 => simp [go_sem])
 (case h4_1 => simp [go_sem])
 refine AW.loopI (fun i : Nat => ⟨26, [(0, .isl 6 (p.map TStep.ro)), (1, .int .i64 a), (5, .sl 24 1 0 (kidU p a i).length), (6, .int .i64 i)], [(24, some ⟨1, (kidU p a i).map I1⟩)]⟩) (fun i => i ≤ p.length) (fun i => p.length - i) (0) (by simp) (Less.of rfl (by simp [go_sem, kidU]) (by simp [go_sem, kidU])) ?_
 rintro i hi
 refine AW.rename (nd := ?nd_2) 24 7 ?h1_2 ?h2_2 ?h4_2 ?kk_2
 (case h1_2 => exact rfl)
 (case h2_2 => simp [go_sem])
 (case h4_2 => simp [go_sem])
 refine AW.seq ?_
 refine rgA [0,1,5,6,11] ?_
 refine AW.cond rfl ?_ ?_
 ·intro hc; try simp at hc
  all_goals (
   have hlt : i < p.length := by assumption
   obtain ⟨x, hx⟩ := at_some hlt
   have hi0 : x.par = a → 0 < i := fun h => by rcases Nat.eq_zero_or_pos i with h1 | h1; (exfalso; subst h1; rw [nS_at hx] at h0; exact h0 h); exact h1
   have hkl := kidU_len p a i
   refine AW.skipN (fun _ h => h) ?_
   refine AW.seq ?_
   refine AW.block ?_
   refine rg [0,1,5,6,20] ?_
   intro k hk; simp -dsimp (maxSteps := 2000000) [go_sem, -decide_eq_true_eq, -decide_eq_false_iff_not, hx]
   repeat' first | apply And.intro | refine hk _ ?_ | intro hg | omega | exact True.intro
   all_goals clear hk k
   refine AW.cond rfl ?_ ?_
   ·intro hc; try simp at hc
    all_goals (
     have hxa : x.par = a := by simpa using hc
     have hks := kidU_yes hx ⟨hi0 hxa, hxa⟩
     refine rgN [0,1,5,6] (fun _ h => h) ?_
     intro k hk; simp -dsimp [go_sem, -decide_eq_true_eq, -decide_eq_false_iff_not, hx]
     repeat' first | apply And.intro | refine hk _ ?_ | intro hg | omega | exact True.intro
     all_goals clear hk k
     try (have hks := kidU_not hx (fun h => absurd h.2 (by simpa using hc)))
     try (refine AW.rename (nd := ?nd_3) 7 24 ?h1_3 ?h2_3 ?h4_3 ?kk_3; (case h1_3 => exact rfl); (case h2_3 => simp [go_sem]); (case h4_3 => simp [go_sem]))
     refine rgK ?_
     intro k hk; simp -dsimp [go_sem, -decide_eq_true_eq, -decide_eq_false_iff_not, hx]
     repeat' first | apply And.intro | refine hk _ ?_ | intro hg | omega | exact True.intro
     all_goals clear hk k
     show ∃ _, _
     have hw := wrapi hlt (by omega)
     refine ⟨i + 1, by omega, by omega, Less.of rfl (by simp [go_sem, hw, hks] <;> omega) (by simp [go_sem, hks])⟩)
   ·intro hc; try simp at hc
    all_goals (
     refine AW.skipN (fun _ h => h) ?_
     try (have hks := kidU_not hx (fun h => absurd h.2 (by simpa using hc)))
     try (refine AW.rename (nd := ?nd_4) 7 24 ?h1_4 ?h2_4 ?h4_4 ?kk_4; (case h1_4 => exact rfl); (case h2_4 => simp [go_sem]); (case h4_4 => simp [go_sem]))
     refine rgK ?_
     intro k hk; simp -dsimp [go_sem, -decide_eq_true_eq, -decide_eq_false_iff_not, hx]
     repeat' first | apply And.intro | refine hk _ ?_ | intro hg | omega | exact True.intro
     all_goals clear hk k
     show ∃ _, _
     have hw := wrapi hlt (by omega)
     refine ⟨i + 1, by omega, by omega, Less.of rfl (by simp [go_sem, hw, hks] <;> omega) (by simp [go_sem, hks])⟩))
 ·intro hc; try simp at hc
  all_goals (
   refine AW.exitN (fun _ h => h) ?_
   refine rgA [4] ?_
   refine rt ?_
   rw [kids_end (by omega)]; simp [go_sem, Tryz.results90])

end Go.AM
namespace Go.AM
open Go.Proofs

/-- impl.wantsCond -/
theorem dc_impl_wantsCond_z (p : List TStep) (ho : StepsOk p) : DC Tryz.prog 120 [.isl 6 (p.map TStep.ro), .int .i64 0] (.bool (wants p 0)) [] := by
 have hi : 0 < p.length := by have := ho.len; omega
 have hlen := ho.len
 obtain ⟨x, hx⟩ := at_some hi
 have hxS := nS_at hx
 have hx0 := ho.par0
 rw [hxS] at hx0
 refine DC.intro tiOk Tryz.func120 rfl rfl rfl rfl rfl rfl rfl rfl [] ?_
 refine rg [0,1] ?_
 intro k hk; simp -dsimp [go_sem, -decide_eq_true_eq, -decide_eq_false_iff_not, hx, hx0]
 repeat' first | apply And.intro | refine hk _ ?_ | intro hg | omega | exact True.intro
 all_goals clear hk k
 refine rg [0,1,5] ?_
 intro k hk; simp -dsimp [go_sem, -decide_eq_true_eq, -decide_eq_false_iff_not, hx, hx0]
 repeat' first | apply And.intro | refine hk _ ?_ | intro hg | omega | exact True.intro
 all_goals clear hk k
 refine AW.seq ?_
 refine rg [0,1,5,21] ?_
 intro k hk; simp +contextual -dsimp (maxSteps := 2000000) [go_sem, -decide_eq_true_eq, -decide_eq_false_iff_not, hx, hx0]
 repeat' first | apply And.intro | refine hk _ ?_ | (intro hg; try simp only [decide_eq_true_eq, decide_eq_false_iff_not] at hg) | omega | exact True.intro
 all_goals clear hk k
 all_goals (
  refine AW.cond rfl ?_ ?_
  ·intro hc; try simp at hc
   all_goals try (exfalso; first | omega | (simp at hc; done); done)
   all_goals (
    refine rg [4] ?_
    intro k hk; simp -dsimp [go_sem, -decide_eq_true_eq, -decide_eq_false_iff_not, hx, hx0]
    repeat' first | apply And.intro | refine hk _ ?_ | intro hg | omega | exact True.intro
    all_goals clear hk k
    refine rt ?_
    simp [go_sem, Tryz.results120, wants])
  ·intro hc; try simp at hc
   all_goals try (exfalso; first | omega | (simp at hc; done); done)
   all_goals (
    refine AW.skipN (fun _ h => h) ?_
    refine rg [1,6] ?_
    intro k hk; simp -dsimp (maxSteps := 2000000) [go_sem, -decide_eq_true_eq, -decide_eq_false_iff_not, hx, hx0]
    repeat' first | apply And.intro | refine hk _ ?_ | intro hg | (refine CallK.intro (fail) ?_; simp -dsimp (maxSteps := 2000000) [go_sem, -decide_eq_true_eq, -decide_eq_false_iff_not, hx, hx0]) | omega | exact True.intro
    all_goals clear hk k
    refine rg [4] ?_
    intro k hk; simp -dsimp (maxSteps := 2000000) [go_sem, -decide_eq_true_eq, -decide_eq_false_iff_not, hx, hx0]
    repeat' first | apply And.intro | refine hk _ ?_ | intro hg | omega | exact True.intro
    all_goals clear hk k
    refine rt ?_
    simp [go_sem, Tryz.results120, wants]))

/-- impl.wantsCond -/
theorem dc_impl_wantsCond_s (p : List TStep) (ho : StepsOk p) (i : Nat) (hi : i < p.length) (hi0 : 0 < i) : DC Tryz.prog 120 [.isl 6 (p.map TStep.ro), .int .i64 (i : Nat)] (.bool (wants p i)) [] := by
 have hlen := ho.len
 obtain ⟨x, hx⟩ := at_some hi
 have hxS := nS_at hx
 have hpi := ho.parI hi0 hi
 rw [hxS] at hpi
 obtain ⟨a, ha⟩ : ∃ a : Nat, x.par = a := ⟨_, (Int.toNat_of_nonneg hpi.1).symm⟩
 obtain ⟨y, hy⟩ := at_some (l := p) (show a < p.length by omega)
 have hyS := nS_at hy
 have hdi : decide ((i : Int) = 0) = false := decide_eq_false (by omega)
 have hdi2 : ((i : Int) = 0) = False := eq_false (by omega)
 have hdj : (i = 0) = False := eq_false (by omega)
 have hkn := ho.kids_ne hi0 hi
 rw [hxS, ha] at hkn
 have hkl := last_at hkn
 have hkm := kids_len p (a : Int)
 have hkp := List.length_pos_iff.2 hkn
 have hwl : IntKind.wrap .i64 (((kids p a).length : Int) - 1) = ((kids p a).length : Int) - 1 := wrap64 (by omega) (by omega)
 have hwt : (((kids p a).length : Int) - 1).toNat = (kids p a).length - 1 := by omega
 refine DC.intro tiOk Tryz.func120 rfl rfl rfl rfl rfl rfl rfl rfl [] ?_
 refine rg [0,1] ?_
 intro k hk; simp -dsimp [go_sem, -decide_eq_true_eq, -decide_eq_false_iff_not, hx, hy, ha, hdi, hdi2]
 repeat' first | apply And.intro | refine hk _ ?_ | intro hg | omega | exact True.intro
 all_goals clear hk k
 refine rg [0,1,5] ?_
 intro k hk; simp -dsimp [go_sem, -decide_eq_true_eq, -decide_eq_false_iff_not, hx, hy, ha, hdi, hdi2]
 repeat' first | apply And.intro | refine hk _ ?_ | intro hg | omega | exact True.intro
 all_goals clear hk k
 refine AW.seq ?_
 refine rg [0,1,5,21] ?_
 intro k hk; simp +contextual -dsimp (maxSteps := 2000000) [go_sem, -decide_eq_true_eq, -decide_eq_false_iff_not, hx, hy, ha, hdi, hdi2]
 repeat' first | apply And.intro | refine hk _ ?_ | (intro hg; try simp only [decide_eq_true_eq, decide_eq_false_iff_not] at hg) | omega | exact True.intro
 all_goals clear hk k
 all_goals (
  refine AW.cond rfl ?_ ?_
  ·intro hc; try simp at hc
   all_goals try (exfalso; omega; done)
   all_goals (
    refine rg [4] ?_
    intro k hk; simp -dsimp [go_sem, -decide_eq_true_eq, -decide_eq_false_iff_not, hx, hy, ha, hdi, hdi2]
    repeat' first | apply And.intro | refine hk _ ?_ | intro hg | omega | exact True.intro
    all_goals clear hk k
    refine rt ?_
    simp [go_sem, Tryz.results120, wants, hxS, hyS, ha, hdj, hdi2] <;> grind)
  ·intro hc; try simp at hc
   all_goals try (exfalso; omega; done)
   all_goals (
    refine AW.skipN (fun _ h => h) ?_
    refine rg [1,6] ?_
    intro k hk; simp -dsimp (maxSteps := 2000000) [go_sem, -decide_eq_true_eq, -decide_eq_false_iff_not, hx, hy, ha, hdi, hdi2]
    repeat' first | apply And.intro | refine hk _ ?_ | intro hg | (refine CallK.intro (dc_impl_kids p (a : Int) (by omega)) ?_; simp -dsimp (maxSteps := 2000000) [go_sem, -decide_eq_true_eq, -decide_eq_false_iff_not, hx, hy, ha, hdi, hdi2]) | omega | exact True.intro
    all_goals clear hk k
    refine rg [4] ?_
    intro k hk; simp -dsimp (maxSteps := 2000000) [go_sem, -decide_eq_true_eq, -decide_eq_false_iff_not, hx, hy, ha, hdi, hdi2, hkl, hwl, hwt]
    repeat' first | apply And.intro | refine hk _ ?_ | intro hg | omega | exact True.intro
    all_goals clear hk k
    refine rt ?_
    simp [go_sem, Tryz.results120, wants, hxS, hyS, ha, hdj, hdi2] <;> grind))
theorem dc_impl_wantsCond (p : List TStep) (ho : StepsOk p) (i : Nat) (hi : i < p.length) : DC Tryz.prog 120 [.isl 6 (p.map TStep.ro), .int .i64 (i : Nat)] (.bool (wants p i)) [] := by
  rcases Nat.eq_zero_or_pos i with h | h
  · subst h; exact dc_impl_wantsCond_z p ho
  · exact dc_impl_wantsCond_s p ho i hi h

/-- spec.l4Needs -/
theorem dc_spec_l4Needs_z (p : List TStep) (ho : StepsOk p) : DC Tryz.prog 110 [.isl 6 (p.map TStep.ro), .int .i64 0] (.bool (wants p 0)) [] := by
 have hi : 0 < p.length := by have := ho.len; omega
 have hlen := ho.len
 obtain ⟨x, hx⟩ := at_some hi
 have hxS := nS_at hx
 have hx0 := ho.par0
 rw [hxS] at hx0
 refine DC.intro tiOk Tryz.func110 rfl rfl rfl rfl rfl rfl rfl rfl [] ?_
 refine rg [0,1] ?_
 intro k hk; simp -dsimp [go_sem, -decide_eq_true_eq, -decide_eq_false_iff_not, hx, hx0]
 repeat' first | apply And.intro | refine hk _ ?_ | intro hg | omega | exact True.intro
 all_goals clear hk k
 refine rg [0,1,5] ?_
 intro k hk; simp -dsimp [go_sem, -decide_eq_true_eq, -decide_eq_false_iff_not, hx, hx0]
 repeat' first | apply And.intro | refine hk _ ?_ | intro hg | omega | exact True.intro
 all_goals clear hk k
 refine AW.seq ?_
 refine rg [0,1,5,21] ?_
 intro k hk; simp +contextual -dsimp (maxSteps := 2000000) [go_sem, -decide_eq_true_eq, -decide_eq_false_iff_not, hx, hx0]
 repeat' first | apply And.intro | refine hk _ ?_ | (intro hg; try simp only [decide_eq_true_eq, decide_eq_false_iff_not] at hg) | omega | exact True.intro
 all_goals clear hk k
 all_goals (
  refine AW.cond rfl ?_ ?_
  ·intro hc; try simp at hc
   all_goals try (exfalso; first | omega | (simp at hc; done); done)
   all_goals (
    refine rg [4] ?_
    intro k hk; simp -dsimp [go_sem, -decide_eq_true_eq, -decide_eq_false_iff_not, hx, hx0]
    repeat' first | apply And.intro | refine hk _ ?_ | intro hg | omega | exact True.intro
    all_goals clear hk k
    refine rt ?_
    simp [go_sem, Tryz.results110, wants])
  ·intro hc; try simp at hc
   all_goals try (exfalso; first | omega | (simp at hc; done); done)
   all_goals (
    refine AW.skipN (fun _ h => h) ?_
    refine rg [1,6] ?_
    intro k hk; simp -dsimp (maxSteps := 2000000) [go_sem, -decide_eq_true_eq, -decide_eq_false_iff_not, hx, hx0]
    repeat' first | apply And.intro | refine hk _ ?_ | intro hg | (refine CallK.intro (fail) ?_; simp -dsimp (maxSteps := 2000000) [go_sem, -decide_eq_true_eq, -decide_eq_false_iff_not, hx, hx0]) | omega | exact True.intro
    all_goals clear hk k
    refine rg [4] ?_
    intro k hk; simp -dsimp (maxSteps := 2000000) [go_sem, -decide_eq_true_eq, -decide_eq_false_iff_not, hx, hx0]
    repeat' first | apply And.intro | refine hk _ ?_ | intro hg | omega | exact True.intro
    all_goals clear hk k
    refine rt ?_
    simp [go_sem, Tryz.results110, wants]))

/-- spec.l4Needs -/
theorem dc_spec_l4Needs_s (p : List TStep) (ho : StepsOk p) (i : Nat) (hi : i < p.length) (hi0 : 0 < i) : DC Tryz.prog 110 [.isl 6 (p.map TStep.ro), .int .i64 (i : Nat)] (.bool (wants p i)) [] := by
 have hlen := ho.len
 obtain ⟨x, hx⟩ := at_some hi
 have hxS := nS_at hx
 have hpi := ho.parI hi0 hi
 rw [hxS] at hpi
 obtain ⟨a, ha⟩ : ∃ a : Nat, x.par = a := ⟨_, (Int.toNat_of_nonneg hpi.1).symm⟩
 obtain ⟨y, hy⟩ := at_some (l := p) (show a < p.length by omega)
 have hyS := nS_at hy
 have hdi : decide ((i : Int) = 0) = false := decide_eq_false (by omega)
 have hdi2 : ((i : Int) = 0) = False := eq_false (by omega)
 have hdj : (i = 0) = False := eq_false (by omega)
 have hkn := ho.kids_ne hi0 hi
 rw [hxS, ha] at hkn
 have hkl := last_at hkn
 have hkm := kids_len p (a : Int)
 have hkp := List.length_pos_iff.2 hkn
 have hwl : IntKind.wrap .i64 (((kids p a).length : Int) - 1) = ((kids p a).length : Int) - 1 := wrap64 (by omega) (by omega)
 have hwt : (((kids p a).length : Int) - 1).toNat = (kids p a).length - 1 := by omega
 refine DC.intro tiOk Tryz.func110 rfl rfl rfl rfl rfl rfl rfl rfl [] ?_
 refine rg [0,1] ?_
 intro k hk; simp -dsimp [go_sem, -decide_eq_true_eq, -decide_eq_false_iff_not, hx, hy, ha, hdi, hdi2]
 repeat' first | apply And.intro | refine hk _ ?_ | intro hg | omega | exact True.intro
 all_goals clear hk k
 refine rg [0,1,5] ?_
 intro k hk; simp -dsimp [go_sem, -decide_eq_true_eq, -decide_eq_false_iff_not, hx, hy, ha, hdi, hdi2]
 repeat' first | apply And.intro | refine hk _ ?_ | intro hg | omega | exact True.intro
 all_goals clear hk k
 refine AW.seq ?_
 refine rg [0,1,5,21] ?_
 intro k hk; simp +contextual -dsimp (maxSteps := 2000000) [go_sem, -decide_eq_true_eq, -decide_eq_false_iff_not, hx, hy, ha, hdi, hdi2]
 repeat' first | apply And.intro | refine hk _ ?_ | (intro hg; try simp only [decide_eq_true_eq, decide_eq_false_iff_not] at hg) | omega | exact True.intro
 all_goals clear hk k
 all_goals (
  refine AW.cond rfl ?_ ?_
  ·intro hc; try simp at hc
   all_goals try (exfalso; omega; done)
   all_goals (
    refine rg [4] ?_
    intro k hk; simp -dsimp [go_sem, -decide_eq_true_eq, -decide_eq_false_iff_not, hx, hy, ha, hdi, hdi2]
    repeat' first | apply And.intro | refine hk _ ?_ | intro hg | omega | exact True.intro
    all_goals clear hk k
    refine rt ?_
    simp [go_sem, Tryz.results110, wants, hxS, hyS, ha, hdj, hdi2] <;> grind)
  ·intro hc; try simp at hc
   all_goals try (exfalso; omega; done)
   all_goals (
    refine AW.skipN (fun _ h => h) ?_
    refine rg [1,6] ?_
    intro k hk; simp -dsimp (maxSteps := 2000000) [go_sem, -decide_eq_true_eq, -decide_eq_false_iff_not, hx, hy, ha, hdi, hdi2]
    repeat' first | apply And.intro | refine hk _ ?_ | intro hg | (refine CallK.intro (dc_spec_l4Kids p (a : Int) (by omega) (by rw [ho.par0]; omega)) ?_; simp -dsimp (maxSteps := 2000000) [go_sem, -decide_eq_true_eq, -decide_eq_false_iff_not, hx, hy, ha, hdi, hdi2]) | omega | exact True.intro
    all_goals clear hk k
    refine rg [4] ?_
    intro k hk; simp -dsimp (maxSteps := 2000000) [go_sem, -decide_eq_true_eq, -decide_eq_false_iff_not, hx, hy, ha, hdi, hdi2, hkl, hwl, hwt]
    repeat' first | apply And.intro | refine hk _ ?_ | intro hg | omega | exact True.intro
    all_goals clear hk k
    refine rt ?_
    simp [go_sem, Tryz.results110, wants, hxS, hyS, ha, hdj, hdi2] <;> grind))
theorem dc_spec_l4Needs (p : List TStep) (ho : StepsOk p) (i : Nat) (hi : i < p.length) : DC Tryz.prog 110 [.isl 6 (p.map TStep.ro), .int .i64 (i : Nat)] (.bool (wants p i)) [] := by
  rcases Nat.eq_zero_or_pos i with h | h
  · subst h; exact dc_spec_l4Needs_z p ho
  · exact dc_spec_l4Needs_s p ho i hi h

end Go.AM
namespace Go.AM
open Go.Proofs

/-- impl.isTwo -/
theorem dc_impl_isTwo (k : Int) : DC Tryz.prog 132 [.int .i64 k] (.bool (isTwoB k)) [] := by
 refine DC.intro tiOk Tryz.func132 rfl rfl rfl rfl rfl rfl rfl rfl [] ?_
 refine rgA [0] ?_
 refine rg [2] ?_
 intro k hk; simp -dsimp (maxSteps := 2000000) [go_sem, -decide_eq_true_eq, -decide_eq_false_iff_not]
 repeat' first | apply And.intro | refine hk _ ?_ | intro hg | (refine CallK.intro (dc_impl_inRange _ _ _) ?_; simp -dsimp (maxSteps := 2000000) [go_sem, -decide_eq_true_eq, -decide_eq_false_iff_not]) | omega | exact True.intro
 all_goals clear hk k
 refine rt ?_
 simp [go_sem, Tryz.results132, isTwoB]

/-- spec.l3Two -/
theorem dc_spec_l3Two (k : Int) : DC Tryz.prog 135 [.int .i64 k] (.bool (isTwoB k)) [] := by
 refine DC.intro tiOk Tryz.func135 rfl rfl rfl rfl rfl rfl rfl rfl [] ?_
 refine rgA [0] ?_
 refine rg [2] ?_
 intro k hk; simp -dsimp (maxSteps := 2000000) [go_sem, -decide_eq_true_eq, -decide_eq_false_iff_not]
 repeat' first | apply And.intro | refine hk _ ?_ | intro hg | (refine CallK.intro (dc_spec_l1In _ _ _) ?_; simp -dsimp (maxSteps := 2000000) [go_sem, -decide_eq_true_eq, -decide_eq_false_iff_not]) | omega | exact True.intro
 all_goals clear hk k
 refine rt ?_
 simp [go_sem, Tryz.results135, isTwoB]

/-- impl.nodeFault -/
theorem dc_impl_nodeFault (n : TNode) (a : Int) (ha : 0 ≤ a ∧ a ≤ 1048576) : DC Tryz.prog 131 [.agg n.ro, .int .i64 a] (.int .i64 (nodeF n a)) [] := by
 have hw : IntKind.wrap .i64 (a - 1) = a - 1 := wrap64 (by omega) (by omega)
 refine DC.intro tiOk Tryz.func131 rfl rfl rfl rfl rfl rfl rfl rfl [] ?_
 refine rg [1,2] ?_
 intro k hk; simp -dsimp [go_sem, -decide_eq_true_eq, -decide_eq_false_iff_not, hw]
 repeat' first | apply And.intro | refine hk _ ?_ | intro hg | omega | exact True.intro
 all_goals clear hk k
 refine AW.seq ?_
 refine AW.block ?_
 refine rg [1,2,6] ?_
 intro k hk; simp +contextual -dsimp (maxSteps := 2000000) [go_sem, -decide_eq_true_eq, -decide_eq_false_iff_not, hw]
 repeat' first | apply And.intro | refine hk _ ?_ | (intro hg; try simp only [decide_eq_true_eq, decide_eq_false_iff_not] at hg) | omega | exact True.intro
 all_goals clear hk k
 all_goals (
  refine AW.cond rfl ?_ ?_
  ·intro hc; try simp at hc
   all_goals try (exfalso; omega; done)
   all_goals (
    refine rg [2,5] ?_
    intro k hk; simp -dsimp [go_sem, -decide_eq_true_eq, -decide_eq_false_iff_not, hw]
    repeat' first | apply And.intro | refine hk _ ?_ | intro hg | omega | exact True.intro
    all_goals clear hk k
    refine AW.seq ?_
    refine rg [2,5,17] ?_
    intro k hk; simp -dsimp [go_sem, -decide_eq_true_eq, -decide_eq_false_iff_not, hw]
    repeat' first | apply And.intro | refine hk _ ?_ | intro hg | omega | exact True.intro
    all_goals clear hk k
    refine AW.cond rfl ?_ ?_
    ·intro hc; try simp at hc
     all_goals try (exfalso; omega; done)
     all_goals (
      refine rgN [2,5] (fun _ h => h) ?_
      intro k hk; simp -dsimp [go_sem, -decide_eq_true_eq, -decide_eq_false_iff_not, hw]
      repeat' first | apply And.intro | refine hk _ ?_ | intro hg | omega | exact True.intro
      all_goals clear hk k
      refine rg [4] ?_
      intro k hk; simp +contextual -dsimp (maxSteps := 2000000) [go_sem, -decide_eq_true_eq, -decide_eq_false_iff_not, hw]
      repeat' first | (refine Chk.keys ?_; simp only [go_sem, List.map_cons, List.map_nil, List.flatMap_cons, List.flatMap_nil, List.flatMap_append, List.append_nil, List.nil_append, List.cons_append]; decide +kernel) | apply And.intro | refine hk _ ?_ | (intro hg; try simp only [decide_eq_true_eq, decide_eq_false_iff_not] at hg) | ((first | refine CallK.intro (dc_impl_codeIf _ _) ?_ | refine CallK.intro (dc_impl_inRange _ _ _) ?_ | refine CallK.intro (dc_impl_firstCode [_, _] (by simp)) ?_ | refine CallK.intro (dc_impl_firstCode [_, _, _] (by simp)) ?_ | refine CallK.intro (dc_impl_firstCode [_, _, _, _] (by simp)) ?_); simp +contextual -dsimp (maxSteps := 2000000) [go_sem, -decide_eq_true_eq, -decide_eq_false_iff_not, hw]) | omega | exact True.intro
      all_goals clear hk k
      all_goals (
       refine rt ?_
       simp [go_sem, Tryz.results131, nodeF, firstC_cons, firstC_nil, inR, isTwoB] at * <;> grind))
    ·intro hc; try simp at hc
     all_goals try (exfalso; omega; done)
     all_goals (
      refine AW.skipN (fun _ h => h) ?_
      refine rg [4] ?_
      intro k hk; simp +contextual -dsimp (maxSteps := 2000000) [go_sem, -decide_eq_true_eq, -decide_eq_false_iff_not, hw]
      repeat' first | (refine Chk.keys ?_; simp only [go_sem, List.map_cons, List.map_nil, List.flatMap_cons, List.flatMap_nil, List.flatMap_append, List.append_nil, List.nil_append, List.cons_append]; decide +kernel) | apply And.intro | refine hk _ ?_ | (intro hg; try simp only [decide_eq_true_eq, decide_eq_false_iff_not] at hg) | ((first | refine CallK.intro (dc_impl_codeIf _ _) ?_ | refine CallK.intro (dc_impl_inRange _ _ _) ?_ | refine CallK.intro (dc_impl_firstCode [_, _] (by simp)) ?_ | refine CallK.intro (dc_impl_firstCode [_, _, _] (by simp)) ?_ | refine CallK.intro (dc_impl_firstCode [_, _, _, _] (by simp)) ?_); simp +contextual -dsimp (maxSteps := 2000000) [go_sem, -decide_eq_true_eq, -decide_eq_false_iff_not, hw]) | omega | exact True.intro
      all_goals clear hk k
      all_goals (
       refine rt ?_
       simp [go_sem, Tryz.results131, nodeF, firstC_cons, firstC_nil, inR, isTwoB] at * <;> grind)))
  ·intro hc; try simp at hc
   all_goals try (exfalso; omega; done)
   all_goals (
    refine rg [1,2,35] ?_
    intro k hk; simp -dsimp [go_sem, -decide_eq_true_eq, -decide_eq_false_iff_not, hw]
    repeat' first | apply And.intro | refine hk _ ?_ | intro hg | omega | exact True.intro
    all_goals clear hk k
    refine AW.cond rfl ?_ ?_
    ·intro hc; try simp at hc
     all_goals try (exfalso; omega; done)
     all_goals (
      refine rg [4] ?_
      intro k hk; simp +contextual -dsimp (maxSteps := 2000000) [go_sem, -decide_eq_true_eq, -decide_eq_false_iff_not, hw]
      repeat' first | (refine Chk.keys ?_; simp only [go_sem, List.map_cons, List.map_nil, List.flatMap_cons, List.flatMap_nil, List.flatMap_append, List.append_nil, List.nil_append, List.cons_append]; decide +kernel) | apply And.intro | refine hk _ ?_ | (intro hg; try simp only [decide_eq_true_eq, decide_eq_false_iff_not] at hg) | ((first | refine CallK.intro (dc_impl_codeIf _ _) ?_ | refine CallK.intro (dc_impl_inRange _ _ _) ?_ | refine CallK.intro (dc_impl_firstCode [_, _] (by simp)) ?_ | refine CallK.intro (dc_impl_firstCode [_, _, _] (by simp)) ?_ | refine CallK.intro (dc_impl_firstCode [_, _, _, _] (by simp)) ?_); simp +contextual -dsimp (maxSteps := 2000000) [go_sem, -decide_eq_true_eq, -decide_eq_false_iff_not, hw]) | omega | exact True.intro
      all_goals clear hk k
      all_goals (
       refine rt ?_
       simp [go_sem, Tryz.results131, nodeF, firstC_cons, firstC_nil, inR, isTwoB] at * <;> grind))
    ·intro hc; try simp at hc
     all_goals try (exfalso; omega; done)
     all_goals (
      refine rg [1,2,57] ?_
      intro k hk; simp -dsimp (maxSteps := 2000000) [go_sem, -decide_eq_true_eq, -decide_eq_false_iff_not, hw]
      repeat' first | apply And.intro | refine hk _ ?_ | intro hg | (refine CallK.intro (dc_impl_isTwo _) ?_; simp -dsimp (maxSteps := 2000000) [go_sem, -decide_eq_true_eq, -decide_eq_false_iff_not, hw]) | omega | exact True.intro
      all_goals clear hk k
      refine AW.cond rfl ?_ ?_
      ·intro hc; try simp at hc
       all_goals try (exfalso; omega; done)
       all_goals (
        refine rg [4] ?_
        intro k hk; simp +contextual -dsimp (maxSteps := 2000000) [go_sem, -decide_eq_true_eq, -decide_eq_false_iff_not, hw]
        repeat' first | (refine Chk.keys ?_; simp only [go_sem, List.map_cons, List.map_nil, List.flatMap_cons, List.flatMap_nil, List.flatMap_append, List.append_nil, List.nil_append, List.cons_append]; decide +kernel) | apply And.intro | refine hk _ ?_ | (intro hg; try simp only [decide_eq_true_eq, decide_eq_false_iff_not] at hg) | ((first | refine CallK.intro (dc_impl_codeIf _ _) ?_ | refine CallK.intro (dc_impl_inRange _ _ _) ?_ | refine CallK.intro (dc_impl_firstCode [_, _] (by simp)) ?_ | refine CallK.intro (dc_impl_firstCode [_, _, _] (by simp)) ?_ | refine CallK.intro (dc_impl_firstCode [_, _, _, _] (by simp)) ?_); simp +contextual -dsimp (maxSteps := 2000000) [go_sem, -decide_eq_true_eq, -decide_eq_false_iff_not, hw]) | omega | exact True.intro
        all_goals clear hk k
        all_goals (
         refine rt ?_
         simp [go_sem, Tryz.results131, nodeF, firstC_cons, firstC_nil, inR, isTwoB] at * <;> grind))
      ·intro hc; try simp at hc
       all_goals try (exfalso; omega; done)
       all_goals (
        refine AW.skipN (fun _ h => h) ?_
        refine rg [4] ?_
        intro k hk; simp -dsimp [go_sem, -decide_eq_true_eq, -decide_eq_false_iff_not, hw]
        repeat' first | apply And.intro | refine hk _ ?_ | intro hg | omega | exact True.intro
        all_goals clear hk k
        refine rt ?_
        simp [go_sem, Tryz.results131, nodeF, firstC_cons, firstC_nil, inR, isTwoB] at * <;> grind))))

set_option maxHeartbeats 2000000 in
/-- spec.l3Node -/
theorem dc_spec_l3Node (n : TNode) (a : Int) (ha : 0 ≤ a ∧ a ≤ 1048576) : DC Tryz.prog 125 [.ip n.ro, .int .i64 a] (.int .i64 (nodeF n a)) [] := by
 have hw : IntKind.wrap .i64 (a - 1) = a - 1 := wrap64 (by omega) (by omega)
 refine DC.intro tiOk Tryz.func125 rfl rfl rfl rfl rfl rfl rfl rfl [] ?_
 refine rg [0,1] ?_
 intro k hk; simp -dsimp [go_sem, -decide_eq_true_eq, -decide_eq_false_iff_not, hw]
 repeat' first | apply And.intro | refine hk _ ?_ | intro hg | omega | exact True.intro
 all_goals clear hk k
 refine AW.seq ?_
 refine rg [0,1,11] ?_
 intro k hk; simp -dsimp (maxSteps := 2000000) [go_sem, -decide_eq_true_eq, -decide_eq_false_iff_not, hw]
 repeat' first | apply And.intro | refine hk _ ?_ | intro hg | (refine CallK.intro (dc_spec_l1In _ _ _) ?_; simp -dsimp (maxSteps := 2000000) [go_sem, -decide_eq_true_eq, -decide_eq_false_iff_not, hw]) | omega | exact True.intro
 all_goals clear hk k
 refine AW.cond rfl ?_ ?_
 ·intro hc; try simp at hc
  all_goals try (exfalso; omega; done)
  all_goals (
   refine rg [4] ?_
   intro k hk; simp -dsimp [go_sem, -decide_eq_true_eq, -decide_eq_false_iff_not, hw]
   repeat' first | apply And.intro | refine hk _ ?_ | intro hg | omega | exact True.intro
   all_goals clear hk k
   refine rt ?_
   simp [go_sem, Tryz.results125, nodeF, firstC_cons, firstC_nil, inR, isTwoB] at * <;> grind)
 ·intro hc; try simp at hc
  all_goals try (exfalso; omega; done)
  all_goals (
   refine AW.skipN (fun _ h => h) ?_
   refine rg [0,1,5] ?_
   intro k hk; simp -dsimp [go_sem, -decide_eq_true_eq, -decide_eq_false_iff_not, hw]
   repeat' first | apply And.intro | refine hk _ ?_ | intro hg | omega | exact True.intro
   all_goals clear hk k
   refine AW.seq ?_
   refine AW.cut ⟨114, [(0, .ip n.ro), (1, .int .i64 a), (5, .bool (decide (n.kind ≤ 2))), (56, .bool (decide ((n.kind ≤ 2 ∧ (n.left ≠ 0 ∨ n.right ≠ 0)) ∨ (2 < n.kind ∧ n.val ≠ 0) ∨ (n.kind = 10 ∧ n.right ≠ 0))))], []⟩ ?_ ?_
   ·skip
    refine rgK ?_
    intro k hk; simp +contextual -dsimp (maxSteps := 2000000) [go_sem, -decide_eq_true_eq, -decide_eq_false_iff_not, hw]
    repeat' first | apply And.intro | refine hk _ ?_ | (intro hg; try simp only [decide_eq_true_eq, decide_eq_false_iff_not] at hg) | omega | exact True.intro
    all_goals clear hk k
    all_goals (show St.Less _ _; exact Less.of rfl (by simp [go_sem] <;> first | omega | grind) (by simp [go_sem]))
   ·skip
    refine AW.cond rfl ?_ ?_
    ·intro hc; try simp at hc
     all_goals try (exfalso; omega; done)
     all_goals (
      refine rg [4] ?_
      intro k hk; simp -dsimp [go_sem, -decide_eq_true_eq, -decide_eq_false_iff_not, hw]
      repeat' first | apply And.intro | refine hk _ ?_ | intro hg | omega | exact True.intro
      all_goals clear hk k
      refine rt ?_
      simp [go_sem, Tryz.results125, nodeF, firstC_cons, firstC_nil, inR, isTwoB] at * <;> grind)
    ·intro hc; try simp at hc
     all_goals try (exfalso; omega; done)
     all_goals (
      refine AW.skipN (fun _ h => h) ?_
      refine AW.seq ?_
      refine AW.cut ⟨114, [(0, .ip n.ro), (1, .int .i64 a), (5, .bool (decide (n.kind ≤ 2))), (84, .bool (decide ((n.kind = 1 ∧ (n.val < 0 ∨ 9999 < n.val)) ∨ (n.kind = 2 ∧ (n.val < 0 ∨ 3 < n.val)))))], []⟩ ?_ ?_
      ·skip
       refine rgK ?_
       intro k hk; simp +contextual -dsimp (maxSteps := 2000000) [go_sem, -decide_eq_true_eq, -decide_eq_false_iff_not, hw]
       repeat' first | apply And.intro | refine hk _ ?_ | (intro hg; try simp only [decide_eq_true_eq, decide_eq_false_iff_not] at hg) | (refine CallK.intro (dc_spec_l1In _ _ _) ?_; simp +contextual -dsimp (maxSteps := 2000000) [go_sem, -decide_eq_true_eq, -decide_eq_false_iff_not, hw]) | omega | exact True.intro
       all_goals clear hk k
       all_goals (show St.Less _ _; exact Less.of rfl (by simp [go_sem, inR] <;> first | omega | grind [inR]) (by simp [go_sem]))
      ·skip
       refine AW.cond rfl ?_ ?_
       ·intro hc; try simp at hc
        all_goals try (exfalso; omega; done)
        all_goals (
         refine rg [4] ?_
         intro k hk; simp -dsimp [go_sem, -decide_eq_true_eq, -decide_eq_false_iff_not, hw]
         repeat' first | apply And.intro | refine hk _ ?_ | intro hg | omega | exact True.intro
         all_goals clear hk k
         refine rt ?_
         simp [go_sem, Tryz.results125, nodeF, firstC_cons, firstC_nil, inR, isTwoB] at * <;> grind)
       ·intro hc; try simp at hc
        all_goals try (exfalso; omega; done)
        all_goals (
         refine AW.skipN (fun _ h => h) ?_
         refine AW.seq ?_
         refine rg [113] ?_
         intro k hk; simp +contextual -dsimp (maxSteps := 2000000) [go_sem, -decide_eq_true_eq, -decide_eq_false_iff_not, hw]
         repeat' first | apply And.intro | refine hk _ ?_ | (intro hg; try simp only [decide_eq_true_eq, decide_eq_false_iff_not] at hg) | ((first | refine CallK.intro (dc_spec_l1In _ _ _) ?_ | refine CallK.intro (dc_spec_l3Two _) ?_); simp +contextual -dsimp (maxSteps := 2000000) [go_sem, -decide_eq_true_eq, -decide_eq_false_iff_not, hw]) | omega | exact True.intro
         all_goals clear hk k
         all_goals (
          refine AW.cond rfl ?_ ?_
          ·intro hc; try simp at hc
           all_goals try (exfalso; omega; done)
           all_goals (
            refine rg [4] ?_
            intro k hk; simp -dsimp [go_sem, -decide_eq_true_eq, -decide_eq_false_iff_not, hw]
            repeat' first | apply And.intro | refine hk _ ?_ | intro hg | omega | exact True.intro
            all_goals clear hk k
            refine rt ?_
            simp [go_sem, Tryz.results125, nodeF, firstC_cons, firstC_nil, inR, isTwoB] at * <;> grind)
          ·intro hc; try simp at hc
           all_goals try (exfalso; omega; done)
           all_goals (
            refine AW.skipN (fun _ h => h) ?_
            refine rg [4] ?_
            intro k hk; simp -dsimp [go_sem, -decide_eq_true_eq, -decide_eq_false_iff_not, hw]
            repeat' first | apply And.intro | refine hk _ ?_ | intro hg | omega | exact True.intro
            all_goals clear hk k
            refine rt ?_
            simp [go_sem, Tryz.results125, nodeF, firstC_cons, firstC_nil, inR, isTwoB] at * <;> grind)))))

end Go.AM
namespace Go.AM
open Go.Proofs

/-- impl.ExprFault -/
theorem dc_impl_ExprFault (e : List TNode) (he : e.length ≤ 9223372036854775807) : DC Tryz.prog 117 [.isl 4 (e.map TNode.ro)] (.int .i64 (exprF e)) [] := by
 refine DC.intro tiOk Tryz.func117 rfl rfl rfl rfl rfl rfl rfl rfl [] ?_
 refine rgA [0] ?_
 refine AW.seq ?_
 refine rg [0,15] ?_
 intro k hk; simp -dsimp (maxSteps := 2000000) [go_sem, -decide_eq_true_eq, -decide_eq_false_iff_not]
 repeat' first | apply And.intro | refine hk _ ?_ | intro hg | (refine CallK.intro (dc_impl_inRange _ _ _) ?_; simp -dsimp (maxSteps := 2000000) [go_sem, -decide_eq_true_eq, -decide_eq_false_iff_not]) | omega | exact True.intro
 all_goals clear hk k
 refine AW.cond rfl ?_ ?_
 ·intro hc; try simp at hc
  all_goals (
   refine rgA [2] ?_
   refine rt ?_
   first | (rw [exprF_len (by simpa using hc)]; simp [go_sem, Tryz.results117]; done) | (rw [exprF_node hR hlt hall (by rw [hxn]; assumption), hxn]; simp [go_sem, Tryz.results117]; done) | (rw [exprF_end hR hN]; simp [go_sem, Tryz.results117] <;> grind))
 ·intro hc; try simp at hc
  all_goals (
   refine AW.skipN (fun _ h => h) ?_
   refine AW.seq ?_
   have hR : inR e.length 1 16 = true := by simpa using hc
   have hlen := inR_iff.1 hR
   refine rgA [0,16,17,18] ?_
   refine AW.block ?_
   refine AW.loopI (fun i : Nat => ⟨112, [(0, .isl 4 (e.map TNode.ro)), (16, .isl 4 (e.map TNode.ro)), (17, .int .i64 e.length), (18, .int .i64 i)], []⟩) (fun i => i ≤ e.length ∧ ∀ k, k < i → nodeAt e k = 0) (fun i => e.length - i) (0) (by simp) (Less.of rfl (by simp [go_sem]) (by simp [go_sem])) ?_
   rintro i ⟨hi, hall⟩
   refine rgA [0,16,17,18,19] ?_
   refine AW.seq ?_
   refine AW.cond rfl ?_ ?_
   ·intro hc; try simp at hc
    all_goals (
     have hlt : i < e.length := by assumption
     obtain ⟨x, hx⟩ := at_some hlt
     have hxn := nodeAt_at hx
     refine AW.skipN (fun _ h => h) ?_
     refine AW.seq ?_
     refine AW.block ?_
     refine rg [0,3,4,16,17,18] ?_
     intro k hk; simp -dsimp [go_sem, -decide_eq_true_eq, -decide_eq_false_iff_not, hx]
     repeat' first | apply And.intro | refine hk _ ?_ | intro hg | omega | exact True.intro
     all_goals clear hk k
     refine rg [0,5,16,17,18] ?_
     intro k hk; simp -dsimp (maxSteps := 2000000) [go_sem, -decide_eq_true_eq, -decide_eq_false_iff_not, hx]
     repeat' first | apply And.intro | refine hk _ ?_ | intro hg | (refine CallK.intro (dc_impl_nodeFault x i (by omega)) ?_; simp -dsimp (maxSteps := 2000000) [go_sem, -decide_eq_true_eq, -decide_eq_false_iff_not, hx]) | omega | exact True.intro
     all_goals clear hk k
     refine rg [0,5,16,17,18,27] ?_
     intro k hk; simp -dsimp [go_sem, -decide_eq_true_eq, -decide_eq_false_iff_not, hx]
     repeat' first | apply And.intro | refine hk _ ?_ | intro hg | omega | exact True.intro
     all_goals clear hk k
     refine AW.cond rfl ?_ ?_
     ·intro hc; try simp at hc
      all_goals (
       refine rg [2] ?_
       intro k hk; simp -dsimp [go_sem, -decide_eq_true_eq, -decide_eq_false_iff_not, hx]
       repeat' first | apply And.intro | refine hk _ ?_ | intro hg | omega | exact True.intro
       all_goals clear hk k
       refine rt ?_
       first | (rw [exprF_len (by simpa using hc)]; simp [go_sem, Tryz.results117]; done) | (rw [exprF_node hR hlt hall (by rw [hxn]; assumption), hxn]; simp [go_sem, Tryz.results117]; done) | (rw [exprF_end hR hN]; simp [go_sem, Tryz.results117] <;> grind))
     ·intro hc; try simp at hc
      all_goals (
       refine AW.skipN (fun _ h => h) ?_
       refine rgK ?_
       intro k hk; simp -dsimp [go_sem, -decide_eq_true_eq, -decide_eq_false_iff_not, hx]
       repeat' first | apply And.intro | refine hk _ ?_ | intro hg | omega | exact True.intro
       all_goals clear hk k
       show ∃ _, _
       have hw := wrapi hlt (by omega)
       refine ⟨i + 1, ⟨by omega, upto hall (by rw [hxn]; first | assumption | simpa using hc)⟩, by omega, Less.of rfl (by simp [go_sem, hw]) (by simp [go_sem])⟩))
   ·intro hc; try simp at hc
    all_goals (
     refine AW.exitN (fun _ h => h) ?_
     have hN : ∀ k, k < e.length → nodeAt e k = 0 := fun k hk => hall k (by omega)
     have hP : PartsOk e e.length := hN
     refine rgA [0,6,7] ?_
     refine AW.seq ?_
     refine rgA [0,6,7,31,32,33] ?_
     refine AW.block ?_
     refine AW.rename (nd := ?nd_1) 30 97 ?h1_1 ?h2_1 ?h4_1 ?kk_1
     (case h1_1 => exact rfl)
     (case h2_1 => simp [go_sem])
     (case h4_1 => simp [go_sem])
     refine AW.loopI (fun i : Nat => ⟨112, [(0, .isl 4 (e.map TNode.ro)), (6, .sl 97 1 0 i), (7, .bool (wrongU e i)), (31, .isl 4 (e.map TNode.ro)), (32, .int .i64 e.length), (33, .int .i64 i)], [(97, some ⟨1, (sizesL e i).map I1⟩)]⟩) (fun i => i ≤ e.length) (fun i => e.length - i) (0) (by simp) (Less.of rfl (by simp [go_sem, wrongU]) (by simp [go_sem, sizesL])) ?_
     rintro i hi
     refine AW.rename (nd := ?nd_2) 97 30 ?h1_2 ?h2_2 ?h4_2 ?kk_2
     (case h1_2 => exact rfl)
     (case h2_2 => simp [go_sem])
     (case h4_2 => simp [go_sem])
     refine rgA [0,6,7,31,32,33,34] ?_
     refine AW.seq ?_
     refine AW.cond rfl ?_ ?_
     ·intro hc; try simp at hc
      all_goals (
       have hlt : i < e.length := by assumption
       obtain ⟨x, hx⟩ := at_some hlt
       have hxn := nodeAt_at hx
       have hpx := hN i hlt
       rw [hxn] at hpx
       have hq := nodeF_parts hpx
       have hsl := sizesL_len e i
       have htk : List.take i ((sizesL e i).map I1) = (sizesL e i).map I1 := List.take_of_length_le (by simp [hsl])
       have hszA := szA_at hx hpx
       have hwrA := wrongU_at hx
       have hsbi := sz_bd hP hlt (by omega)
       have hwi : IntKind.wrap .i64 ((i : Int) - 1) = (i : Int) - 1 := wrap64 (by omega) (by omega)
       refine AW.skipN (fun _ h => h) ?_
       refine AW.seq ?_
       refine AW.block ?_
       refine rg [0,6,7,8,9,31,32,33] ?_
       intro k hk; simp -dsimp [go_sem, -decide_eq_true_eq, -decide_eq_false_iff_not, hx, hwi, hsl]
       repeat' first | apply And.intro | refine hk _ ?_ | intro hg | omega | exact True.intro
       all_goals clear hk k
       refine rg [0,6,7,9,10,11,31,32,33] ?_
       intro k hk; simp -dsimp [go_sem, -decide_eq_true_eq, -decide_eq_false_iff_not, hx, hwi, hsl]
       repeat' first | apply And.intro | refine hk _ ?_ | intro hg | omega | exact True.intro
       all_goals clear hk k
       refine AW.seq ?_
       refine AW.block ?_
       refine rg [0,6,7,9,10,11,31,32,33,40] ?_
       intro k hk; simp -dsimp [go_sem, -decide_eq_true_eq, -decide_eq_false_iff_not, hx, hwi, hsl]
       repeat' first | apply And.intro | refine hk _ ?_ | intro hg | omega | exact True.intro
       all_goals clear hk k
       refine AW.cond rfl ?_ ?_
       ·intro hc; try simp at hc
        all_goals (
         have hk : x.kind = 10 := by simpa using hc
         have hl := hq.1 hk
         have hsA := sizesL_at (e := e) hl.2
         have hsb := sz_bd hP (i := x.left.toNat) (by omega) (by omega)
         have hw1 : IntKind.wrap .i64 (1 + szA e x.left.toNat) = 1 + szA e x.left.toNat := wrap64 (by omega) (by omega)
         refine rg [0,6,7,9,11,31,32,33] ?_
         intro k hk; simp +contextual -dsimp (maxSteps := 2000000) [go_sem, -decide_eq_true_eq, -decide_eq_false_iff_not, hx, hwi, hsl, hsA]
         repeat' first | apply And.intro | refine hk _ ?_ | (intro hg; try simp only [decide_eq_true_eq, decide_eq_false_iff_not] at hg) | omega | exact True.intro
         all_goals clear hk k
         all_goals (
          refine rgN [0,6,7,11,31,32,33] (fun _ h => h) ?_
          intro k hk; simp -dsimp (maxSteps := 2000000) [go_sem, -decide_eq_true_eq, -decide_eq_false_iff_not, hx, hwi, hsl, hsA, hw1]
          repeat' first | apply And.intro | refine hk _ ?_ | intro hg | omega | exact True.intro
          all_goals clear hk k
          refine rgN [0,6,7,31,32,33] (fun _ h => h) ?_
          intro k hk; simp -dsimp [go_sem, -decide_eq_true_eq, -decide_eq_false_iff_not, hx, hwi, hsl]
          repeat' first | apply And.intro | refine hk _ ?_ | intro hg | omega | exact True.intro
          all_goals clear hk k
          refine rgK ?_
          intro k hk; simp -dsimp [go_sem, -decide_eq_true_eq, -decide_eq_false_iff_not, hx, hwi, hsl]
          repeat' first | apply And.intro | refine hk _ ?_ | intro hg | omega | exact True.intro
          all_goals clear hk k
          show ∃ _, _
          have hw := wrapi hlt (by omega)
          refine ⟨i + 1, by omega, by omega, Less.of rfl (by simp [go_sem, hw, hwrA, *]) (by simp [go_sem, sizesL_succ, hszA, *])⟩))
       ·intro hc; try simp at hc
        all_goals (
         refine rg [0,6,7,9,10,11,31,32,33,58] ?_
         intro k hk; simp -dsimp (maxSteps := 2000000) [go_sem, -decide_eq_true_eq, -decide_eq_false_iff_not, hx, hwi, hsl]
         repeat' first | apply And.intro | refine hk _ ?_ | intro hg | (refine CallK.intro (dc_impl_isTwo _) ?_; simp -dsimp (maxSteps := 2000000) [go_sem, -decide_eq_true_eq, -decide_eq_false_iff_not, hx, hwi, hsl]) | omega | exact True.intro
         all_goals clear hk k
         refine AW.cond rfl ?_ ?_
         ·intro hc; try simp at hc
          all_goals (
           have hk : isTwoB x.kind = true := by simpa using hc
           have hl := hq.2.1 hk
           have hsA := sizesL_at (e := e) hl.2.1
           have hsB := sizesL_at (e := e) hl.2.2.2
           have hsb := sz_bd hP (i := x.left.toNat) (by omega) (by omega)
           have hsb2 := sz_bd hP (i := x.right.toNat) (by omega) (by omega)
           have hw1 : IntKind.wrap .i64 (szA e x.left.toNat + szA e x.right.toNat) = szA e x.left.toNat + szA e x.right.toNat := wrap64 (by omega) (by omega)
           have hw2 : IntKind.wrap .i64 (1 + (szA e x.left.toNat + szA e x.right.toNat)) = 1 + (szA e x.left.toNat + szA e x.right.toNat) := wrap64 (by omega) (by omega)
           have hw3 : IntKind.wrap .i64 ((i : Int) - 1 - szA e x.right.toNat) = (i : Int) - 1 - szA e x.right.toNat := wrap64 (by omega) (by omega)
           refine rg [0,6,7,9,11,31,32,33] ?_
           intro k hk; simp +contextual -dsimp (maxSteps := 2000000) [go_sem, -decide_eq_true_eq, -decide_eq_false_iff_not, hx, hwi, hsl, hsA, hsB, hw3]
           repeat' first | (refine Chk.keys ?_; simp only [go_sem, List.map_cons, List.map_nil, List.flatMap_cons, List.flatMap_nil, List.flatMap_append, List.append_nil, List.nil_append, List.cons_append]; decide +kernel) | apply And.intro | refine hk _ ?_ | (intro hg; try simp only [decide_eq_true_eq, decide_eq_false_iff_not] at hg) | omega | exact True.intro
           all_goals clear hk k
           all_goals (
            refine rgN [0,6,7,11,31,32,33] (fun _ h => h) ?_
            intro k hk; simp -dsimp (maxSteps := 2000000) [go_sem, -decide_eq_true_eq, -decide_eq_false_iff_not, hx, hwi, hsl, hsA, hsB, hw1, hw2]
            repeat' first | (refine Chk.keys ?_; simp only [go_sem, List.map_cons, List.map_nil, List.flatMap_cons, List.flatMap_nil, List.flatMap_append, List.append_nil, List.nil_append, List.cons_append]; decide +kernel) | apply And.intro | refine hk _ ?_ | intro hg | omega | exact True.intro
            all_goals clear hk k
            refine rgN [0,6,7,31,32,33] (fun _ h => h) ?_
            intro k hk; simp -dsimp [go_sem, -decide_eq_true_eq, -decide_eq_false_iff_not, hx, hwi, hsl]
            repeat' first | apply And.intro | refine hk _ ?_ | intro hg | omega | exact True.intro
            all_goals clear hk k
            refine rgK ?_
            intro k hk; simp -dsimp [go_sem, -decide_eq_true_eq, -decide_eq_false_iff_not, hx, hwi, hsl]
            repeat' first | apply And.intro | refine hk _ ?_ | intro hg | omega | exact True.intro
            all_goals clear hk k
            show ∃ _, _
            have hw := wrapi hlt (by omega)
            refine ⟨i + 1, by omega, by omega, Less.of rfl (by simp [go_sem, hw, hwrA, *]) (by simp [go_sem, sizesL_succ, hszA, *])⟩))
         ·intro hc; try simp at hc
          all_goals (
           refine AW.skipN (fun _ h => h) ?_
           refine rgN [0,6,7,31,32,33] (fun _ h => h) ?_
           intro k hk; simp -dsimp [go_sem, -decide_eq_true_eq, -decide_eq_false_iff_not, hx, hwi, hsl]
           repeat' first | apply And.intro | refine hk _ ?_ | intro hg | omega | exact True.intro
           all_goals clear hk k
           refine rgK ?_
           intro k hk; simp -dsimp [go_sem, -decide_eq_true_eq, -decide_eq_false_iff_not, hx, hwi, hsl]
           repeat' first | apply And.intro | refine hk _ ?_ | intro hg | omega | exact True.intro
           all_goals clear hk k
           show ∃ _, _
           have hw := wrapi hlt (by omega)
           refine ⟨i + 1, by omega, by omega, Less.of rfl (by simp [go_sem, hw, hwrA, *]) (by simp [go_sem, sizesL_succ, hszA, *])⟩)))
     ·intro hc; try simp at hc
      all_goals (
       refine AW.exitN (fun _ h => h) ?_
       have hie : i = e.length := by omega
       subst hie
       have hsl := sizesL_len e e.length
       have hlast := sizesL_at (e := e) (show e.length - 1 < e.length by omega)
       have hwl : IntKind.wrap .i64 ((e.length : Int) - 1) = (e.length : Int) - 1 := wrap64 (by omega) (by omega)
       have hwt : ((e.length : Int) - 1).toNat = e.length - 1 := by omega
       refine rg [2] ?_
       intro k hk; simp +contextual -dsimp (maxSteps := 2000000) [go_sem, -decide_eq_true_eq, -decide_eq_false_iff_not, hwl, hwt, hlast, hsl]
       repeat' first | apply And.intro | refine hk _ ?_ | (intro hg; try simp only [decide_eq_true_eq, decide_eq_false_iff_not] at hg) | (refine CallK.intro (dc_impl_codeIf _ _) ?_; simp +contextual -dsimp (maxSteps := 2000000) [go_sem, -decide_eq_true_eq, -decide_eq_false_iff_not, hwl, hwt, hlast, hsl]) | omega | exact True.intro
       all_goals clear hk k
       all_goals (
        refine rt ?_
        first | (rw [exprF_len (by simpa using hc)]; simp [go_sem, Tryz.results117]; done) | (rw [exprF_node hR hlt hall (by rw [hxn]; assumption), hxn]; simp [go_sem, Tryz.results117]; done) | (rw [exprF_end hR hN]; simp [go_sem, Tryz.results117] <;> grind)))))

end Go.AM
namespace Go.AM
open Go.Proofs

/-- impl.partType -/
theorem dc_impl_partType (k : Int) : DC Tryz.prog 133 [.int .i64 k] (.tup [.int .i64 (partT k), .int .i64 (ownT k)]) [] := by
 refine DC.intro tiOk Tryz.func133 rfl rfl rfl rfl rfl rfl rfl rfl [] ?_
 refine rgA [0] ?_
 refine AW.seq ?_
 refine AW.block ?_
 refine rgA [0,4] ?_
 refine AW.cond rfl ?_ ?_
 ·intro hc; try simp at hc
  all_goals (
   refine rgA [2,3] ?_
   refine rt ?_
   simp [go_sem, Tryz.results133, partT, ownT] <;> grind)
 ·intro hc; try simp at hc
  all_goals (
   refine rgA [7] ?_
   refine AW.cond rfl ?_ ?_
   ·intro hc; try simp at hc
    all_goals (
     refine rgA [2,3] ?_
     refine rt ?_
     simp [go_sem, Tryz.results133, partT, ownT] <;> grind)
   ·intro hc; try simp at hc
    all_goals (
     refine AW.skipN (fun _ h => h) ?_
     refine rgA [2,3] ?_
     refine rt ?_
     simp [go_sem, Tryz.results133, partT, ownT] <;> grind))

/-- impl.TypeOf -/
theorem dc_impl_TypeOf (e : List TNode) (he : e.length ≤ 9223372036854775807) : DC Tryz.prog 121 [.isl 4 (e.map TNode.ro)] (.agg [.int .i64 (typC e), .int .i64 (typV e)]) [] := by
 refine DC.intro tiOk Tryz.func121 rfl rfl rfl rfl rfl rfl rfl rfl [] ?_
 refine rg [0,2] ?_
 intro k hk; simp -dsimp [go_sem, -decide_eq_true_eq, -decide_eq_false_iff_not]
 repeat' first | apply And.intro | refine hk _ ?_ | intro hg | omega | exact True.intro | (have h9 := hr (by assumption); omega) | fail
 all_goals clear hk k
 refine AW.seq ?_
 refine rg [0,2,3] ?_
 intro k hk; simp -dsimp (maxSteps := 2000000) [go_sem, -decide_eq_true_eq, -decide_eq_false_iff_not]
 repeat' first | apply And.intro | refine hk _ ?_ | intro hg | (refine CallK.intro (dc_impl_ExprFault e he) ?_; simp -dsimp (maxSteps := 2000000) [go_sem, -decide_eq_true_eq, -decide_eq_false_iff_not]) | omega | exact True.intro | (have h9 := hr (by assumption); omega) | fail
 all_goals clear hk k
 refine rg [0,2,3,12] ?_
 intro k hk; simp -dsimp [go_sem, -decide_eq_true_eq, -decide_eq_false_iff_not]
 repeat' first | apply And.intro | refine hk _ ?_ | intro hg | omega | exact True.intro | (have h9 := hr (by assumption); omega) | fail
 all_goals clear hk k
 refine AW.cond rfl ?_ ?_
 ·intro hc; try simp at hc
  all_goals (
   refine rg [2] ?_
   intro k hk; simp -dsimp [go_sem, -decide_eq_true_eq, -decide_eq_false_iff_not]
   repeat' first | apply And.intro | refine hk _ ?_ | intro hg | omega | exact True.intro | (have h9 := hr (by assumption); omega) | fail
   all_goals clear hk k
   refine rt ?_
   first | (obtain ⟨h8, h9⟩ := typC_f (show exprF e ≠ 0 by first | assumption | simpa using hc); simp [go_sem, Tryz.results121, h8, h9]; done) | (obtain ⟨h8, h9⟩ := typC_b h0 (typU_hit hlt (by first | assumption | simpa using hc)); simp [go_sem, Tryz.results121, h8, h9]; done) | (obtain ⟨h8, h9⟩ := typC_k h0 hu; simp [go_sem, Tryz.results121, h8, h9]))
 ·intro hc; try simp at hc
  all_goals (
   refine AW.skipN (fun _ h => h) ?_
   have h0 : exprF e = 0 := by simpa using hc
   obtain ⟨hR, hP⟩ := exprF_zero h0
   have hlen := inR_iff.1 hR
   refine rg [0,2,4] ?_
   intro k hk; simp -dsimp [go_sem, -decide_eq_true_eq, -decide_eq_false_iff_not]
   repeat' first | apply And.intro | refine hk _ ?_ | intro hg | omega | exact True.intro | (have h9 := hr (by assumption); omega) | fail
   all_goals clear hk k
   refine AW.seq ?_
   refine rg [2,4,16,17,18] ?_
   intro k hk; simp -dsimp [go_sem, -decide_eq_true_eq, -decide_eq_false_iff_not]
   repeat' first | apply And.intro | refine hk _ ?_ | intro hg | omega | exact True.intro | (have h9 := hr (by assumption); omega) | fail
   all_goals clear hk k
   refine AW.block ?_
   refine AW.rename (nd := ?nd_1) 15 58 ?h1_1 ?h2_1 ?h4_1 ?kk_1
   (case h1_1 => exact rfl)
   (case h2_1 => simp [go_sem])
   (case h4_1 => simp [go_sem])
   refine AW.loopI (fun i : Nat => ⟨67, [(2, .ptr 2 2 0 0), (4, .sl 58 1 0 i), (16, .isl 4 (e.map TNode.ro)), (17, .int .i64 e.length), (18, .int .i64 i)], [(2, some ⟨2, [[.int .i64 0, .int .i64 0]]⟩), (58, some ⟨1, (typesL e i).map I1⟩)]⟩) (fun i => i ≤ e.length ∧ typU e i = false) (fun i => e.length - i) (0) (by simp [typU]) (Less.of rfl (by simp [go_sem]) (by simp [go_sem, typesL])) ?_
   rintro i ⟨hi, hu⟩
   refine AW.rename (nd := ?nd_2) 58 15 ?h1_2 ?h2_2 ?h4_2 ?kk_2
   (case h1_2 => exact rfl)
   (case h2_2 => simp [go_sem])
   (case h4_2 => simp [go_sem])
   refine rg [2,4,16,17,18,19] ?_
   intro k hk; simp -dsimp [go_sem, -decide_eq_true_eq, -decide_eq_false_iff_not]
   repeat' first | apply And.intro | refine hk _ ?_ | intro hg | omega | exact True.intro | (have h9 := hr (by assumption); omega) | fail
   all_goals clear hk k
   refine AW.seq ?_
   refine AW.cond rfl ?_ ?_
   ·intro hc; try simp at hc
    all_goals (
     have hlt : i < e.length := by assumption
     obtain ⟨x, hx⟩ := at_some hlt
     have hxA := nA_at hx
     have hpx := hP i hlt
     rw [nodeAt_at hx] at hpx
     have hq := nodeF_parts hpx
     have hl : 2 < x.kind → 0 ≤ x.left ∧ x.left.toNat < i := left_of hpx
     have hr := hq.2.1
     have htl := typesL_len e i
     have htk : List.take i ((typesL e i).map I1) = (typesL e i).map I1 := List.take_of_length_le (by simp [htl])
     have hsA : decide (2 < x.kind) = true → (typesL e i)[x.left.toNat]? = some (ownT (nA e x.left.toNat).kind) := fun h => typesL_at (hl (by simpa using h)).2
     have hsB : isTwoB x.kind = true → (typesL e i)[x.right.toNat]? = some (ownT (nA e x.right.toNat).kind) := fun h => typesL_at (hr h).2.2.2
     refine AW.skipN (fun _ h => h) ?_
     refine AW.seq ?_
     refine AW.block ?_
     refine rg [2,4,6,16,17,18] ?_
     intro k hk; simp -dsimp [go_sem, -decide_eq_true_eq, -decide_eq_false_iff_not, hx, htl, hsA, hsB]
     repeat' first | apply And.intro | refine hk _ ?_ | intro hg | omega | exact True.intro | (have h9 := hr (by assumption); omega) | fail
     all_goals clear hk k
     refine rg [2,4,6,7,8,16,17,18] ?_
     intro k hk; simp -dsimp (maxSteps := 2000000) [go_sem, -decide_eq_true_eq, -decide_eq_false_iff_not, hx, htl, hsA, hsB]
     repeat' first | apply And.intro | refine hk _ ?_ | intro hg | (refine CallK.intro (dc_impl_partType _) ?_; simp -dsimp (maxSteps := 2000000) [go_sem, -decide_eq_true_eq, -decide_eq_false_iff_not, hx, htl, hsA, hsB]) | omega | exact True.intro | (have h9 := hr (by assumption); omega) | fail
     all_goals clear hk k
     refine AW.seq ?_
     refine AW.cut ⟨67, [(2, .ptr 2 2 0 0), (4, .sl 15 1 0 i), (8, .int .i64 (ownT x.kind)), (16, .isl 4 (e.map TNode.ro)), (17, .int .i64 e.length), (18, .int .i64 i), (53, .bool (typBad e i))], [(2, some ⟨2, [[.int .i64 0, .int .i64 0]]⟩), (15, some ⟨1, (typesL e i).map I1⟩)]⟩ ?_ ?_
     ·skip
      refine rgK ?_
      intro k hk; simp +contextual -dsimp (maxSteps := 2000000) [go_sem, -decide_eq_true_eq, -decide_eq_false_iff_not, hx, htl, hsA, hsB]
      repeat' first | apply And.intro | refine hk _ ?_ | (intro hg; try simp only [decide_eq_true_eq, decide_eq_false_iff_not] at hg) | (refine CallK.intro (dc_impl_isTwo _) ?_; simp +contextual -dsimp (maxSteps := 2000000) [go_sem, -decide_eq_true_eq, -decide_eq_false_iff_not, hx, htl, hsA, hsB]) | omega | exact True.intro | (have h9 := hr (by assumption); omega) | fail
      all_goals clear hk k
      all_goals (show St.Less _ _; exact Less.of rfl (by simp [go_sem, typBad, hxA] <;> grind) (by simp [go_sem]))
     ·skip
      refine AW.cond rfl ?_ ?_
      ·intro hc; try simp at hc
       all_goals (
        refine rg [2] ?_
        intro k hk; simp -dsimp [go_sem, -decide_eq_true_eq, -decide_eq_false_iff_not, hx, htl, hsA, hsB]
        repeat' first | apply And.intro | refine hk _ ?_ | intro hg | omega | exact True.intro | (have h9 := hr (by assumption); omega) | fail
        all_goals clear hk k
        refine rt ?_
        first | (obtain ⟨h8, h9⟩ := typC_f (show exprF e ≠ 0 by first | assumption | simpa using hc); simp [go_sem, Tryz.results121, h8, h9]; done) | (obtain ⟨h8, h9⟩ := typC_b h0 (typU_hit hlt (by first | assumption | simpa using hc)); simp [go_sem, Tryz.results121, h8, h9]; done) | (obtain ⟨h8, h9⟩ := typC_k h0 hu; simp [go_sem, Tryz.results121, h8, h9]))
      ·intro hc; try simp at hc
       all_goals (
        refine AW.skipN (fun _ h => h) ?_
        refine rgN [2,4,16,17,18] (fun _ h => h) ?_
        intro k hk; simp -dsimp [go_sem, -decide_eq_true_eq, -decide_eq_false_iff_not, hx, htl, hsA, hsB]
        repeat' first | apply And.intro | refine hk _ ?_ | intro hg | omega | exact True.intro | (have h9 := hr (by assumption); omega) | fail
        all_goals clear hk k
        refine rgK ?_
        intro k hk; simp -dsimp [go_sem, -decide_eq_true_eq, -decide_eq_false_iff_not, hx, htl, hsA, hsB]
        repeat' first | apply And.intro | refine hk _ ?_ | intro hg | omega | exact True.intro | (have h9 := hr (by assumption); omega) | fail
        all_goals clear hk k
        show ∃ _, _
        have hw := wrapi hlt (by omega)
        have hub : typBad e i = false := by simpa using hc
        refine ⟨i + 1, ⟨by omega, typU_go hu hub⟩, by omega, Less.of rfl (by simp [go_sem, hw]) (by simp [go_sem, typesL_succ, hxA, htk])⟩))
   ·intro hc; try simp at hc
    all_goals (
     refine AW.exitN (fun _ h => h) ?_
     obtain rfl : i = e.length := by omega
     have htl := typesL_len e e.length
     have hlast := typesL_at (e := e) (show e.length - 1 < e.length by omega)
     have hwl : IntKind.wrap .i64 ((e.length : Int) - 1) = (e.length : Int) - 1 := wrap64 (by omega) (by omega)
     have hwt : ((e.length : Int) - 1).toNat = e.length - 1 := by omega
     refine rg [2] ?_
     intro k hk; simp -dsimp (maxSteps := 2000000) [go_sem, -decide_eq_true_eq, -decide_eq_false_iff_not, htl, hlast, hwl, hwt]
     repeat' first | apply And.intro | refine hk _ ?_ | intro hg | omega | exact True.intro | (have h9 := hr (by assumption); omega) | fail
     all_goals clear hk k
     refine rt ?_
     first | (obtain ⟨h8, h9⟩ := typC_f (show exprF e ≠ 0 by first | assumption | simpa using hc); simp [go_sem, Tryz.results121, h8, h9]; done) | (obtain ⟨h8, h9⟩ := typC_b h0 (typU_hit hlt (by first | assumption | simpa using hc)); simp [go_sem, Tryz.results121, h8, h9]; done) | (obtain ⟨h8, h9⟩ := typC_k h0 hu; simp [go_sem, Tryz.results121, h8, h9])))

end Go.AM
namespace Go.AM
open Go.Proofs

/-- impl.typeFault -/
theorem dc_impl_typeFault (e : List TNode) (w : Int) (he : e.length ≤ 9223372036854775807) : DC Tryz.prog 95 [.isl 4 (e.map TNode.ro), .int .i64 w] (.int .i64 (typF e w)) [] := by
 refine DC.intro tiOk Tryz.func95 rfl rfl rfl rfl rfl rfl rfl rfl [] ?_
 refine rgA [0,1] ?_
 refine AW.seq ?_
 refine rgA [0,1,8] ?_
 refine AW.cond rfl ?_ ?_
 ·intro hc; try simp at hc
  all_goals (
   refine rgA [4] ?_
   refine rt ?_
   simp [go_sem, Tryz.results95, typF, firstC_cons, firstC_nil] <;> grind)
 ·intro hc; try simp at hc
  all_goals (
   refine AW.skipN (fun _ h => h) ?_
   refine rg [1,5] ?_
   intro k hk; simp -dsimp (maxSteps := 2000000) [go_sem, -decide_eq_true_eq, -decide_eq_false_iff_not]
   repeat' first | apply And.intro | refine hk _ ?_ | intro hg | (refine CallK.intro (dc_impl_TypeOf e he) ?_; simp -dsimp (maxSteps := 2000000) [go_sem, -decide_eq_true_eq, -decide_eq_false_iff_not]) | omega | exact True.intro
   all_goals clear hk k
   refine rg [4] ?_
   intro k hk; simp -dsimp (maxSteps := 2000000) [go_sem, -decide_eq_true_eq, -decide_eq_false_iff_not]
   repeat' first | (refine Chk.keys ?_; simp only [go_sem, List.map_cons, List.map_nil, List.flatMap_cons, List.flatMap_nil, List.flatMap_append, List.append_nil, List.nil_append, List.cons_append]; decide +kernel) | apply And.intro | refine hk _ ?_ | intro hg | ((first | refine CallK.intro (dc_impl_codeIf _ _) ?_ | refine CallK.intro (dc_impl_firstCode [_, _] (by simp)) ?_ | refine CallK.intro (dc_impl_firstCode [_, _, _] (by simp)) ?_ | refine CallK.intro (dc_impl_firstCode [_, _, _, _] (by simp)) ?_); simp -dsimp (maxSteps := 2000000) [go_sem, -decide_eq_true_eq, -decide_eq_false_iff_not]) | omega | exact True.intro
   all_goals clear hk k
   refine rt ?_
   simp [go_sem, Tryz.results95, typF, firstC_cons, firstC_nil] <;> grind)

/-- impl.isSmall -/
theorem dc_impl_isSmall (c : UInt8) : DC Tryz.prog 130 [.int .u8 c.toNat] (.bool (isLow c)) [] := by
 refine DC.intro tiOk Tryz.func130 rfl rfl rfl rfl rfl rfl rfl rfl [] ?_
 refine rgA [0] ?_
 refine rg [2] ?_
 intro k hk; simp +contextual -dsimp (maxSteps := 2000000) [go_sem, -decide_eq_true_eq, -decide_eq_false_iff_not]
 repeat' first | apply And.intro | refine hk _ ?_ | (intro hg; try simp only [decide_eq_true_eq, decide_eq_false_iff_not] at hg) | omega | exact True.intro
 all_goals clear hk k
 all_goals (
  refine rt ?_
  simp [go_sem, *, Tryz.results130, isLow, -decide_eq_true_eq, -decide_eq_false_iff_not])

/-- impl.NameFault -/
theorem dc_impl_NameFault (s : List UInt8) (hs : s.length ≤ 9223372036854775807) : DC Tryz.prog 116 [.str s] (.int .i64 (nameF s)) [] := by
 refine DC.intro tiOk Tryz.func116 rfl rfl rfl rfl rfl rfl rfl rfl [] ?_
 refine rgA [0] ?_
 refine rg [2] ?_
 intro k hk; simp +contextual -dsimp (maxSteps := 2000000) [go_sem, -decide_eq_true_eq, -decide_eq_false_iff_not]
 repeat' first | apply And.intro | refine hk _ ?_ | (intro hg; try simp only [decide_eq_true_eq, decide_eq_false_iff_not] at hg) | ((first | refine CallK.intro (dc_impl_areAll 130 isLow dc_impl_isSmall s hs) ?_ | refine CallK.intro (dc_impl_codeIf _ _) ?_ | refine CallK.intro (dc_impl_firstCode [_, _] (by simp)) ?_ | refine CallK.intro (dc_impl_firstCode [_, _, _] (by simp)) ?_ | refine CallK.intro (dc_impl_firstCode [_, _, _, _] (by simp)) ?_); simp +contextual -dsimp (maxSteps := 2000000) [go_sem, -decide_eq_true_eq, -decide_eq_false_iff_not]) | omega | exact True.intro
 all_goals clear hk k
 all_goals (
  refine rt ?_
  simp [go_sem, Tryz.results116, nameF, firstC_cons, firstC_nil] at * <;> grind)

end Go.AM
namespace Go.AM
open Go.Proofs

/-- impl.condFault -/
theorem dc_impl_condFault (p : List TStep) (ho : StepsOk p) (i : Nat) (hi : i < p.length) (hg : ∀ e ∈ p, e.gok) : DC Tryz.prog 94 [.isl 6 (p.map TStep.ro), .int .i64 (i : Nat)] (.int .i64 (shapeF p i)) [] := by
 have hlen := ho.len
 obtain ⟨x, hx⟩ := at_some hi
 have hxS := nS_at hx
 obtain ⟨g0, g1, g2⟩ := hg x (List.mem_of_getElem? hx)
 have hkm := kids_len p (i : Int)
 refine DC.intro tiOk Tryz.func94 rfl rfl rfl rfl rfl rfl rfl rfl [] ?_
 refine rg [0,1] ?_
 intro k hk; simp -dsimp [go_sem, -decide_eq_true_eq, -decide_eq_false_iff_not, hx]
 repeat' first | apply And.intro | refine hk _ ?_ | intro hg | omega | exact True.intro
 all_goals clear hk k
 refine rg [0,1,5,6] ?_
 intro k hk; simp -dsimp (maxSteps := 2000000) [go_sem, -decide_eq_true_eq, -decide_eq_false_iff_not, hx]
 repeat' first | apply And.intro | refine hk _ ?_ | intro hg | (refine CallK.intro (dc_impl_kidBounds _) ?_; simp -dsimp (maxSteps := 2000000) [go_sem, -decide_eq_true_eq, -decide_eq_false_iff_not, hx]) | omega | exact True.intro
 all_goals clear hk k
 refine rg [0,1,5,6,7] ?_
 intro k hk; simp -dsimp (maxSteps := 2000000) [go_sem, -decide_eq_true_eq, -decide_eq_false_iff_not, hx]
 repeat' first | apply And.intro | refine hk _ ?_ | intro hg | omega | exact True.intro
 all_goals clear hk k
 refine rg [0,1,7,8] ?_
 intro k hk; simp -dsimp (maxSteps := 2000000) [go_sem, -decide_eq_true_eq, -decide_eq_false_iff_not, hx]
 repeat' first | apply And.intro | refine hk _ ?_ | intro hg | ((first | refine CallK.intro (dc_impl_kids p (i : Int) (by omega)) ?_ | refine CallK.intro (dc_impl_inRange _ _ _) ?_ | refine CallK.intro (dc_impl_codeIf _ _) ?_ | refine CallK.intro (dc_impl_wantsCond p ho i hi) ?_ | refine CallK.intro (dc_impl_firstCode [_, _] (by simp)) ?_ | refine CallK.intro (dc_impl_firstCode [_, _, _] (by simp)) ?_ | refine CallK.intro (dc_impl_firstCode [_, _, _, _] (by simp)) ?_); simp -dsimp (maxSteps := 2000000) [go_sem, -decide_eq_true_eq, -decide_eq_false_iff_not, hx]) | omega | exact True.intro
 all_goals clear hk k
 refine AW.seq ?_
 refine rg [0,1,8,47] ?_
 intro k hk; simp +contextual -dsimp [go_sem, -decide_eq_true_eq, -decide_eq_false_iff_not, hx]
 repeat' first | apply And.intro | refine hk _ ?_ | (intro hg; try simp only [decide_eq_true_eq, decide_eq_false_iff_not] at hg) | omega | exact True.intro
 all_goals clear hk k
 all_goals (
  refine AW.cond rfl ?_ ?_
  ·intro hc; try simp at hc
   all_goals (
    refine rg [4] ?_
    intro k hk; simp -dsimp [go_sem, -decide_eq_true_eq, -decide_eq_false_iff_not, hx]
    repeat' first | apply And.intro | refine hk _ ?_ | intro hg | omega | exact True.intro
    all_goals clear hk k
    refine rt ?_
    simp [go_sem, Tryz.results94, shapeF, hxS, firstC_cons, firstC_nil] at * <;> grind)
  ·intro hc; try simp at hc
   all_goals (
    refine AW.skipN (fun _ h => h) ?_
    refine rg [4] ?_
    intro k hk; simp -dsimp (maxSteps := 2000000) [go_sem, -decide_eq_true_eq, -decide_eq_false_iff_not, hx]
    repeat' first | apply And.intro | refine hk _ ?_ | intro hg | (refine CallK.intro (dc_impl_ExprFault x.cond g1) ?_; simp -dsimp (maxSteps := 2000000) [go_sem, -decide_eq_true_eq, -decide_eq_false_iff_not, hx]) | omega | exact True.intro
    all_goals clear hk k
    refine rt ?_
    simp [go_sem, Tryz.results94, shapeF, hxS, firstC_cons, firstC_nil] at * <;> grind))

end Go.AM
namespace Go.AM
open Go.Proofs

/-- impl.stepFault -/
theorem dc_impl_stepFault (s : TStep) (hg : s.gok) (l : List Int) (hl : ParOk l) (h24 : l.length ≤ 23) : DC Tryz.prog 93 [.agg s.ro, .op [nlc 1 (l.map I1), nlc 1 ((depsOf l).map I1)]] (.int .i64 (stepF l s)) [(1, .op [nlc 1 ((nxtL l s.par).map I1), nlc 1 ((nxtD l (depsOf l) s.par).map I1)])] := by
 obtain ⟨g0, g1, g2⟩ := hg
 have hdl := depsOf_len l
 refine DC.intro tiOk Tryz.func93 rfl rfl rfl rfl rfl rfl rfl (by simp [noW, noWo]) [] ?_
 refine rgA [1,2] ?_
 refine rg [1,2,5,6] ?_
 intro k hk; simp -dsimp (maxSteps := 2000000) [go_sem, -decide_eq_true_eq, -decide_eq_false_iff_not]
 repeat' first | apply And.intro | refine hk _ ?_ | intro hg | (refine CallK.intro (dc_impl_argBounds _) ?_; simp -dsimp (maxSteps := 2000000) [go_sem, -decide_eq_true_eq, -decide_eq_false_iff_not]) | omega | exact True.intro
 all_goals clear hk k
 refine AW.cut ⟨96, [(1, .ptr 1901 2 0 0), (2, .ptr 2 6 0 0), (5, .int .i64 (lowA s.kind)), (6, .int .i64 (highA s.kind)), (7, .bool (alien s))], [(2, some ⟨6, [s.ro]⟩), (1901, some ⟨2, [[nlc 1 (l.map I1), nlc 1 ((depsOf l).map I1)]]⟩)]⟩ ?_ ?_
 ·skip
  refine rgK ?_
  intro k hk; simp +contextual -dsimp (maxSteps := 2000000) [go_sem, -decide_eq_true_eq, -decide_eq_false_iff_not]
  repeat' first | apply And.intro | refine hk _ ?_ | (intro hg; try simp only [decide_eq_true_eq, decide_eq_false_iff_not] at hg) | omega | exact True.intro
  all_goals clear hk k
  all_goals (show St.Less _ _; exact Less.of rfl (by simp [go_sem, alien] at * <;> grind) (by simp [go_sem]))
 ·skip
  refine AW.seq ?_
  refine AW.cut ⟨96, [(1, .ptr 1901 2 0 0), (2, .ptr 2 6 0 0), (5, .int .i64 (lowA s.kind)), (6, .int .i64 (highA s.kind)), (8, .int .i64 (if inR s.kind 1 8 = false ∨ alien s = true then 1 else parF l s.par))], [(2, some ⟨6, [s.ro]⟩), (1901, some ⟨2, [[nlc 1 ((nxtL l s.par).map I1), nlc 1 ((nxtD l (depsOf l) s.par).map I1)]]⟩)]⟩ ?_ ?_
  ·skip
   refine AW.regK tiOk (fun i => if i = 11 then [0] else []) ?_
   intro k hk; simp +contextual -dsimp (maxSteps := 2000000) [go_sem, -decide_eq_true_eq, -decide_eq_false_iff_not]
   repeat' first | (refine Chk.keys ?_; simp only [go_sem, List.map_cons, List.map_nil, List.flatMap_cons, List.flatMap_nil, List.flatMap_append, List.append_nil, List.nil_append, List.cons_append]; decide +kernel) | apply And.intro | refine hk _ ?_ | (intro hg; try simp only [decide_eq_true_eq, decide_eq_false_iff_not] at hg) | ((first | refine CallK.intro (dc_impl_inRange _ _ _) ?_ | refine CallK.intro (dc_impl_codeIf _ _) ?_ | refine CallK.intro (dc_parents_next l (depsOf l) s.par hl rfl (by omega)) ?_ | refine CallK.intro (dc_impl_firstCode [_, _] (by simp)) ?_ | refine CallK.intro (dc_impl_firstCode [_, _, _] (by simp)) ?_ | refine CallK.intro (dc_impl_firstCode [_, _, _, _] (by simp)) ?_); simp +contextual -dsimp (maxSteps := 2000000) [go_sem, -decide_eq_true_eq, -decide_eq_false_iff_not]) | omega | exact True.intro
   all_goals clear hk k
   all_goals (show St.Less _ _; exact Less.of rfl (by simp [go_sem, firstC_cons, firstC_nil] at * <;> grind) (by simp [go_sem]))
  ·skip
   refine rgA [1,2,5,6,8,59] ?_
   refine AW.cond rfl ?_ ?_
   ·intro hc; try simp at hc
    all_goals try (exfalso; omega; done)
    all_goals (
     refine rgA [1,4] ?_
     refine rt ?_
     first | (rw [stepF_good hz1 hz2 hz3]; simp [go_sem, Tryz.results93, hnL, hnD, firstC_cons, firstC_nil]; (try grind [inR]); done) | (simp [go_sem, Tryz.results93]; have := @inR_iff s.kind 1 8; unfold stepF; grind))
   ·intro hc; try simp at hc
    all_goals try (exfalso; omega; done)
    all_goals (
     refine AW.skipN (fun _ h => h) ?_
     refine AW.seq ?_
     have hz : inR s.kind 1 8 = true ∧ alien s = false ∧ parF l s.par = 0 := by grind
     obtain ⟨hz1, hz2, hz3⟩ := hz
     have hnL := nxtL_app hz3
     have hnD := nxtD_app hl hz3
     refine rg [1,2,5,6,9] ?_
     intro k hk; simp -dsimp (maxSteps := 2000000) [go_sem, -decide_eq_true_eq, -decide_eq_false_iff_not, hnL, hnD]
     repeat' first | apply And.intro | refine hk _ ?_ | intro hg | ((first | refine CallK.intro (dc_impl_parents_last _ _ _ (by simp [hdl]; omega)) ?_ | refine CallK.intro (dc_impl_codeIf _ _) ?_); simp -dsimp (maxSteps := 2000000) [go_sem, -decide_eq_true_eq, -decide_eq_false_iff_not, hnL, hnD]) | omega | exact True.intro
     all_goals clear hk k
     refine rgA [1,2,5,6,9,66] ?_
     refine AW.cond rfl ?_ ?_
     ·intro hc; try simp at hc
      all_goals try (exfalso; omega; done)
      all_goals (
       refine rgA [1,4] ?_
       refine rt ?_
       first | (rw [stepF_good hz1 hz2 hz3]; simp [go_sem, Tryz.results93, hnL, hnD, firstC_cons, firstC_nil]; (try grind [inR]); done) | (simp [go_sem, Tryz.results93]; have := @inR_iff s.kind 1 8; unfold stepF; grind))
     ·intro hc; try simp at hc
      all_goals try (exfalso; omega; done)
      all_goals (
       refine AW.skipN (fun _ h => h) ?_
       refine AW.seq ?_
       refine rgA [1,2,5,6,69] ?_
       refine AW.block ?_
       refine rgA [1,2,5,6,69,70] ?_
       refine AW.cond rfl ?_ ?_
       ·intro hc; try simp at hc
        all_goals try (exfalso; omega; done)
        all_goals (
         refine rg [1,4] ?_
         intro k hk; simp -dsimp (maxSteps := 2000000) [go_sem, -decide_eq_true_eq, -decide_eq_false_iff_not]
         repeat' first | apply And.intro | refine hk _ ?_ | intro hg | (refine CallK.intro (dc_impl_NameFault s.name g0) ?_; simp -dsimp (maxSteps := 2000000) [go_sem, -decide_eq_true_eq, -decide_eq_false_iff_not]) | omega | exact True.intro
         all_goals clear hk k
         refine rt ?_
         first | (rw [stepF_good hz1 hz2 hz3]; simp [go_sem, Tryz.results93, hnL, hnD, firstC_cons, firstC_nil]; (try grind [inR]); done) | (simp [go_sem, Tryz.results93]; have := @inR_iff s.kind 1 8; unfold stepF; grind))
       ·intro hc; try simp at hc
        all_goals try (exfalso; omega; done)
        all_goals (
         refine rgA [1,2,5,6,75] ?_
         refine AW.cond rfl ?_ ?_
         ·intro hc; try simp at hc
          all_goals try (exfalso; omega; done)
          all_goals (
           refine rg [1,4] ?_
           intro k hk; simp -dsimp (maxSteps := 2000000) [go_sem, -decide_eq_true_eq, -decide_eq_false_iff_not]
           repeat' first | (refine Chk.keys ?_; simp only [go_sem, List.map_cons, List.map_nil, List.flatMap_cons, List.flatMap_nil, List.flatMap_append, List.append_nil, List.nil_append, List.cons_append]; decide +kernel) | apply And.intro | refine hk _ ?_ | intro hg | ((first | refine CallK.intro (dc_impl_inRange _ _ _) ?_ | refine CallK.intro (dc_impl_codeIf _ _) ?_ | refine CallK.intro (dc_impl_ExprFault s.expr g2) ?_ | refine CallK.intro (dc_impl_firstCode [_, _] (by simp)) ?_ | refine CallK.intro (dc_impl_firstCode [_, _, _] (by simp)) ?_ | refine CallK.intro (dc_impl_firstCode [_, _, _, _] (by simp)) ?_); simp -dsimp (maxSteps := 2000000) [go_sem, -decide_eq_true_eq, -decide_eq_false_iff_not]) | omega | exact True.intro
           all_goals clear hk k
           refine rt ?_
           first | (rw [stepF_good hz1 hz2 hz3]; simp [go_sem, Tryz.results93, hnL, hnD, firstC_cons, firstC_nil]; (try grind [inR]); done) | (simp [go_sem, Tryz.results93]; have := @inR_iff s.kind 1 8; unfold stepF; grind))
         ·intro hc; try simp at hc
          all_goals try (exfalso; omega; done)
          all_goals (
           refine AW.skipN (fun _ h => h) ?_
           refine rg [1,4] ?_
           intro k hk; simp -dsimp (maxSteps := 2000000) [go_sem, -decide_eq_true_eq, -decide_eq_false_iff_not]
           repeat' first | apply And.intro | refine hk _ ?_ | intro hg | ((first | refine CallK.intro (dc_impl_inRange _ _ _) ?_ | refine CallK.intro (dc_impl_codeIf _ _) ?_); simp -dsimp (maxSteps := 2000000) [go_sem, -decide_eq_true_eq, -decide_eq_false_iff_not]) | omega | exact True.intro
           all_goals clear hk k
           refine rt ?_
           first | (rw [stepF_good hz1 hz2 hz3]; simp [go_sem, Tryz.results93, hnL, hnD, firstC_cons, firstC_nil]; (try grind [inR]); done) | (simp [go_sem, Tryz.results93]; have := @inR_iff s.kind 1 8; unfold stepF; grind)))))

end Go.AM
namespace Go.AM
open Go.Proofs

/-- impl.ProcFault -/
theorem dc_impl_ProcFault (p : List TStep) (hp : p.length ≤ 9223372036854775807) (hg : ∀ e ∈ p, e.gok) : DC Tryz.prog 76 [.isl 6 (p.map TStep.ro)] (.int .i64 (procF p)) [] := by
 refine DC.intro tiOk Tryz.func76 rfl rfl rfl rfl rfl rfl rfl rfl [] ?_
 refine rgA [0] ?_
 refine AW.seq ?_
 refine rg [0,15] ?_
 intro k hk; simp -dsimp (maxSteps := 2000000) [go_sem, -decide_eq_true_eq, -decide_eq_false_iff_not]
 repeat' first | apply And.intro | refine hk _ ?_ | intro hg | (refine CallK.intro (dc_impl_inRange _ _ _) ?_; simp -dsimp (maxSteps := 2000000) [go_sem, -decide_eq_true_eq, -decide_eq_false_iff_not]) | omega | exact True.intro
 all_goals clear hk k
 refine AW.cond rfl ?_ ?_
 ·intro hc; try simp at hc
  all_goals (
   refine rgA [2] ?_
   refine rt ?_
   first | (rw [procF_len (by simpa using hc)]; simp [go_sem, Tryz.results76]; done) | (rw [procF_ok hR h1 h2 h3]; simp [go_sem, Tryz.results76]; done) | (rw [procF_ty hR h1 h2 hlt hal3 (by first | assumption | simpa using hc)]; simp [go_sem, Tryz.results76]; done) | (rw [procF_shape hR h1 hlt hal2 (by first | assumption | simpa using hc)]; simp [go_sem, Tryz.results76]; done) | (rw [procF_one hR hlt hall (by rw [hxo]; first | assumption | simpa using hc), hxo]; simp [go_sem, Tryz.results76]))
 ·intro hc; try simp at hc
  all_goals (
   refine AW.skipN (fun _ h => h) ?_
   have hR : inR p.length 1 24 = true := by simpa using hc
   have hlen := inR_iff.1 hR
   have hts : depsOf [] = [] := rfl
   refine rgA [0,3] ?_
   refine AW.seq ?_
   refine rgA [0,3,18,19,20] ?_
   refine AW.block ?_
   refine AW.loopI (fun i : Nat => ⟨61, [(0, .isl 6 (p.map TStep.ro)), (3, .ptr 17 2 0 0), (18, .isl 6 (p.map TStep.ro)), (19, .int .i64 p.length), (20, .int .i64 i)], [(17, some ⟨2, [[nlc 1 ((parsT p i).map I1), nlc 1 ((depsOf (parsT p i)).map I1)]]⟩)]⟩) (fun i => i ≤ p.length ∧ ∀ k, k < i → oneF p k = 0) (fun i => p.length - i) (0) (by simp) (Less.of rfl (by simp [go_sem]) (by simp [go_sem, hts, parsT_zero])) ?_
   rintro i ⟨hi, hall⟩
   refine rgA [0,3,18,19,20,21] ?_
   refine AW.seq ?_
   refine AW.cond rfl ?_ ?_
   ·intro hc; try simp at hc
    all_goals (
     have hlt : i < p.length := by assumption
     obtain ⟨x, hx⟩ := at_some hlt
     have hxo := oneF_T hx
     refine AW.skipN (fun _ h => h) ?_
     refine AW.seq ?_
     refine AW.block ?_
     have hlo := ones_T (by omega) hall
     refine rg [0,3,5,18,19,20] ?_
     intro k hk; simp -dsimp [go_sem, -decide_eq_true_eq, -decide_eq_false_iff_not, hx]
     repeat' first | apply And.intro | refine hk _ ?_ | intro hg | omega | exact True.intro
     all_goals clear hk k
     refine AW.reg tiOk (fun _ => [1]) [0,3,6,18,19,20] ?_
     intro k hk; simp -dsimp (maxSteps := 2000000) [go_sem, -decide_eq_true_eq, -decide_eq_false_iff_not, hx]
     repeat' first | apply And.intro | refine hk _ ?_ | intro hg | (refine CallK.intro (dc_impl_stepFault x (hg x (List.mem_of_getElem? hx)) (parsT p i) hlo (by rw [parsT_len (by omega)]; omega)) ?_; simp -dsimp (maxSteps := 2000000) [go_sem, -decide_eq_true_eq, -decide_eq_false_iff_not, hx]) | omega | exact True.intro
     all_goals clear hk k
     refine rg [0,3,6,18,19,20,28] ?_
     intro k hk; simp -dsimp [go_sem, -decide_eq_true_eq, -decide_eq_false_iff_not, hx]
     repeat' first | apply And.intro | refine hk _ ?_ | intro hg | omega | exact True.intro
     all_goals clear hk k
     refine AW.cond rfl ?_ ?_
     ·intro hc; try simp at hc
      all_goals (
       refine rg [2] ?_
       intro k hk; simp -dsimp [go_sem, -decide_eq_true_eq, -decide_eq_false_iff_not, hx]
       repeat' first | apply And.intro | refine hk _ ?_ | intro hg | omega | exact True.intro
       all_goals clear hk k
       refine rt ?_
       first | (rw [procF_len (by simpa using hc)]; simp [go_sem, Tryz.results76]; done) | (rw [procF_ok hR h1 h2 h3]; simp [go_sem, Tryz.results76]; done) | (rw [procF_ty hR h1 h2 hlt hal3 (by first | assumption | simpa using hc)]; simp [go_sem, Tryz.results76]; done) | (rw [procF_shape hR h1 hlt hal2 (by first | assumption | simpa using hc)]; simp [go_sem, Tryz.results76]; done) | (rw [procF_one hR hlt hall (by rw [hxo]; first | assumption | simpa using hc), hxo]; simp [go_sem, Tryz.results76]))
     ·intro hc; try simp at hc
      all_goals (
       refine AW.skipN (fun _ h => h) ?_
       refine rgK ?_
       intro k hk; simp -dsimp [go_sem, -decide_eq_true_eq, -decide_eq_false_iff_not, hx]
       repeat' first | apply And.intro | refine hk _ ?_ | intro hg | omega | exact True.intro
       all_goals clear hk k
       show ∃ _, _
       have hw := wrapi hlt (by omega)
       have hz : stepF (parsT p i) x = 0 := by simpa using hc
       have hpz := stepF_par hz
       have htn := parsT_next hx
       refine ⟨i + 1, ⟨by omega, upto hall (by rw [hxo]; exact hz)⟩, by omega, Less.of rfl (by simp [go_sem, hw]) (by simp [go_sem, htn, nxtL_app hpz, nxtD_deps (ones_T (by omega) hall) hpz])⟩))
   ·intro hc; try simp at hc
    all_goals (
     refine AW.exitN (fun _ h => h) ?_
     refine AW.seq ?_
     have h1 : ∀ k, k < p.length → oneF p k = 0 := fun k hk => hall k (by omega)
     have ho : StepsOk p := ⟨by omega, h1⟩
     refine rgA [0,32,33] ?_
     refine AW.block ?_
     refine AW.loopI (fun i : Nat => ⟨61, [(0, .isl 6 (p.map TStep.ro)), (32, .int .i64 p.length), (33, .int .i64 i)], []⟩) (fun i => i ≤ p.length ∧ ∀ k, k < i → shapeF p k = 0) (fun i => p.length - i) (0) (by simp) (Less.of rfl (by simp [go_sem]) (by simp [go_sem])) ?_
     rintro i ⟨hi, hal2⟩
     refine rgA [0,32,33,34] ?_
     refine AW.seq ?_
     refine AW.cond rfl ?_ ?_
     ·intro hc; try simp at hc
      all_goals (
       have hlt : i < p.length := by assumption
       refine AW.skipN (fun _ h => h) ?_
       refine AW.seq ?_
       refine AW.block ?_
       refine rgA [0,7,32,33] ?_
       refine rg [0,8,32,33] ?_
       intro k hk; simp -dsimp (maxSteps := 2000000) [go_sem, -decide_eq_true_eq, -decide_eq_false_iff_not]
       repeat' first | apply And.intro | refine hk _ ?_ | intro hg | (refine CallK.intro (dc_impl_condFault p ho i hlt hg) ?_; simp -dsimp (maxSteps := 2000000) [go_sem, -decide_eq_true_eq, -decide_eq_false_iff_not]) | omega | exact True.intro
       all_goals clear hk k
       refine rgA [0,8,32,33,40] ?_
       refine AW.cond rfl ?_ ?_
       ·intro hc; try simp at hc
        all_goals (
         refine rgA [2] ?_
         refine rt ?_
         first | (rw [procF_len (by simpa using hc)]; simp [go_sem, Tryz.results76]; done) | (rw [procF_ok hR h1 h2 h3]; simp [go_sem, Tryz.results76]; done) | (rw [procF_ty hR h1 h2 hlt hal3 (by first | assumption | simpa using hc)]; simp [go_sem, Tryz.results76]; done) | (rw [procF_shape hR h1 hlt hal2 (by first | assumption | simpa using hc)]; simp [go_sem, Tryz.results76]; done) | (rw [procF_one hR hlt hall (by rw [hxo]; first | assumption | simpa using hc), hxo]; simp [go_sem, Tryz.results76]))
       ·intro hc; try simp at hc
        all_goals (
         refine AW.skipN (fun _ h => h) ?_
         refine rgKA ?_
         show ∃ _, _
         have hw := wrapi hlt (by omega)
         refine ⟨i + 1, ⟨by omega, upto hal2 (by first | assumption | simpa using hc)⟩, by omega, Less.of rfl (by simp [go_sem, hw]) (by simp [go_sem])⟩))
     ·intro hc; try simp at hc
      all_goals (
       refine AW.exitN (fun _ h => h) ?_
       refine AW.seq ?_
       have h2 : ∀ k, k < p.length → shapeF p k = 0 := fun k hk => hal2 k (by omega)
       refine rgA [43,44,45] ?_
       refine AW.block ?_
       refine AW.loopI (fun i : Nat => ⟨61, [(43, .isl 6 (p.map TStep.ro)), (44, .int .i64 p.length), (45, .int .i64 i)], []⟩) (fun i => i ≤ p.length ∧ ∀ k, k < i → tyF p k = 0) (fun i => p.length - i) (0) (by simp) (Less.of rfl (by simp [go_sem]) (by simp [go_sem])) ?_
       rintro i ⟨hi, hal3⟩
       refine rgA [43,44,45,46] ?_
       refine AW.seq ?_
       refine AW.cond rfl ?_ ?_
       ·intro hc; try simp at hc
        all_goals (
         have hlt : i < p.length := by assumption
         obtain ⟨x, hx⟩ := at_some hlt
         have hxt := tyF_at hx
         obtain ⟨g0, g1, g2⟩ := hg x (List.mem_of_getElem? hx)
         have hfc : firstC [typF x.cond 2, typF x.expr 1] = tyF p i := by rw [hxt]; simp [firstC_cons, firstC_nil] <;> grind
         refine AW.skipN (fun _ h => h) ?_
         refine AW.seq ?_
         refine AW.block ?_
         refine rg [10,43,44,45] ?_
         intro k hk; simp -dsimp [go_sem, -decide_eq_true_eq, -decide_eq_false_iff_not, hx, hfc]
         repeat' first | apply And.intro | refine hk _ ?_ | intro hg | omega | exact True.intro
         all_goals clear hk k
         refine rg [11,43,44,45] ?_
         intro k hk; simp -dsimp (maxSteps := 2000000) [go_sem, -decide_eq_true_eq, -decide_eq_false_iff_not, hx, hfc]
         repeat' first | (refine Chk.keys ?_; simp only [go_sem, List.map_cons, List.map_nil, List.flatMap_cons, List.flatMap_nil, List.flatMap_append, List.append_nil, List.nil_append, List.cons_append]; decide +kernel) | apply And.intro | refine hk _ ?_ | intro hg | ((first | refine CallK.intro (dc_impl_typeFault x.cond 2 g1) ?_ | refine CallK.intro (dc_impl_typeFault x.expr 1 g2) ?_ | refine CallK.intro (dc_impl_firstCode [_, _] (by simp)) ?_ | refine CallK.intro (dc_impl_firstCode [_, _, _] (by simp)) ?_ | refine CallK.intro (dc_impl_firstCode [_, _, _, _] (by simp)) ?_); simp -dsimp (maxSteps := 2000000) [go_sem, -decide_eq_true_eq, -decide_eq_false_iff_not, hx, hfc]) | omega | exact True.intro
         all_goals clear hk k
         refine rg [11,43,44,45,58] ?_
         intro k hk; simp -dsimp [go_sem, -decide_eq_true_eq, -decide_eq_false_iff_not, hx, hfc]
         repeat' first | apply And.intro | refine hk _ ?_ | intro hg | omega | exact True.intro
         all_goals clear hk k
         refine AW.cond rfl ?_ ?_
         ·intro hc; try simp at hc
          all_goals (
           refine rg [2] ?_
           intro k hk; simp -dsimp [go_sem, -decide_eq_true_eq, -decide_eq_false_iff_not, hx, hfc]
           repeat' first | apply And.intro | refine hk _ ?_ | intro hg | omega | exact True.intro
           all_goals clear hk k
           refine rt ?_
           first | (rw [procF_len (by simpa using hc)]; simp [go_sem, Tryz.results76]; done) | (rw [procF_ok hR h1 h2 h3]; simp [go_sem, Tryz.results76]; done) | (rw [procF_ty hR h1 h2 hlt hal3 (by first | assumption | simpa using hc)]; simp [go_sem, Tryz.results76]; done) | (rw [procF_shape hR h1 hlt hal2 (by first | assumption | simpa using hc)]; simp [go_sem, Tryz.results76]; done) | (rw [procF_one hR hlt hall (by rw [hxo]; first | assumption | simpa using hc), hxo]; simp [go_sem, Tryz.results76]))
         ·intro hc; try simp at hc
          all_goals (
           refine AW.skipN (fun _ h => h) ?_
           refine rgK ?_
           intro k hk; simp -dsimp [go_sem, -decide_eq_true_eq, -decide_eq_false_iff_not, hx, hfc]
           repeat' first | apply And.intro | refine hk _ ?_ | intro hg | omega | exact True.intro
           all_goals clear hk k
           show ∃ _, _
           have hw := wrapi hlt (by omega)
           refine ⟨i + 1, ⟨by omega, upto hal3 (by first | assumption | simpa using hc)⟩, by omega, Less.of rfl (by simp [go_sem, hw]) (by simp [go_sem])⟩))
       ·intro hc; try simp at hc
        all_goals (
         refine AW.exitN (fun _ h => h) ?_
         have h3 : ∀ k, k < p.length → tyF p k = 0 := fun k hk => hal3 k (by omega)
         refine rgA [2] ?_
         refine rt ?_
         first | (rw [procF_len (by simpa using hc)]; simp [go_sem, Tryz.results76]; done) | (rw [procF_ok hR h1 h2 h3]; simp [go_sem, Tryz.results76]; done) | (rw [procF_ty hR h1 h2 hlt hal3 (by first | assumption | simpa using hc)]; simp [go_sem, Tryz.results76]; done) | (rw [procF_shape hR h1 hlt hal2 (by first | assumption | simpa using hc)]; simp [go_sem, Tryz.results76]; done) | (rw [procF_one hR hlt hall (by rw [hxo]; first | assumption | simpa using hc), hxo]; simp [go_sem, Tryz.results76])))))

end Go.AM
namespace Go.AM
open Go.Proofs

/-- impl.isTime -/
theorem dc_impl_isTime (n : Int) : DC Tryz.prog 59 [.int .i64 n] (.bool (inR n 0 1000000)) [] := by
 refine DC.intro tiOk Tryz.func59 rfl rfl rfl rfl rfl rfl rfl rfl [] ?_
 refine rgA [0] ?_
 refine rg [2] ?_
 intro k hk; simp -dsimp (maxSteps := 2000000) [go_sem, -decide_eq_true_eq, -decide_eq_false_iff_not]
 repeat' first | apply And.intro | refine hk _ ?_ | intro hg | (refine CallK.intro (dc_impl_inRange _ _ _) ?_; simp -dsimp (maxSteps := 2000000) [go_sem, -decide_eq_true_eq, -decide_eq_false_iff_not]) | omega | exact True.intro
 all_goals clear hk k
 refine rt ?_
 simp [go_sem, Tryz.results59]

/-- spec.l8Time -/
theorem dc_spec_l8Time (n : Int) : DC Tryz.prog 54 [.int .i64 n] (.bool (inR n 0 1000000)) [] := by
 refine DC.intro tiOk Tryz.func54 rfl rfl rfl rfl rfl rfl rfl rfl [] ?_
 refine rgA [0] ?_
 refine rg [2] ?_
 intro k hk; simp -dsimp (maxSteps := 2000000) [go_sem, -decide_eq_true_eq, -decide_eq_false_iff_not]
 repeat' first | apply And.intro | refine hk _ ?_ | intro hg | (refine CallK.intro (dc_spec_l1In _ _ _) ?_; simp -dsimp (maxSteps := 2000000) [go_sem, -decide_eq_true_eq, -decide_eq_false_iff_not]) | omega | exact True.intro
 all_goals clear hk k
 refine rt ?_
 simp [go_sem, Tryz.results54]

/-- slices.IndexFunc[[]int64,int64] -/
theorem dc_slices_IndexFunc_int64_int64_c (f : Nat) (m : Int) (p : Int → Bool) (l : List Int) (hf : ∀ x ∈ l, DC Tryz.prog f [.int .i64 x, .ip [.int .i64 m]] (.bool (p x)) []) (hl : l.length ≤ 9223372036854775807) : DC Tryz.prog 122 [.isl 1 (l.map I1), .fn f [.ip [.int .i64 m]]] (.int .i64 (idxF p l 0)) [] := by
 refine DC.intro tiOk Tryz.func122 rfl rfl rfl rfl rfl rfl rfl rfl [] ?_
 refine rgA [0,1] ?_
 refine AW.seq ?_
 refine rgA [0,1,7,8] ?_
 refine AW.block ?_
 refine AW.loopI (fun i : Nat => ⟨19, [(0, .isl 1 (l.map I1)), (1, .fn f [.ip [.int .i64 m]]), (7, .int .i64 l.length), (8, .int .i64 i)], []⟩) (fun i => i ≤ l.length ∧ idxF p l 0 = idxF p (l.drop i) i) (fun i => l.length - i) (0) (by simp) (Less.of rfl (by simp [go_sem]) (by simp [go_sem])) ?_
 rintro i ⟨hi, hinv⟩
 refine rgA [0,1,7,8,9] ?_
 refine AW.seq ?_
 refine AW.cond rfl ?_ ?_
 ·intro hc; try simp at hc
  all_goals (
   have hlt : i < l.length := by assumption
   obtain ⟨x, hx⟩ := at_some hlt
   refine AW.skipN (fun _ h => h) ?_
   refine AW.seq ?_
   refine AW.block ?_
   refine rg [0,1,5,7,8] ?_
   intro k hk; simp -dsimp [go_sem, -decide_eq_true_eq, -decide_eq_false_iff_not, hx]
   repeat' first | apply And.intro | refine hk _ ?_ | intro hg | omega | exact True.intro
   all_goals clear hk k
   refine rg [0,1,5,7,8,16] ?_
   intro k hk; simp -dsimp (maxSteps := 2000000) [go_sem, -decide_eq_true_eq, -decide_eq_false_iff_not, hx]
   repeat' first | apply And.intro | refine hk _ ?_ | intro hg | (refine CallK.intro (hf x (List.mem_of_getElem? hx)) ?_; simp -dsimp (maxSteps := 2000000) [go_sem, -decide_eq_true_eq, -decide_eq_false_iff_not, hx]) | omega | exact True.intro
   all_goals clear hk k
   refine AW.cond rfl ?_ ?_
   ·intro hc; try simp at hc
    all_goals (
     refine rg [4] ?_
     intro k hk; simp -dsimp [go_sem, -decide_eq_true_eq, -decide_eq_false_iff_not, hx]
     repeat' first | apply And.intro | refine hk _ ?_ | intro hg | omega | exact True.intro
     all_goals clear hk k
     refine rt ?_
     first | (rw [hinv, idxF_step hx, if_pos (by assumption)]; simp [go_sem, Tryz.results122]; done) | (rw [hinv, idxF_end (by omega)]; simp [go_sem, Tryz.results122]))
   ·intro hc; try simp at hc
    all_goals (
     refine AW.skipN (fun _ h => h) ?_
     refine rgK ?_
     intro k hk; simp -dsimp [go_sem, -decide_eq_true_eq, -decide_eq_false_iff_not, hx]
     repeat' first | apply And.intro | refine hk _ ?_ | intro hg | omega | exact True.intro
     all_goals clear hk k
     show ∃ _, _
     have hw := wrapi hlt hl
     refine ⟨i + 1, ⟨by omega, ?_⟩, by omega, Less.of rfl (by simp [go_sem, hw]) (by simp [go_sem])⟩
     rw [hinv, idxF_step hx, if_neg (by simp [*])]))
 ·intro hc; try simp at hc
  all_goals (
   refine AW.exitN (fun _ h => h) ?_
   refine rgA [4] ?_
   refine rt ?_
   first | (rw [hinv, idxF_step hx, if_pos (by assumption)]; simp [go_sem, Tryz.results122]; done) | (rw [hinv, idxF_end (by omega)]; simp [go_sem, Tryz.results122]))

/-- slices.ContainsFunc[[]int64,int64] -/
theorem dc_slices_ContainsFunc_int64_int64_c (f : Nat) (m : Int) (p : Int → Bool) (l : List Int) (hf : ∀ x ∈ l, DC Tryz.prog f [.int .i64 x, .ip [.int .i64 m]] (.bool (p x)) []) (hl : l.length ≤ 9223372036854775807) : DC Tryz.prog 96 [.isl 1 (l.map I1), .fn f [.ip [.int .i64 m]]] (.bool (l.any p)) [] := by
 refine DC.intro tiOk Tryz.func96 rfl rfl rfl rfl rfl rfl rfl rfl [] ?_
 refine rgA [0,1] ?_
 refine rg [4] ?_
 intro k hk; simp -dsimp (maxSteps := 2000000) [go_sem, -decide_eq_true_eq, -decide_eq_false_iff_not]
 repeat' first | apply And.intro | refine hk _ ?_ | intro hg | (refine CallK.intro (dc_slices_IndexFunc_int64_int64_c f m p l hf hl) ?_; simp -dsimp (maxSteps := 2000000) [go_sem, -decide_eq_true_eq, -decide_eq_false_iff_not]) | omega | exact True.intro
 all_goals clear hk k
 refine rt ?_
 rw [← idxF_any l 0]; simp [go_sem, Tryz.results96]

/-- impl.areSmall$1 -/
theorem dc_impl_areSmall_1 (n m : Int) : DC Tryz.prog 98 [.int .i64 n, .ip [.int .i64 m]] (.bool (!inR n 0 m)) [] := by
 refine DC.intro tiOk Tryz.func98 rfl rfl rfl rfl rfl rfl rfl rfl [] ?_
 refine rgA [0,1] ?_
 refine rg [3] ?_
 intro k hk; simp -dsimp (maxSteps := 2000000) [go_sem, -decide_eq_true_eq, -decide_eq_false_iff_not]
 repeat' first | apply And.intro | refine hk _ ?_ | intro hg | (refine CallK.intro (dc_impl_inRange _ _ _) ?_; simp -dsimp (maxSteps := 2000000) [go_sem, -decide_eq_true_eq, -decide_eq_false_iff_not]) | omega | exact True.intro
 all_goals clear hk k
 refine rt ?_
 simp [go_sem, Tryz.results98]

/-- impl.areSmall -/
theorem dc_impl_areSmall (l : List Int) (m : Int) (hl : l.length ≤ 9223372036854775807) : DC Tryz.prog 78 [.isl 1 (l.map I1), .int .i64 m] (.bool (smallB l m)) [] := by
 refine DC.intro tiOk Tryz.func78 rfl rfl rfl rfl rfl rfl rfl rfl [] ?_
 refine rgA [0,3] ?_
 refine rg [4] ?_
 intro k hk; simp -dsimp (maxSteps := 2000000) [go_sem, -decide_eq_true_eq, -decide_eq_false_iff_not]
 repeat' first | apply And.intro | refine hk _ ?_ | intro hg | (refine CallK.intro (dc_slices_ContainsFunc_int64_int64_c 98 m (fun n => !inR n 0 m) l (fun x _ => dc_impl_areSmall_1 x m) hl) ?_; simp -dsimp (maxSteps := 2000000) [go_sem, -decide_eq_true_eq, -decide_eq_false_iff_not]) | omega | exact True.intro
 all_goals clear hk k
 refine rt ?_
 rw [← smallB_any]; simp [go_sem, Tryz.results78]

/-- (*impl.board).count -/
theorem dc_impl_board_count (p : List TStep) (c : TChart) (l : List Int) (a : Int) (hl : l.length ≤ 24) (hb : ∀ k ∈ l, 0 ≤ k ∧ k.toNat < c.acts.length) : DC Tryz.prog 123 [.ip [.isl 6 (p.map TStep.ro), .int .i64 c.status, .int .i64 c.now, .isl 1 (c.vars.map I1), .isl 1 (c.acts.map I1), .isl 1 (c.dues.map I1)], .isl 1 (l.map I1), .int .i64 a] (.int .i64 (cnt c a l)) [] := by
 refine DC.intro tiOk Tryz.func123 rfl rfl rfl rfl rfl rfl rfl rfl [] ?_
 refine rgA [0,1,2] ?_
 refine rgA [0,1,2,7] ?_
 refine AW.seq ?_
 refine rgA [0,2,7,10,11,12] ?_
 refine AW.block ?_
 refine AW.loopI (fun i : Nat => ⟨30, [(0, .ip [.isl 6 (p.map TStep.ro), .int .i64 c.status, .int .i64 c.now, .isl 1 (c.vars.map I1), .isl 1 (c.acts.map I1), .isl 1 (c.dues.map I1)]), (2, .int .i64 a), (7, .int .i64 (cnt c a (l.take i))), (10, .isl 1 (l.map I1)), (11, .int .i64 l.length), (12, .int .i64 i)], []⟩) (fun i => i ≤ l.length) (fun i => l.length - i) (0) (by simp) (Less.of rfl (by simp [go_sem, cnt]) (by simp [go_sem])) ?_
 rintro i hi
 refine rgA [0,2,7,10,11,12,13] ?_
 refine AW.seq ?_
 refine AW.cond rfl ?_ ?_
 ·intro hc; try simp at hc
  all_goals (
   have hlt : i < l.length := by assumption
   obtain ⟨x, hx⟩ := at_some hlt
   obtain ⟨hx0, hx1⟩ := hb x (List.mem_of_getElem? hx)
   have hxa := actA_at hx1
   have hcs := cnt_step (c := c) (a := a) hx
   have hcl := cnt_le c a (l.take i)
   have hcl2 : (l.take i).length ≤ 24 := by rw [List.length_take]; omega
   have hwc : IntKind.wrap .i64 (cnt c a (l.take i) + 1) = cnt c a (l.take i) + 1 := wrap64 (by omega) (by omega)
   refine AW.skipN (fun _ h => h) ?_
   refine AW.seq ?_
   refine AW.block ?_
   refine rg [0,2,7,9,10,11,12] ?_
   intro k hk; simp -dsimp [go_sem, -decide_eq_true_eq, -decide_eq_false_iff_not, hx, hxa, hwc]
   repeat' first | apply And.intro | refine hk _ ?_ | intro hg | omega | exact True.intro
   all_goals clear hk k
   refine rg [0,2,7,10,11,12,25] ?_
   intro k hk; simp -dsimp (maxSteps := 2000000) [go_sem, -decide_eq_true_eq, -decide_eq_false_iff_not, hx, hxa, hwc]
   repeat' first | apply And.intro | refine hk _ ?_ | intro hg | omega | exact True.intro
   all_goals clear hk k
   refine AW.cond rfl ?_ ?_
   ·intro hc; try simp at hc
    all_goals (
     refine rgN [0,2,7,10,11,12] (fun _ h => h) ?_
     intro k hk; simp -dsimp [go_sem, -decide_eq_true_eq, -decide_eq_false_iff_not, hx, hxa, hwc]
     repeat' first | apply And.intro | refine hk _ ?_ | intro hg | omega | exact True.intro
     all_goals clear hk k
     refine rgK ?_
     intro k hk; simp -dsimp [go_sem, -decide_eq_true_eq, -decide_eq_false_iff_not, hx, hxa, hwc]
     repeat' first | apply And.intro | refine hk _ ?_ | intro hg | omega | exact True.intro
     all_goals clear hk k
     show ∃ _, _
     have hw := wrapi hlt (by omega)
     have hc2 := hc
     refine ⟨i + 1, by omega, by omega, Less.of rfl (by simp [go_sem, hw, hcs, hc2]) (by simp [go_sem])⟩)
   ·intro hc; try simp at hc
    all_goals (
     refine AW.skipN (fun _ h => h) ?_
     refine rgK ?_
     intro k hk; simp -dsimp [go_sem, -decide_eq_true_eq, -decide_eq_false_iff_not, hx, hxa, hwc]
     repeat' first | apply And.intro | refine hk _ ?_ | intro hg | omega | exact True.intro
     all_goals clear hk k
     show ∃ _, _
     have hw := wrapi hlt (by omega)
     have hc2 := hc
     refine ⟨i + 1, by omega, by omega, Less.of rfl (by simp [go_sem, hw, hcs, hc2]) (by simp [go_sem])⟩))
 ·intro hc; try simp at hc
  all_goals (
   refine AW.exitN (fun _ h => h) ?_
   refine rgA [6] ?_
   refine rt ?_
   rw [List.take_of_length_le (show l.length ≤ i by omega)]; simp [go_sem, Tryz.results123])

end Go.AM
namespace Go.AM
open Go.Proofs

set_option maxHeartbeats 4000000 in
/-- (*impl.board).fits -/
theorem dc_impl_board_fits (p : List TStep) (c : TChart) (ho : StepsOk p) (hla : c.acts.length = p.length) (hld : c.dues.length = p.length) (i : Nat) (hi : i < p.length) : DC Tryz.prog 99 [.ip [.isl 6 (p.map TStep.ro), .int .i64 c.status, .int .i64 c.now, .isl 1 (c.vars.map I1), .isl 1 (c.acts.map I1), .isl 1 (c.dues.map I1)], .int .i64 (i : Nat)] (.bool (fits p c (i : Int))) [] := by
 have hlen := ho.len
 obtain ⟨x, hx⟩ := at_some hi
 have hxS := nS_at hx
 have haa := actN_at (c := c) (show i < c.acts.length by omega)
 have hdd := dueN_at (c := c) (show i < c.dues.length by omega)
 have hkl := kids_len p (i : Int)
 have hkb : ∀ k ∈ (kids p (i : Int)), 0 ≤ k ∧ k.toNat < c.acts.length := fun k hk => by have := kids_bd hk; omega
 have hc1 := cnt_le c 1 (kids p (i : Int))
 have hc2 := cnt_le c 2 (kids p (i : Int))
 have hwn : IntKind.wrap .i64 (cnt c 1 (kids p (i : Int)) + cnt c 2 (kids p (i : Int))) = cnt c 1 (kids p (i : Int)) + cnt c 2 (kids p (i : Int)) := wrap64 (by omega) (by omega)
 have hpo : ¬ ((i : Int) = 0) → 0 ≤ x.par ∧ x.par < (i : Int) := fun h => by have := ho.parI (by omega) hi; rw [hxS] at this; exact this
 have hpi : i ≠ 0 → 0 ≤ x.par ∧ x.par < i := fun h => by have := ho.parI (by omega) hi; rwa [hxS] at this
 have hpa : decide ((i : Int) = 0) = false → p[x.par.toNat]? = some (nS p x.par.toNat) := fun h => by have h1 := hpi (by simpa using h); obtain ⟨y, hy⟩ := at_some (l := p) (show x.par.toNat < p.length by omega); rw [nS_at hy]; exact hy
 refine DC.intro tiOk Tryz.func99 rfl rfl rfl rfl rfl rfl rfl rfl [] ?_
 refine rg [0,1] ?_
 intro k hk; simp -dsimp [go_sem, -decide_eq_true_eq, -decide_eq_false_iff_not, hx, haa, hdd, hwn]
 repeat' first | apply And.intro | refine hk _ ?_ | intro hg | omega | exact True.intro | (refine And.elim (fun h8 h9 => ?_) (hpo ?_) <;> first | assumption | omega) | fail
 all_goals clear hk k
 refine rg [0,1,5,6,7] ?_
 intro k hk; simp -dsimp (maxSteps := 2000000) [go_sem, -decide_eq_true_eq, -decide_eq_false_iff_not, hx, haa, hdd, hwn]
 repeat' first | (refine Chk.keys ?_; simp only [go_sem, List.map_cons, List.map_nil, List.flatMap_cons, List.flatMap_nil, List.flatMap_append, List.append_nil, List.nil_append, List.cons_append]; decide +kernel) | apply And.intro | refine hk _ ?_ | intro hg | (refine CallK.intro (dc_impl_kids p (i : Int) (by omega)) ?_; simp -dsimp (maxSteps := 2000000) [go_sem, -decide_eq_true_eq, -decide_eq_false_iff_not, hx, haa, hdd, hwn]) | omega | exact True.intro | (refine And.elim (fun h8 h9 => ?_) (hpo ?_) <;> first | assumption | omega) | fail
 all_goals clear hk k
 refine rg [0,1,5,6,7,8,9] ?_
 intro k hk; simp -dsimp (maxSteps := 2000000) [go_sem, -decide_eq_true_eq, -decide_eq_false_iff_not, hx, haa, hdd, hwn]
 repeat' first | apply And.intro | refine hk _ ?_ | intro hg | ((first | refine CallK.intro (dc_impl_board_count p c (kids p (i : Int)) 1 (by omega) hkb) ?_ | refine CallK.intro (dc_impl_board_count p c (kids p (i : Int)) 2 (by omega) hkb) ?_); simp -dsimp (maxSteps := 2000000) [go_sem, -decide_eq_true_eq, -decide_eq_false_iff_not, hx, haa, hdd, hwn]) | omega | exact True.intro | (refine And.elim (fun h8 h9 => ?_) (hpo ?_) <;> first | assumption | omega) | fail
 all_goals clear hk k
 refine AW.seq ?_
 refine AW.cut ⟨122, [(0, .ip [.isl 6 (p.map TStep.ro), .int .i64 c.status, .int .i64 c.now, .isl 1 (c.vars.map I1), .isl 1 (c.acts.map I1), .isl 1 (c.dues.map I1)]), (1, .int .i64 (i : Nat)), (5, .ptr 5 6 0 0), (6, .int .i64 (actA c i)), (7, .sl 1031 1 0 (kids p (i : Int)).length), (8, .int .i64 (cnt c 1 (kids p (i : Int)))), (9, .int .i64 (cnt c 2 (kids p (i : Int)))), (55, .bool (decide (actA c i = 2 ∧ (i = 0 ∨ (nS p x.par.toNat).kind ≠ 4))))], [(5, some ⟨6, [x.ro]⟩), (1031, some ⟨1, (kids p (i : Int)).map I1⟩)]⟩ ?_ ?_
 ·skip
  refine rgK ?_
  intro k hk; simp +contextual -dsimp (maxSteps := 2000000) [go_sem, -decide_eq_true_eq, -decide_eq_false_iff_not, hx, haa, hdd, hwn, hpa]
  repeat' first | (refine Chk.keys ?_; simp only [go_sem, List.map_cons, List.map_nil, List.flatMap_cons, List.flatMap_nil, List.flatMap_append, List.append_nil, List.nil_append, List.cons_append]; decide +kernel) | apply And.intro | refine hk _ ?_ | (intro hg; try simp only [decide_eq_true_eq, decide_eq_false_iff_not] at hg) | omega | exact True.intro | (refine And.elim (fun h8 h9 => ?_) (hpo ?_) <;> first | assumption | omega) | fail
  all_goals clear hk k
  all_goals (show St.Less _ _; exact Less.of rfl (by simp [go_sem] <;> first | omega | grind) (by simp [go_sem]))
 ·skip
  refine AW.cond rfl ?_ ?_
  ·intro hc; try simp at hc
   all_goals try (exfalso; omega; done)
   all_goals (
    refine rg [4] ?_
    intro k hk; simp -dsimp [go_sem, -decide_eq_true_eq, -decide_eq_false_iff_not, hx, haa, hdd, hwn]
    repeat' first | apply And.intro | refine hk _ ?_ | intro hg | omega | exact True.intro | (refine And.elim (fun h8 h9 => ?_) (hpo ?_) <;> first | assumption | omega) | fail
    all_goals clear hk k
    refine rt ?_
    rw [fits_at hx]
    simp [go_sem, Tryz.results99] at * <;> grind)
  ·intro hc; try simp at hc
   all_goals try (exfalso; omega; done)
   all_goals (
    refine AW.skipN (fun _ h => h) ?_
    refine rg [0,1,5,6,7,8,9,10] ?_
    intro k hk; simp -dsimp [go_sem, -decide_eq_true_eq, -decide_eq_false_iff_not, hx, haa, hdd, hwn]
    repeat' first | apply And.intro | refine hk _ ?_ | intro hg | omega | exact True.intro | (refine And.elim (fun h8 h9 => ?_) (hpo ?_) <;> first | assumption | omega) | fail
    all_goals clear hk k
    refine AW.seq ?_
    refine rg [0,1,5,7,8,9,10,57] ?_
    intro k hk; simp -dsimp [go_sem, -decide_eq_true_eq, -decide_eq_false_iff_not, hx, haa, hdd, hwn]
    repeat' first | apply And.intro | refine hk _ ?_ | intro hg | omega | exact True.intro | (refine And.elim (fun h8 h9 => ?_) (hpo ?_) <;> first | assumption | omega) | fail
    all_goals clear hk k
    refine AW.cond rfl ?_ ?_
    ·intro hc; try simp at hc
     all_goals try (exfalso; omega; done)
     all_goals (
      refine rg [4] ?_
      intro k hk; simp +contextual -dsimp (maxSteps := 2000000) [go_sem, -decide_eq_true_eq, -decide_eq_false_iff_not, hx, haa, hdd, hwn]
      repeat' first | apply And.intro | refine hk _ ?_ | (intro hg; try simp only [decide_eq_true_eq, decide_eq_false_iff_not] at hg) | omega | exact True.intro | (refine And.elim (fun h8 h9 => ?_) (hpo ?_) <;> first | assumption | omega) | fail
      all_goals clear hk k
      all_goals (
       refine rt ?_
       rw [fits_at hx]
       simp [go_sem, Tryz.results99] at * <;> grind))
    ·intro hc; try simp at hc
     all_goals try (exfalso; omega; done)
     all_goals (
      refine AW.skipN (fun _ h => h) ?_
      refine AW.seq ?_
      refine rg [0,1,7,8,9,10,74] ?_
      intro k hk; simp -dsimp [go_sem, -decide_eq_true_eq, -decide_eq_false_iff_not, hx, haa, hdd, hwn]
      repeat' first | apply And.intro | refine hk _ ?_ | intro hg | omega | exact True.intro | (refine And.elim (fun h8 h9 => ?_) (hpo ?_) <;> first | assumption | omega) | fail
      all_goals clear hk k
      refine AW.block ?_
      refine AW.seq ?_
      refine rg [0,1,7,8,9,10,74,75] ?_
      intro k hk; simp -dsimp [go_sem, -decide_eq_true_eq, -decide_eq_false_iff_not, hx, haa, hdd, hwn]
      repeat' first | apply And.intro | refine hk _ ?_ | intro hg | omega | exact True.intro | (refine And.elim (fun h8 h9 => ?_) (hpo ?_) <;> first | assumption | omega) | fail
      all_goals clear hk k
      refine AW.cond rfl ?_ ?_
      ·intro hc; try simp at hc
       all_goals try (exfalso; omega; done)
       all_goals (
        refine AW.skipN (fun _ h => h) ?_
        refine AW.cond rfl ?_ ?_
        ·intro hc; try simp at hc
         all_goals try (exfalso; omega; done)
         all_goals (
          refine rg [0,1,10,79] ?_
          intro k hk; simp -dsimp [go_sem, -decide_eq_true_eq, -decide_eq_false_iff_not, hx, haa, hdd, hwn]
          repeat' first | apply And.intro | refine hk _ ?_ | intro hg | omega | exact True.intro | (refine And.elim (fun h8 h9 => ?_) (hpo ?_) <;> first | assumption | omega) | fail
          all_goals clear hk k
          refine AW.cond rfl ?_ ?_
          ·intro hc; try simp at hc
           all_goals try (exfalso; omega; done)
           all_goals (
            refine rg [4] ?_
            intro k hk; simp -dsimp [go_sem, -decide_eq_true_eq, -decide_eq_false_iff_not, hx, haa, hdd, hwn]
            repeat' first | apply And.intro | refine hk _ ?_ | intro hg | omega | exact True.intro | (refine And.elim (fun h8 h9 => ?_) (hpo ?_) <;> first | assumption | omega) | fail
            all_goals clear hk k
            refine rt ?_
            rw [fits_at hx]
            simp [go_sem, Tryz.results99] at * <;> grind)
          ·intro hc; try simp at hc
           all_goals try (exfalso; omega; done)
           all_goals (
            refine AW.skipN (fun _ h => h) ?_
            refine rg [4] ?_
            intro k hk; simp -dsimp (maxSteps := 2000000) [go_sem, -decide_eq_true_eq, -decide_eq_false_iff_not, hx, haa, hdd, hwn]
            repeat' first | apply And.intro | refine hk _ ?_ | intro hg | omega | exact True.intro | (refine And.elim (fun h8 h9 => ?_) (hpo ?_) <;> first | assumption | omega) | fail
            all_goals clear hk k
            refine rt ?_
            rw [fits_at hx]
            simp [go_sem, Tryz.results99] at * <;> grind))
        ·intro hc; try simp at hc
         all_goals try (exfalso; omega; done)
         all_goals (
          refine rg [0,1,7,8,9,10,74,80] ?_
          intro k hk; simp -dsimp [go_sem, -decide_eq_true_eq, -decide_eq_false_iff_not, hx, haa, hdd, hwn]
          repeat' first | apply And.intro | refine hk _ ?_ | intro hg | omega | exact True.intro | (refine And.elim (fun h8 h9 => ?_) (hpo ?_) <;> first | assumption | omega) | fail
          all_goals clear hk k
          refine AW.cond rfl ?_ ?_
          ·intro hc; try simp at hc
           all_goals try (exfalso; omega; done)
           all_goals (
            refine AW.cut ⟨122, [(0, .ip [.isl 6 (p.map TStep.ro), .int .i64 c.status, .int .i64 c.now, .isl 1 (c.vars.map I1), .isl 1 (c.acts.map I1), .isl 1 (c.dues.map I1)]), (1, .int .i64 (i : Nat)), (10, .bool false), (91, .bool (decide (cnt c 1 (kids p (i : Int)) = 0 ∨ cnt c 1 (kids p (i : Int)) + cnt c 2 (kids p (i : Int)) ≠ (kids p (i : Int)).length)))], []⟩ ?_ ?_
            ·skip
             refine rgK ?_
             intro k hk; simp +contextual -dsimp (maxSteps := 2000000) [go_sem, -decide_eq_true_eq, -decide_eq_false_iff_not, hx, haa, hdd, hwn]
             repeat' first | apply And.intro | refine hk _ ?_ | (intro hg; try simp only [decide_eq_true_eq, decide_eq_false_iff_not] at hg) | omega | exact True.intro | (refine And.elim (fun h8 h9 => ?_) (hpo ?_) <;> first | assumption | omega) | fail
             all_goals clear hk k
             all_goals (show St.Less _ _; exact Less.of rfl (by simp [go_sem] <;> first | omega | grind) (by simp [go_sem]))
            ·skip
             refine AW.cond rfl ?_ ?_
             ·intro hc; try simp at hc
              all_goals try (exfalso; omega; done)
              all_goals (
               refine rg [4] ?_
               intro k hk; simp -dsimp [go_sem, -decide_eq_true_eq, -decide_eq_false_iff_not, hx, haa, hdd, hwn]
               repeat' first | apply And.intro | refine hk _ ?_ | intro hg | omega | exact True.intro | (refine And.elim (fun h8 h9 => ?_) (hpo ?_) <;> first | assumption | omega) | fail
               all_goals clear hk k
               refine rt ?_
               rw [fits_at hx]
               simp [go_sem, Tryz.results99] at * <;> grind)
             ·intro hc; try simp at hc
              all_goals try (exfalso; omega; done)
              all_goals (
               refine AW.skipN (fun _ h => h) ?_
               refine rg [4] ?_
               intro k hk; simp -dsimp (maxSteps := 2000000) [go_sem, -decide_eq_true_eq, -decide_eq_false_iff_not, hx, haa, hdd, hwn]
               repeat' first | apply And.intro | refine hk _ ?_ | intro hg | omega | exact True.intro | (refine And.elim (fun h8 h9 => ?_) (hpo ?_) <;> first | assumption | omega) | fail
               all_goals clear hk k
               refine rt ?_
               rw [fits_at hx]
               simp [go_sem, Tryz.results99] at * <;> grind))
          ·intro hc; try simp at hc
           all_goals try (exfalso; omega; done)
           all_goals (
            refine rg [0,1,7,8,10,74,92] ?_
            intro k hk; simp -dsimp [go_sem, -decide_eq_true_eq, -decide_eq_false_iff_not, hx, haa, hdd, hwn]
            repeat' first | apply And.intro | refine hk _ ?_ | intro hg | omega | exact True.intro | (refine And.elim (fun h8 h9 => ?_) (hpo ?_) <;> first | assumption | omega) | fail
            all_goals clear hk k
            refine AW.cond rfl ?_ ?_
            ·intro hc; try simp at hc
             all_goals try (exfalso; omega; done)
             all_goals (
              refine AW.seq ?_
              refine rg [0,1,7,95] ?_
              intro k hk; simp -dsimp [go_sem, -decide_eq_true_eq, -decide_eq_false_iff_not, hx, haa, hdd, hwn]
              repeat' first | apply And.intro | refine hk _ ?_ | intro hg | omega | exact True.intro | (refine And.elim (fun h8 h9 => ?_) (hpo ?_) <;> first | assumption | omega) | fail
              all_goals clear hk k
              refine AW.cond rfl ?_ ?_
              ·intro hc; try simp at hc
               all_goals try (exfalso; omega; done)
               all_goals (
                refine rg [4] ?_
                intro k hk; simp -dsimp [go_sem, -decide_eq_true_eq, -decide_eq_false_iff_not, hx, haa, hdd, hwn]
                repeat' first | apply And.intro | refine hk _ ?_ | intro hg | omega | exact True.intro | (refine And.elim (fun h8 h9 => ?_) (hpo ?_) <;> first | assumption | omega) | fail
                all_goals clear hk k
                refine rt ?_
                rw [fits_at hx]
                simp [go_sem, Tryz.results99] at * <;> grind)
              ·intro hc; try simp at hc
               all_goals try (exfalso; omega; done)
               all_goals (
                refine AW.skipN (fun _ h => h) ?_
                have hkn := cnt_kids (show 0 < cnt c 1 (kids p (i : Int)) by omega)
                have hhd := head_at hkn
                have hhb := hkb _ (List.mem_of_getElem? hhd)
                have hha := actA_at hhb.2
                have hkp := List.length_pos_iff.2 hkn
                refine rgN [0,1,10] (fun _ h => h) ?_
                intro k hk; simp -dsimp (maxSteps := 2000000) [go_sem, -decide_eq_true_eq, -decide_eq_false_iff_not, hx, haa, hdd, hwn, hhd, hha]
                repeat' first | (refine Chk.keys ?_; simp only [go_sem, List.map_cons, List.map_nil, List.flatMap_cons, List.flatMap_nil, List.flatMap_append, List.append_nil, List.nil_append, List.cons_append]; decide +kernel) | apply And.intro | refine hk _ ?_ | intro hg | omega | exact True.intro | (refine And.elim (fun h8 h9 => ?_) (hpo ?_) <;> first | assumption | omega) | fail
                all_goals clear hk k
                refine rg [4] ?_
                intro k hk; simp -dsimp (maxSteps := 2000000) [go_sem, -decide_eq_true_eq, -decide_eq_false_iff_not, hx, haa, hdd, hwn]
                repeat' first | apply And.intro | refine hk _ ?_ | intro hg | omega | exact True.intro | (refine And.elim (fun h8 h9 => ?_) (hpo ?_) <;> first | assumption | omega) | fail
                all_goals clear hk k
                refine rt ?_
                rw [fits_at hx]
                simp [go_sem, Tryz.results99] at * <;> grind))
            ·intro hc; try simp at hc
             all_goals try (exfalso; omega; done)
             all_goals (
              refine rg [0,1,10,74,107] ?_
              intro k hk; simp -dsimp [go_sem, -decide_eq_true_eq, -decide_eq_false_iff_not, hx, haa, hdd, hwn]
              repeat' first | apply And.intro | refine hk _ ?_ | intro hg | omega | exact True.intro | (refine And.elim (fun h8 h9 => ?_) (hpo ?_) <;> first | assumption | omega) | fail
              all_goals clear hk k
              refine AW.cond rfl ?_ ?_
              ·intro hc; try simp at hc
               all_goals try (exfalso; omega; done)
               all_goals (
                refine rgN [0,1,10] (fun _ h => h) ?_
                intro k hk; simp -dsimp [go_sem, -decide_eq_true_eq, -decide_eq_false_iff_not, hx, haa, hdd, hwn]
                repeat' first | apply And.intro | refine hk _ ?_ | intro hg | omega | exact True.intro | (refine And.elim (fun h8 h9 => ?_) (hpo ?_) <;> first | assumption | omega) | fail
                all_goals clear hk k
                refine rg [4] ?_
                intro k hk; simp -dsimp (maxSteps := 2000000) [go_sem, -decide_eq_true_eq, -decide_eq_false_iff_not, hx, haa, hdd, hwn]
                repeat' first | apply And.intro | refine hk _ ?_ | intro hg | omega | exact True.intro | (refine And.elim (fun h8 h9 => ?_) (hpo ?_) <;> first | assumption | omega) | fail
                all_goals clear hk k
                refine rt ?_
                rw [fits_at hx]
                simp [go_sem, Tryz.results99] at * <;> grind)
              ·intro hc; try simp at hc
               all_goals try (exfalso; omega; done)
               all_goals (
                refine rg [0,1,10,109] ?_
                intro k hk; simp -dsimp [go_sem, -decide_eq_true_eq, -decide_eq_false_iff_not, hx, haa, hdd, hwn]
                repeat' first | apply And.intro | refine hk _ ?_ | intro hg | omega | exact True.intro | (refine And.elim (fun h8 h9 => ?_) (hpo ?_) <;> first | assumption | omega) | fail
                all_goals clear hk k
                refine AW.cond rfl ?_ ?_
                ·intro hc; try simp at hc
                 all_goals try (exfalso; omega; done)
                 all_goals (
                  refine rg [4] ?_
                  intro k hk; simp -dsimp [go_sem, -decide_eq_true_eq, -decide_eq_false_iff_not, hx, haa, hdd, hwn]
                  repeat' first | apply And.intro | refine hk _ ?_ | intro hg | omega | exact True.intro | (refine And.elim (fun h8 h9 => ?_) (hpo ?_) <;> first | assumption | omega) | fail
                  all_goals clear hk k
                  refine rt ?_
                  rw [fits_at hx]
                  simp [go_sem, Tryz.results99] at * <;> grind)
                ·intro hc; try simp at hc
                 all_goals try (exfalso; omega; done)
                 all_goals (
                  refine AW.skipN (fun _ h => h) ?_
                  refine rg [4] ?_
                  intro k hk; simp -dsimp (maxSteps := 2000000) [go_sem, -decide_eq_true_eq, -decide_eq_false_iff_not, hx, haa, hdd, hwn]
                  repeat' first | apply And.intro | refine hk _ ?_ | intro hg | omega | exact True.intro | (refine And.elim (fun h8 h9 => ?_) (hpo ?_) <;> first | assumption | omega) | fail
                  all_goals clear hk k
                  refine rt ?_
                  rw [fits_at hx]
                  simp [go_sem, Tryz.results99] at * <;> grind))))))
      ·intro hc; try simp at hc
       all_goals try (exfalso; omega; done)
       all_goals (
        refine rgN [0,1,7,8,9,10,74,75] (fun _ h => h) ?_
        intro k hk; simp -dsimp [go_sem, -decide_eq_true_eq, -decide_eq_false_iff_not, hx, haa, hdd, hwn]
        repeat' first | apply And.intro | refine hk _ ?_ | intro hg | omega | exact True.intro | (refine And.elim (fun h8 h9 => ?_) (hpo ?_) <;> first | assumption | omega) | fail
        all_goals clear hk k
        refine AW.cond rfl ?_ ?_
        ·intro hc; try simp at hc
         all_goals try (exfalso; omega; done)
         all_goals (
          refine rg [0,1,10,79] ?_
          intro k hk; simp -dsimp [go_sem, -decide_eq_true_eq, -decide_eq_false_iff_not, hx, haa, hdd, hwn]
          repeat' first | apply And.intro | refine hk _ ?_ | intro hg | omega | exact True.intro | (refine And.elim (fun h8 h9 => ?_) (hpo ?_) <;> first | assumption | omega) | fail
          all_goals clear hk k
          refine AW.cond rfl ?_ ?_
          ·intro hc; try simp at hc
           all_goals try (exfalso; omega; done)
           all_goals (
            refine rg [4] ?_
            intro k hk; simp -dsimp [go_sem, -decide_eq_true_eq, -decide_eq_false_iff_not, hx, haa, hdd, hwn]
            repeat' first | apply And.intro | refine hk _ ?_ | intro hg | omega | exact True.intro | (refine And.elim (fun h8 h9 => ?_) (hpo ?_) <;> first | assumption | omega) | fail
            all_goals clear hk k
            refine rt ?_
            rw [fits_at hx]
            simp [go_sem, Tryz.results99] at * <;> grind)
          ·intro hc; try simp at hc
           all_goals try (exfalso; omega; done)
           all_goals (
            refine AW.skipN (fun _ h => h) ?_
            refine rg [4] ?_
            intro k hk; simp -dsimp (maxSteps := 2000000) [go_sem, -decide_eq_true_eq, -decide_eq_false_iff_not, hx, haa, hdd, hwn]
            repeat' first | apply And.intro | refine hk _ ?_ | intro hg | omega | exact True.intro | (refine And.elim (fun h8 h9 => ?_) (hpo ?_) <;> first | assumption | omega) | fail
            all_goals clear hk k
            refine rt ?_
            rw [fits_at hx]
            simp [go_sem, Tryz.results99] at * <;> grind))
        ·intro hc; try simp at hc
         all_goals try (exfalso; omega; done)
         all_goals (
          refine rg [0,1,7,8,9,10,74,80] ?_
          intro k hk; simp -dsimp [go_sem, -decide_eq_true_eq, -decide_eq_false_iff_not, hx, haa, hdd, hwn]
          repeat' first | apply And.intro | refine hk _ ?_ | intro hg | omega | exact True.intro | (refine And.elim (fun h8 h9 => ?_) (hpo ?_) <;> first | assumption | omega) | fail
          all_goals clear hk k
          refine AW.cond rfl ?_ ?_
          ·intro hc; try simp at hc
           all_goals try (exfalso; omega; done)
           all_goals (
            refine AW.cut ⟨122, [(0, .ip [.isl 6 (p.map TStep.ro), .int .i64 c.status, .int .i64 c.now, .isl 1 (c.vars.map I1), .isl 1 (c.acts.map I1), .isl 1 (c.dues.map I1)]), (1, .int .i64 (i : Nat)), (10, .bool false), (91, .bool (decide (cnt c 1 (kids p (i : Int)) = 0 ∨ cnt c 1 (kids p (i : Int)) + cnt c 2 (kids p (i : Int)) ≠ (kids p (i : Int)).length)))], []⟩ ?_ ?_
            ·skip
             refine rgK ?_
             intro k hk; simp +contextual -dsimp (maxSteps := 2000000) [go_sem, -decide_eq_true_eq, -decide_eq_false_iff_not, hx, haa, hdd, hwn]
             repeat' first | apply And.intro | refine hk _ ?_ | (intro hg; try simp only [decide_eq_true_eq, decide_eq_false_iff_not] at hg) | omega | exact True.intro | (refine And.elim (fun h8 h9 => ?_) (hpo ?_) <;> first | assumption | omega) | fail
             all_goals clear hk k
             all_goals (show St.Less _ _; exact Less.of rfl (by simp [go_sem] <;> first | omega | grind) (by simp [go_sem]))
            ·skip
             refine AW.cond rfl ?_ ?_
             ·intro hc; try simp at hc
              all_goals try (exfalso; omega; done)
              all_goals (
               refine rg [4] ?_
               intro k hk; simp -dsimp [go_sem, -decide_eq_true_eq, -decide_eq_false_iff_not, hx, haa, hdd, hwn]
               repeat' first | apply And.intro | refine hk _ ?_ | intro hg | omega | exact True.intro | (refine And.elim (fun h8 h9 => ?_) (hpo ?_) <;> first | assumption | omega) | fail
               all_goals clear hk k
               refine rt ?_
               rw [fits_at hx]
               simp [go_sem, Tryz.results99] at * <;> grind)
             ·intro hc; try simp at hc
              all_goals try (exfalso; omega; done)
              all_goals (
               refine AW.skipN (fun _ h => h) ?_
               refine rg [4] ?_
               intro k hk; simp -dsimp (maxSteps := 2000000) [go_sem, -decide_eq_true_eq, -decide_eq_false_iff_not, hx, haa, hdd, hwn]
               repeat' first | apply And.intro | refine hk _ ?_ | intro hg | omega | exact True.intro | (refine And.elim (fun h8 h9 => ?_) (hpo ?_) <;> first | assumption | omega) | fail
               all_goals clear hk k
               refine rt ?_
               rw [fits_at hx]
               simp [go_sem, Tryz.results99] at * <;> grind))
          ·intro hc; try simp at hc
           all_goals try (exfalso; omega; done)
           all_goals (
            refine rg [0,1,7,8,10,74,92] ?_
            intro k hk; simp -dsimp [go_sem, -decide_eq_true_eq, -decide_eq_false_iff_not, hx, haa, hdd, hwn]
            repeat' first | apply And.intro | refine hk _ ?_ | intro hg | omega | exact True.intro | (refine And.elim (fun h8 h9 => ?_) (hpo ?_) <;> first | assumption | omega) | fail
            all_goals clear hk k
            refine AW.cond rfl ?_ ?_
            ·intro hc; try simp at hc
             all_goals try (exfalso; omega; done)
             all_goals (
              refine AW.seq ?_
              refine rg [0,1,7,95] ?_
              intro k hk; simp -dsimp [go_sem, -decide_eq_true_eq, -decide_eq_false_iff_not, hx, haa, hdd, hwn]
              repeat' first | apply And.intro | refine hk _ ?_ | intro hg | omega | exact True.intro | (refine And.elim (fun h8 h9 => ?_) (hpo ?_) <;> first | assumption | omega) | fail
              all_goals clear hk k
              refine AW.cond rfl ?_ ?_
              ·intro hc; try simp at hc
               all_goals try (exfalso; omega; done)
               all_goals (
                refine rg [4] ?_
                intro k hk; simp -dsimp [go_sem, -decide_eq_true_eq, -decide_eq_false_iff_not, hx, haa, hdd, hwn]
                repeat' first | apply And.intro | refine hk _ ?_ | intro hg | omega | exact True.intro | (refine And.elim (fun h8 h9 => ?_) (hpo ?_) <;> first | assumption | omega) | fail
                all_goals clear hk k
                refine rt ?_
                rw [fits_at hx]
                simp [go_sem, Tryz.results99] at * <;> grind)
              ·intro hc; try simp at hc
               all_goals try (exfalso; omega; done)
               all_goals (
                refine AW.skipN (fun _ h => h) ?_
                have hkn := cnt_kids (show 0 < cnt c 1 (kids p (i : Int)) by omega)
                have hhd := head_at hkn
                have hhb := hkb _ (List.mem_of_getElem? hhd)
                have hha := actA_at hhb.2
                have hkp := List.length_pos_iff.2 hkn
                refine rgN [0,1,10] (fun _ h => h) ?_
                intro k hk; simp -dsimp (maxSteps := 2000000) [go_sem, -decide_eq_true_eq, -decide_eq_false_iff_not, hx, haa, hdd, hwn, hhd, hha]
                repeat' first | (refine Chk.keys ?_; simp only [go_sem, List.map_cons, List.map_nil, List.flatMap_cons, List.flatMap_nil, List.flatMap_append, List.append_nil, List.nil_append, List.cons_append]; decide +kernel) | apply And.intro | refine hk _ ?_ | intro hg | omega | exact True.intro | (refine And.elim (fun h8 h9 => ?_) (hpo ?_) <;> first | assumption | omega) | fail
                all_goals clear hk k
                refine rg [4] ?_
                intro k hk; simp -dsimp (maxSteps := 2000000) [go_sem, -decide_eq_true_eq, -decide_eq_false_iff_not, hx, haa, hdd, hwn]
                repeat' first | apply And.intro | refine hk _ ?_ | intro hg | omega | exact True.intro | (refine And.elim (fun h8 h9 => ?_) (hpo ?_) <;> first | assumption | omega) | fail
                all_goals clear hk k
                refine rt ?_
                rw [fits_at hx]
                simp [go_sem, Tryz.results99] at * <;> grind))
            ·intro hc; try simp at hc
             all_goals try (exfalso; omega; done)
             all_goals (
              refine rg [0,1,10,74,107] ?_
              intro k hk; simp -dsimp [go_sem, -decide_eq_true_eq, -decide_eq_false_iff_not, hx, haa, hdd, hwn]
              repeat' first | apply And.intro | refine hk _ ?_ | intro hg | omega | exact True.intro | (refine And.elim (fun h8 h9 => ?_) (hpo ?_) <;> first | assumption | omega) | fail
              all_goals clear hk k
              refine AW.cond rfl ?_ ?_
              ·intro hc; try simp at hc
               all_goals try (exfalso; omega; done)
               all_goals (
                refine rgN [0,1,10] (fun _ h => h) ?_
                intro k hk; simp -dsimp [go_sem, -decide_eq_true_eq, -decide_eq_false_iff_not, hx, haa, hdd, hwn]
                repeat' first | apply And.intro | refine hk _ ?_ | intro hg | omega | exact True.intro | (refine And.elim (fun h8 h9 => ?_) (hpo ?_) <;> first | assumption | omega) | fail
                all_goals clear hk k
                refine rg [4] ?_
                intro k hk; simp -dsimp (maxSteps := 2000000) [go_sem, -decide_eq_true_eq, -decide_eq_false_iff_not, hx, haa, hdd, hwn]
                repeat' first | apply And.intro | refine hk _ ?_ | intro hg | omega | exact True.intro | (refine And.elim (fun h8 h9 => ?_) (hpo ?_) <;> first | assumption | omega) | fail
                all_goals clear hk k
                refine rt ?_
                rw [fits_at hx]
                simp [go_sem, Tryz.results99] at * <;> grind)
              ·intro hc; try simp at hc
               all_goals try (exfalso; omega; done)
               all_goals (
                refine rg [0,1,10,109] ?_
                intro k hk; simp -dsimp [go_sem, -decide_eq_true_eq, -decide_eq_false_iff_not, hx, haa, hdd, hwn]
                repeat' first | apply And.intro | refine hk _ ?_ | intro hg | omega | exact True.intro | (refine And.elim (fun h8 h9 => ?_) (hpo ?_) <;> first | assumption | omega) | fail
                all_goals clear hk k
                refine AW.cond rfl ?_ ?_
                ·intro hc; try simp at hc
                 all_goals try (exfalso; omega; done)
                 all_goals (
                  refine rg [4] ?_
                  intro k hk; simp -dsimp [go_sem, -decide_eq_true_eq, -decide_eq_false_iff_not, hx, haa, hdd, hwn]
                  repeat' first | apply And.intro | refine hk _ ?_ | intro hg | omega | exact True.intro | (refine And.elim (fun h8 h9 => ?_) (hpo ?_) <;> first | assumption | omega) | fail
                  all_goals clear hk k
                  refine rt ?_
                  rw [fits_at hx]
                  simp [go_sem, Tryz.results99] at * <;> grind)
                ·intro hc; try simp at hc
                 all_goals try (exfalso; omega; done)
                 all_goals (
                  refine AW.skipN (fun _ h => h) ?_
                  refine rg [4] ?_
                  intro k hk; simp -dsimp (maxSteps := 2000000) [go_sem, -decide_eq_true_eq, -decide_eq_false_iff_not, hx, haa, hdd, hwn]
                  repeat' first | apply And.intro | refine hk _ ?_ | intro hg | omega | exact True.intro | (refine And.elim (fun h8 h9 => ?_) (hpo ?_) <;> first | assumption | omega) | fail
                  all_goals clear hk k
                  refine rt ?_
                  rw [fits_at hx]
                  simp [go_sem, Tryz.results99] at * <;> grind))))))))

end Go.AM
namespace Go.AM
open Go.Proofs

/-- (*impl.board).isOrdered -/
theorem dc_impl_board_isOrdered (p : List TStep) (c : TChart) (ho : StepsOk p) (hla : c.acts.length = p.length) (hld : c.dues.length = p.length) : DC Tryz.prog 79 [.ip [.isl 6 (p.map TStep.ro), .int .i64 c.status, .int .i64 c.now, .isl 1 (c.vars.map I1), .isl 1 (c.acts.map I1), .isl 1 (c.dues.map I1)]] (.bool (ordB p c)) [] := by
 have hlen := ho.len
 have ha0 := actN_at (c := c) (k := 0) (by omega)
 refine DC.intro tiOk Tryz.func79 rfl rfl rfl rfl rfl rfl rfl rfl [] ?_
 refine rgA [0] ?_
 refine AW.seq ?_
 refine rgA [0,9] ?_
 refine AW.cond rfl ?_ ?_
 ·intro hc; try simp at hc
  all_goals (
   refine rg [2] ?_
   intro k hk; simp +contextual -dsimp (maxSteps := 2000000) [go_sem, -decide_eq_true_eq, -decide_eq_false_iff_not]
   repeat' first | apply And.intro | refine hk _ ?_ | (intro hg; try simp only [decide_eq_true_eq, decide_eq_false_iff_not] at hg) | ((first | refine CallK.intro (dc_impl_areSmall c.acts 0 (by omega)) ?_ | refine CallK.intro (dc_impl_areSmall c.dues 0 (by omega)) ?_); simp +contextual -dsimp (maxSteps := 2000000) [go_sem, -decide_eq_true_eq, -decide_eq_false_iff_not]) | omega | exact True.intro
   all_goals clear hk k
   all_goals (
    refine rt ?_
    first | (have hs : c.status = 1 := (by simpa using ‹c.status = 1›); rw [ordB, if_neg (by simp [hs]), allFit_miss hlt (by simpa using hc)]; simp [go_sem, Tryz.results79]; done) | (have hie : i = p.length := (by omega); rw [hie] at hall; have hs : c.status = 1 := (by simpa using ‹c.status = 1›); rw [ordB, if_neg (by simp [hs]), hall]; simp [go_sem, Tryz.results79]; done) | (rw [ordB, if_pos (by simpa using ‹¬ c.status = 1›), ← smallB_zero, ← smallB_zero]; simp [go_sem, Tryz.results79, *] <;> simp_all)))
 ·intro hc; try simp at hc
  all_goals (
   refine AW.skipN (fun _ h => h) ?_
   refine AW.seq ?_
   refine rgA [0,28,29] ?_
   refine AW.block ?_
   refine AW.loopI (fun i : Nat => ⟨45, [(0, .ip [.isl 6 (p.map TStep.ro), .int .i64 c.status, .int .i64 c.now, .isl 1 (c.vars.map I1), .isl 1 (c.acts.map I1), .isl 1 (c.dues.map I1)]), (28, .int .i64 p.length), (29, .int .i64 i)], []⟩) (fun i => i ≤ p.length ∧ allFit p c i = true) (fun i => p.length - i) (0) (by simp [allFit]) (Less.of rfl (by simp [go_sem]) (by simp [go_sem])) ?_
   rintro i ⟨hi, hall⟩
   refine rgA [0,28,29,30] ?_
   refine AW.seq ?_
   refine AW.cond rfl ?_ ?_
   ·intro hc; try simp at hc
    all_goals (
     have hlt : i < p.length := by assumption
     refine AW.skipN (fun _ h => h) ?_
     refine AW.seq ?_
     refine AW.block ?_
     refine rgA [0,3,28,29] ?_
     refine rg [0,28,29,35] ?_
     intro k hk; simp -dsimp (maxSteps := 2000000) [go_sem, -decide_eq_true_eq, -decide_eq_false_iff_not]
     repeat' first | apply And.intro | refine hk _ ?_ | intro hg | (refine CallK.intro (dc_impl_board_fits p c ho hla hld i hlt) ?_; simp -dsimp (maxSteps := 2000000) [go_sem, -decide_eq_true_eq, -decide_eq_false_iff_not]) | omega | exact True.intro
     all_goals clear hk k
     refine AW.cond rfl ?_ ?_
     ·intro hc; try simp at hc
      all_goals (
       refine rgA [2] ?_
       refine rt ?_
       first | (have hs : c.status = 1 := (by simpa using ‹c.status = 1›); rw [ordB, if_neg (by simp [hs]), allFit_miss hlt (by simpa using hc)]; simp [go_sem, Tryz.results79]; done) | (have hie : i = p.length := (by omega); rw [hie] at hall; have hs : c.status = 1 := (by simpa using ‹c.status = 1›); rw [ordB, if_neg (by simp [hs]), hall]; simp [go_sem, Tryz.results79]; done) | (rw [ordB, if_pos (by simpa using ‹¬ c.status = 1›), ← smallB_zero, ← smallB_zero]; simp [go_sem, Tryz.results79, *] <;> simp_all))
     ·intro hc; try simp at hc
      all_goals (
       refine AW.skipN (fun _ h => h) ?_
       refine rgKA ?_
       show ∃ _, _
       have hw := wrapi hlt (by omega)
       refine ⟨i + 1, ⟨by omega, by rw [allFit_step, hall]; simpa using hc⟩, by omega, Less.of rfl (by simp [go_sem, hw]) (by simp [go_sem])⟩))
   ·intro hc; try simp at hc
    all_goals (
     refine AW.exitN (fun _ h => h) ?_
     refine rg [2] ?_
     intro k hk; simp -dsimp (maxSteps := 2000000) [go_sem, -decide_eq_true_eq, -decide_eq_false_iff_not, ha0]
     repeat' first | apply And.intro | refine hk _ ?_ | intro hg | omega | exact True.intro
     all_goals clear hk k
     refine rt ?_
     first | (have hs : c.status = 1 := (by simpa using ‹c.status = 1›); rw [ordB, if_neg (by simp [hs]), allFit_miss hlt (by simpa using hc)]; simp [go_sem, Tryz.results79]; done) | (have hie : i = p.length := (by omega); rw [hie] at hall; have hs : c.status = 1 := (by simpa using ‹c.status = 1›); rw [ordB, if_neg (by simp [hs]), hall]; simp [go_sem, Tryz.results79]; done) | (rw [ordB, if_pos (by simpa using ‹¬ c.status = 1›), ← smallB_zero, ← smallB_zero]; simp [go_sem, Tryz.results79, *] <;> simp_all)))

/-- impl.ChartFault -/
theorem dc_impl_ChartFault (p : List TStep) (c : TChart) (hp : p.length ≤ 9223372036854775807) (hg : ∀ e ∈ p, e.gok) (hc0 : c.gok) : DC Tryz.prog 60 [.isl 6 (p.map TStep.ro), .agg c.ro] (.int .i64 (chartF p c)) [] := by
 obtain ⟨g0, g1, g2⟩ := hc0
 refine DC.intro tiOk Tryz.func60 rfl rfl rfl rfl rfl rfl rfl rfl [] ?_
 refine rgA [0,3] ?_
 refine AW.seq ?_
 refine AW.cut ⟨64, [(0, .isl 6 (p.map TStep.ro)), (3, .ptr 3 5 0 0), (5, .int .i64 (chart1 p c))], [(3, some ⟨5, [c.ro]⟩)]⟩ ?_ ?_
 ·skip
  refine rgK ?_
  intro k hk; simp +contextual -dsimp (maxSteps := 2000000) [go_sem, -decide_eq_true_eq, -decide_eq_false_iff_not]
  repeat' first | (refine Chk.keys ?_; simp only [go_sem, List.map_cons, List.map_nil, List.flatMap_cons, List.flatMap_nil, List.flatMap_append, List.append_nil, List.nil_append, List.cons_append]; decide +kernel) | apply And.intro | refine hk _ ?_ | (intro hg; try simp only [decide_eq_true_eq, decide_eq_false_iff_not] at hg) | ((first | refine CallK.intro (dc_impl_ProcFault p hp hg) ?_ | refine CallK.intro (dc_impl_inRange _ _ _) ?_ | refine CallK.intro (dc_impl_isTime _) ?_ | refine CallK.intro (dc_impl_codeIf _ _) ?_ | refine CallK.intro (dc_impl_VarsFault c.vars g0) ?_ | refine CallK.intro (dc_impl_firstCode [_, _] (by simp)) ?_ | refine CallK.intro (dc_impl_firstCode [_, _, _] (by simp)) ?_ | refine CallK.intro (dc_impl_firstCode [_, _, _, _] (by simp)) ?_); simp +contextual -dsimp (maxSteps := 2000000) [go_sem, -decide_eq_true_eq, -decide_eq_false_iff_not]) | omega | exact True.intro
  all_goals clear hk k
  all_goals (show St.Less _ _; exact Less.of rfl (by simp [go_sem, chart1, firstC_cons, firstC_nil] <;> grind) (by simp [go_sem]))
 ·skip
  refine rgA [0,3,5,41] ?_
  refine AW.cond rfl ?_ ?_
  ·intro hc; try simp at hc
   all_goals (
    refine rgA [4] ?_
    refine rt ?_
    first | (rw [chartF_1 (by first | assumption | simpa using hc)]; simp [go_sem, Tryz.results60]; done) | (rw [chartF_3 h0 hs]; simp [go_sem, Tryz.results60]; (try grind); done) | (rw [chartF_2 h0, if_pos (by simpa using hc)]; simp [go_sem, Tryz.results60]))
  ·intro hc; try simp at hc
   all_goals (
    refine AW.skipN (fun _ h => h) ?_
    refine AW.seq ?_
    have h0 : chart1 p c = 0 := by first | assumption | simpa using hc
    obtain ⟨k1, k2, k3, k4, k5, k6⟩ := chart1_ok h0
    have ho := (procOk k1).steps
    have k3' := inR_iff.1 k3
    have hwn : IntKind.wrap .i64 (c.now + 99) = c.now + 99 := wrap64 (by omega) (by omega)
    refine AW.cut ⟨64, [(0, .isl 6 (p.map TStep.ro)), (3, .ptr 3 5 0 0), (55, .bool (decide (smallB c.acts 2 = false ∨ smallB c.dues (c.now + 99) = false)))], [(3, some ⟨5, [c.ro]⟩)]⟩ ?_ ?_
    ·skip
     refine rgK ?_
     intro k hk; simp +contextual -dsimp (maxSteps := 2000000) [go_sem, -decide_eq_true_eq, -decide_eq_false_iff_not, hwn]
     repeat' first | apply And.intro | refine hk _ ?_ | (intro hg; try simp only [decide_eq_true_eq, decide_eq_false_iff_not] at hg) | ((first | refine CallK.intro (dc_impl_areSmall c.acts 2 g1) ?_ | refine CallK.intro (dc_impl_areSmall c.dues (c.now + 99) g2) ?_); simp +contextual -dsimp (maxSteps := 2000000) [go_sem, -decide_eq_true_eq, -decide_eq_false_iff_not, hwn]) | omega | exact True.intro
     all_goals clear hk k
     all_goals (show St.Less _ _; exact Less.of rfl (by simp [go_sem] <;> first | omega | grind) (by simp [go_sem]))
    ·skip
     refine AW.cond rfl ?_ ?_
     ·intro hc; try simp at hc
      all_goals (
       refine rgA [4] ?_
       refine rt ?_
       first | (rw [chartF_1 (by first | assumption | simpa using hc)]; simp [go_sem, Tryz.results60]; done) | (rw [chartF_3 h0 hs]; simp [go_sem, Tryz.results60]; (try grind); done) | (rw [chartF_2 h0, if_pos (by simpa using hc)]; simp [go_sem, Tryz.results60]))
     ·intro hc; try simp at hc
      all_goals (
       refine AW.skipN (fun _ h => h) ?_
       have hs : ¬ (smallB c.acts 2 = false ∨ smallB c.dues (c.now + 99) = false) := by simpa using hc
       refine rgA [6] ?_
       refine rg [4] ?_
       intro k hk; simp -dsimp (maxSteps := 2000000) [go_sem, -decide_eq_true_eq, -decide_eq_false_iff_not]
       repeat' first | apply And.intro | refine hk _ ?_ | intro hg | ((first | refine CallK.intro (dc_impl_board_isOrdered p c ho k5 k6) ?_ | refine CallK.intro (dc_impl_codeIf _ _) ?_); simp -dsimp (maxSteps := 2000000) [go_sem, -decide_eq_true_eq, -decide_eq_false_iff_not]) | omega | exact True.intro
       all_goals clear hk k
       refine rt ?_
       first | (rw [chartF_1 (by first | assumption | simpa using hc)]; simp [go_sem, Tryz.results60]; done) | (rw [chartF_3 h0 hs]; simp [go_sem, Tryz.results60]; (try grind); done) | (rw [chartF_2 h0, if_pos (by simpa using hc)]; simp [go_sem, Tryz.results60])))

end Go.AM
namespace Go.AM
open Go.Proofs

/-- impl.isPlace -/
theorem dc_impl_isPlace (n : Int) (m : Nat) (hm : m ≤ 9223372036854775807) : DC Tryz.prog 41 [.int .i64 n, .int .i64 (m : Nat)] (.bool (inR n 0 ((m : Int) - 1))) [] := by
 have hw : IntKind.wrap .i64 ((m : Int) - 1) = (m : Int) - 1 := wrap64 (by omega) (by omega)
 refine DC.intro tiOk Tryz.func41 rfl rfl rfl rfl rfl rfl rfl rfl [] ?_
 refine rg [0,1] ?_
 intro k hk; simp -dsimp [go_sem, -decide_eq_true_eq, -decide_eq_false_iff_not, hw]
 repeat' first | apply And.intro | refine hk _ ?_ | intro hg | omega | exact True.intro
 all_goals clear hk k
 refine rg [4] ?_
 intro k hk; simp -dsimp (maxSteps := 2000000) [go_sem, -decide_eq_true_eq, -decide_eq_false_iff_not, hw]
 repeat' first | apply And.intro | refine hk _ ?_ | intro hg | (refine CallK.intro (dc_impl_inRange _ _ _) ?_; simp -dsimp (maxSteps := 2000000) [go_sem, -decide_eq_true_eq, -decide_eq_false_iff_not, hw]) | omega | exact True.intro
 all_goals clear hk k
 refine rt ?_
 simp [go_sem, Tryz.results41]

/-- impl.procsFault -/
theorem dc_impl_procsFault (l : List TProc) (hl : l.length ≤ 9223372036854775807 ∧ ∀ e ∈ l, e.gok) : DC Tryz.prog 58 [.isl 1 (l.map TProc.ro)] (.int .i64 (procsF l)) [] := by
 obtain ⟨hl, hg⟩ := hl
 refine DC.intro tiOk Tryz.func58 rfl rfl rfl rfl rfl rfl rfl rfl [] ?_
 refine rgA [0] ?_
 refine AW.seq ?_
 refine rg [0,9] ?_
 intro k hk; simp -dsimp (maxSteps := 2000000) [go_sem, -decide_eq_true_eq, -decide_eq_false_iff_not]
 repeat' first | apply And.intro | refine hk _ ?_ | intro hg | (refine CallK.intro (dc_impl_inRange _ _ _) ?_; simp -dsimp (maxSteps := 2000000) [go_sem, -decide_eq_true_eq, -decide_eq_false_iff_not]) | omega | exact True.intro
 all_goals clear hk k
 refine AW.cond rfl ?_ ?_
 ·intro hc; try simp at hc
  all_goals (
   refine rgA [2] ?_
   refine rt ?_
   first | (rw [procsF_ok hR (fun k hk => hall k (by omega))]; simp [go_sem, Tryz.results58]; done) | (rw [procsF_hit hR hlt hall (by rw [hxp]; first | assumption | simpa using hc), hxp]; simp [go_sem, Tryz.results58]; done) | (rw [procsF_len (by simpa using hc)]; simp [go_sem, Tryz.results58]))
 ·intro hc; try simp at hc
  all_goals (
   refine AW.skipN (fun _ h => h) ?_
   refine AW.seq ?_
   have hR : inR l.length 1 3 = true := by simpa using hc
   refine rgA [10,11,12] ?_
   refine AW.block ?_
   refine AW.loopI (fun i : Nat => ⟨23, [(10, .isl 1 (l.map TProc.ro)), (11, .int .i64 l.length), (12, .int .i64 i)], []⟩) (fun i => i ≤ l.length ∧ ∀ k, k < i → procAt l k = 0) (fun i => l.length - i) (0) (by simp) (Less.of rfl (by simp [go_sem]) (by simp [go_sem])) ?_
   rintro i ⟨hi, hall⟩
   refine rgA [10,11,12,13] ?_
   refine AW.seq ?_
   refine AW.cond rfl ?_ ?_
   ·intro hc; try simp at hc
    all_goals (
     have hlt : i < l.length := by assumption
     obtain ⟨x, hx⟩ := at_some hlt
     have hxp := procAt_at hx
     have gx : x.steps.length ≤ 9223372036854775807 ∧ ∀ e ∈ x.steps, e.gok := hg x (List.mem_of_getElem? hx)
     refine AW.skipN (fun _ h => h) ?_
     refine AW.seq ?_
     refine AW.block ?_
     refine rg [4,10,11,12] ?_
     intro k hk; simp -dsimp [go_sem, -decide_eq_true_eq, -decide_eq_false_iff_not, hx]
     repeat' first | apply And.intro | refine hk _ ?_ | intro hg | omega | exact True.intro
     all_goals clear hk k
     refine rg [5,10,11,12] ?_
     intro k hk; simp -dsimp (maxSteps := 2000000) [go_sem, -decide_eq_true_eq, -decide_eq_false_iff_not, hx]
     repeat' first | apply And.intro | refine hk _ ?_ | intro hg | (refine CallK.intro (dc_impl_ProcFault x.steps gx.1 gx.2) ?_; simp -dsimp (maxSteps := 2000000) [go_sem, -decide_eq_true_eq, -decide_eq_false_iff_not, hx]) | omega | exact True.intro
     all_goals clear hk k
     refine rg [5,10,11,12,20] ?_
     intro k hk; simp -dsimp [go_sem, -decide_eq_true_eq, -decide_eq_false_iff_not, hx]
     repeat' first | apply And.intro | refine hk _ ?_ | intro hg | omega | exact True.intro
     all_goals clear hk k
     refine AW.cond rfl ?_ ?_
     ·intro hc; try simp at hc
      all_goals (
       refine rg [2] ?_
       intro k hk; simp -dsimp [go_sem, -decide_eq_true_eq, -decide_eq_false_iff_not, hx]
       repeat' first | apply And.intro | refine hk _ ?_ | intro hg | omega | exact True.intro
       all_goals clear hk k
       refine rt ?_
       first | (rw [procsF_ok hR (fun k hk => hall k (by omega))]; simp [go_sem, Tryz.results58]; done) | (rw [procsF_hit hR hlt hall (by rw [hxp]; first | assumption | simpa using hc), hxp]; simp [go_sem, Tryz.results58]; done) | (rw [procsF_len (by simpa using hc)]; simp [go_sem, Tryz.results58]))
     ·intro hc; try simp at hc
      all_goals (
       refine AW.skipN (fun _ h => h) ?_
       refine rgK ?_
       intro k hk; simp -dsimp [go_sem, -decide_eq_true_eq, -decide_eq_false_iff_not, hx]
       repeat' first | apply And.intro | refine hk _ ?_ | intro hg | omega | exact True.intro
       all_goals clear hk k
       show ∃ _, _
       have hw := wrapi hlt (by omega)
       refine ⟨i + 1, ⟨by omega, upto hall (by rw [hxp]; first | assumption | simpa using hc)⟩, by omega, Less.of rfl (by simp [go_sem, hw]) (by simp [go_sem])⟩))
   ·intro hc; try simp at hc
    all_goals (
     refine AW.exitN (fun _ h => h) ?_
     refine rgA [2] ?_
     refine rt ?_
     first | (rw [procsF_ok hR (fun k hk => hall k (by omega))]; simp [go_sem, Tryz.results58]; done) | (rw [procsF_hit hR hlt hall (by rw [hxp]; first | assumption | simpa using hc), hxp]; simp [go_sem, Tryz.results58]; done) | (rw [procsF_len (by simpa using hc)]; simp [go_sem, Tryz.results58])))

/-- (impl.Engine).steps -/
theorem dc_impl_Engine_steps (e : TEngine) (x : TInst) (h0 : 0 ≤ x.proc) (y : TProc) (hy : e.procs[x.proc.toNat]? = some y) : DC Tryz.prog 61 [.agg e.ro, .agg x.ro] (.isl 6 (y.steps.map TStep.ro)) [] := by
 have hlt := at_lt hy
 refine DC.intro tiOk Tryz.func61 rfl rfl rfl rfl rfl rfl rfl rfl [] ?_
 refine rg [2,3] ?_
 intro k hk; simp -dsimp [go_sem, -decide_eq_true_eq, -decide_eq_false_iff_not, hy]
 repeat' first | apply And.intro | refine hk _ ?_ | intro hg | omega | exact True.intro
 all_goals clear hk k
 refine rg [4] ?_
 intro k hk; simp -dsimp (maxSteps := 2000000) [go_sem, -decide_eq_true_eq, -decide_eq_false_iff_not, hy]
 repeat' first | apply And.intro | refine hk _ ?_ | intro hg | omega | exact True.intro
 all_goals clear hk k
 refine rt ?_
 simp [go_sem, Tryz.results61]

/-- impl.EngineFault -/
theorem dc_impl_EngineFault (e : TEngine) (hg : e.gok) : DC Tryz.prog 40 [.agg e.ro] (.int .i64 (engF e)) [] := by
 obtain ⟨⟨g0, g1⟩, ⟨g2, g3⟩⟩ := hg
 refine DC.intro tiOk Tryz.func40 rfl rfl rfl rfl rfl rfl rfl rfl [] ?_
 refine rgA [1] ?_
 refine AW.seq ?_
 refine AW.cut ⟨64, [(1, .ptr 1 3 0 0), (17, .bool (decide (inR e.procs.length 1 3 = false ∨ 6 < e.insts.length)))], [(1, some ⟨3, [e.ro]⟩)]⟩ ?_ ?_
 ·skip
  refine rgK ?_
  intro k hk; simp +contextual -dsimp (maxSteps := 2000000) [go_sem, -decide_eq_true_eq, -decide_eq_false_iff_not]
  repeat' first | apply And.intro | refine hk _ ?_ | (intro hg; try simp only [decide_eq_true_eq, decide_eq_false_iff_not] at hg) | (refine CallK.intro (dc_impl_inRange _ _ _) ?_; simp +contextual -dsimp (maxSteps := 2000000) [go_sem, -decide_eq_true_eq, -decide_eq_false_iff_not]) | omega | exact True.intro
  all_goals clear hk k
  all_goals (show St.Less _ _; exact Less.of rfl (by simp [go_sem] <;> first | omega | grind) (by simp [go_sem]))
 ·skip
  refine AW.cond rfl ?_ ?_
  ·intro hc; try simp at hc
   all_goals (
    refine rgA [2] ?_
    refine rt ?_
    first | (rw [engF_ok q1.2 q2.1 q2.2 (fun k hk => hall k (by omega))]; simp [go_sem, Tryz.results40]; done) | (have hv : instF e x = 3 := (by rw [instF_eq, if_pos (by assumption)]); rw [engF_hit q1.2 q2.1 q2.2 hlt hall (by rw [hxi, hv]; decide), hxi, hv]; simp [go_sem, Tryz.results40]; done) | (rw [engF_hit q1.2 q2.1 q2.2 hlt hall (by rw [hxi, instF_eq, hys]; simp [firstC_cons, firstC_nil] at hc; grind), hxi, instF_eq, hys]; simp [go_sem, Tryz.results40, firstC_cons, firstC_nil] at *; grind) | (rw [engF_hit q1.2 q2.1 q2.2 hlt hall (by rw [hxi, instF_eq]; simp at hc; grind), hxi, instF_eq]; simp [go_sem, Tryz.results40] at *; grind) | (simp [go_sem, Tryz.results40, firstC_cons, firstC_nil] at *; unfold engF; grind) | (simp [go_sem, Tryz.results40, firstC_cons, firstC_nil] at *; unfold engF procsF; grind))
  ·intro hc; try simp at hc
   all_goals (
    refine AW.skipN (fun _ h => h) ?_
    refine AW.seq ?_
    refine rg [1,3] ?_
    intro k hk; simp -dsimp (maxSteps := 2000000) [go_sem, -decide_eq_true_eq, -decide_eq_false_iff_not]
    repeat' first | (refine Chk.keys ?_; simp only [go_sem, List.map_cons, List.map_nil, List.flatMap_cons, List.flatMap_nil, List.flatMap_append, List.append_nil, List.nil_append, List.cons_append]; decide +kernel) | apply And.intro | refine hk _ ?_ | intro hg | ((first | refine CallK.intro (dc_impl_procsFault e.procs ⟨g0, g1⟩) ?_ | refine CallK.intro (dc_impl_isTime _) ?_ | refine CallK.intro (dc_impl_codeIf _ _) ?_ | refine CallK.intro (dc_impl_firstCode [_, _] (by simp)) ?_ | refine CallK.intro (dc_impl_firstCode [_, _, _] (by simp)) ?_ | refine CallK.intro (dc_impl_firstCode [_, _, _, _] (by simp)) ?_); simp -dsimp (maxSteps := 2000000) [go_sem, -decide_eq_true_eq, -decide_eq_false_iff_not]) | omega | exact True.intro
    all_goals clear hk k
    refine rgA [1,3,29] ?_
    refine AW.cond rfl ?_ ?_
    ·intro hc; try simp at hc
     all_goals (
      refine rgA [2] ?_
      refine rt ?_
      first | (rw [engF_ok q1.2 q2.1 q2.2 (fun k hk => hall k (by omega))]; simp [go_sem, Tryz.results40]; done) | (have hv : instF e x = 3 := (by rw [instF_eq, if_pos (by assumption)]); rw [engF_hit q1.2 q2.1 q2.2 hlt hall (by rw [hxi, hv]; decide), hxi, hv]; simp [go_sem, Tryz.results40]; done) | (rw [engF_hit q1.2 q2.1 q2.2 hlt hall (by rw [hxi, instF_eq, hys]; simp [firstC_cons, firstC_nil] at hc; grind), hxi, instF_eq, hys]; simp [go_sem, Tryz.results40, firstC_cons, firstC_nil] at *; grind) | (rw [engF_hit q1.2 q2.1 q2.2 hlt hall (by rw [hxi, instF_eq]; simp at hc; grind), hxi, instF_eq]; simp [go_sem, Tryz.results40] at *; grind) | (simp [go_sem, Tryz.results40, firstC_cons, firstC_nil] at *; unfold engF; grind) | (simp [go_sem, Tryz.results40, firstC_cons, firstC_nil] at *; unfold engF procsF; grind))
    ·intro hc; try simp at hc
     all_goals (
      refine AW.skipN (fun _ h => h) ?_
      refine AW.seq ?_
      have q1 : inR e.procs.length 1 3 = true ∧ ¬ 6 < e.insts.length := by simp at *; grind
      have q2 : procsF e.procs = 0 ∧ inR e.now 0 1000000 = true := by simp [firstC_cons, firstC_nil] at hc; grind
      refine rgA [1,32,33,34] ?_
      refine AW.block ?_
      refine AW.loopI (fun i : Nat => ⟨64, [(1, .ptr 1 3 0 0), (32, .isl 6 (e.insts.map TInst.ro)), (33, .int .i64 e.insts.length), (34, .int .i64 i)], [(1, some ⟨3, [e.ro]⟩)]⟩) (fun i => i ≤ e.insts.length ∧ ∀ k, k < i → instAt e k = 0) (fun i => e.insts.length - i) (0) (by simp) (Less.of rfl (by simp [go_sem]) (by simp [go_sem])) ?_
      rintro i ⟨hi, hall⟩
      refine rgA [1,32,33,34,35] ?_
      refine AW.seq ?_
      refine AW.cond rfl ?_ ?_
      ·intro hc; try simp at hc
       all_goals (
        have hlt : i < e.insts.length := by assumption
        obtain ⟨x, hx⟩ := at_some hlt
        have hxi := instAt_at hx
        have gx : x.chart.gok := g3 x (List.mem_of_getElem? hx)
        refine AW.skipN (fun _ h => h) ?_
        refine AW.seq ?_
        refine AW.block ?_
        refine rg [1,5,32,33,34] ?_
        intro k hk; simp -dsimp [go_sem, -decide_eq_true_eq, -decide_eq_false_iff_not, hx]
        repeat' first | apply And.intro | refine hk _ ?_ | intro hg | omega | exact True.intro
        all_goals clear hk k
        refine AW.seq ?_
        refine rg [1,5,32,33,34,44] ?_
        intro k hk; simp -dsimp (maxSteps := 2000000) [go_sem, -decide_eq_true_eq, -decide_eq_false_iff_not, hx]
        repeat' first | apply And.intro | refine hk _ ?_ | intro hg | (refine CallK.intro (dc_impl_isPlace _ _ (by omega)) ?_; simp -dsimp (maxSteps := 2000000) [go_sem, -decide_eq_true_eq, -decide_eq_false_iff_not, hx]) | omega | exact True.intro
        all_goals clear hk k
        refine AW.cond rfl ?_ ?_
        ·intro hc; try simp at hc
         all_goals (
          refine rg [2] ?_
          intro k hk; simp -dsimp [go_sem, -decide_eq_true_eq, -decide_eq_false_iff_not, hx]
          repeat' first | apply And.intro | refine hk _ ?_ | intro hg | omega | exact True.intro
          all_goals clear hk k
          refine rt ?_
          first | (rw [engF_ok q1.2 q2.1 q2.2 (fun k hk => hall k (by omega))]; simp [go_sem, Tryz.results40]; done) | (have hv : instF e x = 3 := (by rw [instF_eq, if_pos (by assumption)]); rw [engF_hit q1.2 q2.1 q2.2 hlt hall (by rw [hxi, hv]; decide), hxi, hv]; simp [go_sem, Tryz.results40]; done) | (rw [engF_hit q1.2 q2.1 q2.2 hlt hall (by rw [hxi, instF_eq, hys]; simp [firstC_cons, firstC_nil] at hc; grind), hxi, instF_eq, hys]; simp [go_sem, Tryz.results40, firstC_cons, firstC_nil] at *; grind) | (rw [engF_hit q1.2 q2.1 q2.2 hlt hall (by rw [hxi, instF_eq]; simp at hc; grind), hxi, instF_eq]; simp [go_sem, Tryz.results40] at *; grind) | (simp [go_sem, Tryz.results40, firstC_cons, firstC_nil] at *; unfold engF; grind) | (simp [go_sem, Tryz.results40, firstC_cons, firstC_nil] at *; unfold engF procsF; grind))
        ·intro hc; try simp at hc
         all_goals (
          refine AW.skipN (fun _ h => h) ?_
          have hpl : inR x.proc 0 ((e.procs.length : Int) - 1) = true := by first | assumption | simpa using hc
          have hpl2 := inR_iff.1 hpl
          obtain ⟨y, hy⟩ := at_some (l := e.procs) (show x.proc.toNat < e.procs.length by omega)
          have hys := stepsOf_at hy
          have gy : y.steps.length ≤ 9223372036854775807 ∧ ∀ e ∈ y.steps, e.gok := g1 y (List.mem_of_getElem? hy)
          refine rg [1,6,32,33,34] ?_
          intro k hk; simp -dsimp (maxSteps := 2000000) [go_sem, -decide_eq_true_eq, -decide_eq_false_iff_not, hx]
          repeat' first | (refine Chk.keys ?_; simp only [go_sem, List.map_cons, List.map_nil, List.flatMap_cons, List.flatMap_nil, List.flatMap_append, List.append_nil, List.nil_append, List.cons_append]; decide +kernel) | apply And.intro | refine hk _ ?_ | intro hg | ((first | refine CallK.intro (dc_impl_Engine_steps e x hpl2.1 y hy) ?_ | refine CallK.intro (dc_impl_ChartFault y.steps x.chart gy.1 gy.2 gx) ?_ | refine CallK.intro (dc_impl_codeIf _ _) ?_ | refine CallK.intro (dc_impl_firstCode [_, _] (by simp)) ?_ | refine CallK.intro (dc_impl_firstCode [_, _, _] (by simp)) ?_ | refine CallK.intro (dc_impl_firstCode [_, _, _, _] (by simp)) ?_); simp -dsimp (maxSteps := 2000000) [go_sem, -decide_eq_true_eq, -decide_eq_false_iff_not, hx]) | omega | exact True.intro
          all_goals clear hk k
          refine rg [1,6,32,33,34,61] ?_
          intro k hk; simp -dsimp [go_sem, -decide_eq_true_eq, -decide_eq_false_iff_not, hx]
          repeat' first | apply And.intro | refine hk _ ?_ | intro hg | omega | exact True.intro
          all_goals clear hk k
          refine AW.cond rfl ?_ ?_
          ·intro hc; try simp at hc
           all_goals (
            refine rg [2] ?_
            intro k hk; simp -dsimp [go_sem, -decide_eq_true_eq, -decide_eq_false_iff_not, hx]
            repeat' first | apply And.intro | refine hk _ ?_ | intro hg | omega | exact True.intro
            all_goals clear hk k
            refine rt ?_
            first | (rw [engF_ok q1.2 q2.1 q2.2 (fun k hk => hall k (by omega))]; simp [go_sem, Tryz.results40]; done) | (have hv : instF e x = 3 := (by rw [instF_eq, if_pos (by assumption)]); rw [engF_hit q1.2 q2.1 q2.2 hlt hall (by rw [hxi, hv]; decide), hxi, hv]; simp [go_sem, Tryz.results40]; done) | (rw [engF_hit q1.2 q2.1 q2.2 hlt hall (by rw [hxi, instF_eq, hys]; simp [firstC_cons, firstC_nil] at hc; grind), hxi, instF_eq, hys]; simp [go_sem, Tryz.results40, firstC_cons, firstC_nil] at *; grind) | (rw [engF_hit q1.2 q2.1 q2.2 hlt hall (by rw [hxi, instF_eq]; simp at hc; grind), hxi, instF_eq]; simp [go_sem, Tryz.results40] at *; grind) | (simp [go_sem, Tryz.results40, firstC_cons, firstC_nil] at *; unfold engF; grind) | (simp [go_sem, Tryz.results40, firstC_cons, firstC_nil] at *; unfold engF procsF; grind))
          ·intro hc; try simp at hc
           all_goals (
            refine AW.skipN (fun _ h => h) ?_
            refine rgK ?_
            intro k hk; simp -dsimp [go_sem, -decide_eq_true_eq, -decide_eq_false_iff_not, hx]
            repeat' first | apply And.intro | refine hk _ ?_ | intro hg | omega | exact True.intro
            all_goals clear hk k
            show ∃ _, _
            have hw := wrapi hlt (by omega)
            have hz : instF e x = 0 := by rw [instF_eq, hys]; simp [firstC_cons, firstC_nil] at hc; grind
            refine ⟨i + 1, ⟨by omega, upto hall (by rw [hxi]; exact hz)⟩, by omega, Less.of rfl (by simp [go_sem, hw]) (by simp [go_sem])⟩)))
      ·intro hc; try simp at hc
       all_goals (
        refine AW.exitN (fun _ h => h) ?_
        refine rgA [2] ?_
        refine rt ?_
        first | (rw [engF_ok q1.2 q2.1 q2.2 (fun k hk => hall k (by omega))]; simp [go_sem, Tryz.results40]; done) | (have hv : instF e x = 3 := (by rw [instF_eq, if_pos (by assumption)]); rw [engF_hit q1.2 q2.1 q2.2 hlt hall (by rw [hxi, hv]; decide), hxi, hv]; simp [go_sem, Tryz.results40]; done) | (rw [engF_hit q1.2 q2.1 q2.2 hlt hall (by rw [hxi, instF_eq, hys]; simp [firstC_cons, firstC_nil] at hc; grind), hxi, instF_eq, hys]; simp [go_sem, Tryz.results40, firstC_cons, firstC_nil] at *; grind) | (rw [engF_hit q1.2 q2.1 q2.2 hlt hall (by rw [hxi, instF_eq]; simp at hc; grind), hxi, instF_eq]; simp [go_sem, Tryz.results40] at *; grind) | (simp [go_sem, Tryz.results40, firstC_cons, firstC_nil] at *; unfold engF; grind) | (simp [go_sem, Tryz.results40, firstC_cons, firstC_nil] at *; unfold engF procsF; grind))))

end Go.AM
