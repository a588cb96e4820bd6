/- Joined texts: Pf Pg Ph Am24 Am25 Am26 Po Pp Pr O5 O6 O7 Pt2 Pt3 Pt4 Q7 Q8 Pj M3 Pt5 Qb Q2. -/
import Derived.Test.YtilmgakneefdmaaGreatB1
import Derived.Test.YtilmgakneefdmaaGreatB2
import Derived.Test.YtilmgakneefdmaaGreatB3
set_option linter.unusedVariables false
set_option linter.unusedSimpArgs false
/-! ### Pf -/
set_option linter.unusedVariables false
set_option linter.unusedSimpArgs false
namespace Go.AM
theorem nS_at {p : List TStep} {i : Nat} {x : TStep} (h : p[i]? = some x) : nS p i = x := by simp [nS, List.getD, h]
@[go_sem high] theorem nlc_snoc (es : Nat) (l : List (List AV)) (c : List AV) : nlc es (l ++ [c]) = .osl es (l ++ [c]) := nlc_ne (by simp)
theorem nlc_map {α : Type} {f : α → List AV} {l : List α} (h : l ≠ []) (es : Nat) : nlc es (l.map f) = .osl es (l.map f) := nlc_ne (by simpa using h)

/-! parents -/
def nxtL (l : List Int) (par : Int) : List Int := if parF l par = 0 then l ++ [par] else l
def nxtD (l d : List Int) (par : Int) : List Int := if parF l par = 0 then d ++ [if 0 ≤ par then d.getD par.toNat 0 + 1 else 1] else d
def depsOf (l : List Int) : List Int := (List.range l.length).map fun (k : Nat) => dep l k
theorem depsOf_len (l : List Int) : (depsOf l).length = l.length := by simp [depsOf]
theorem depsOf_at {l : List Int} {k : Nat} (h : k < l.length) : (depsOf l)[k]? = some (dep l k) := by simp [depsOf, h]
theorem depsOf_get {l : List Int} {k : Nat} (h : k < l.length) : (depsOf l).getD k 0 = dep l k := by rw [List.getD, depsOf_at h]; rfl
theorem getD_last (l : List Int) (x : Int) : (l ++ [x]).getD l.length 0 = x := by simp [List.getD]
theorem dep_new {l : List Int} (hl : ParOk l) {par : Int} (h1 : -1 ≤ par) (h2 : par < l.length) : dep (l ++ [par]) l.length = if 0 ≤ par then dep l par + 1 else 1 := by
  rw [dep_eq (hl.snoc h1 h2) (Int.natCast_nonneg _) (by simp; omega), Int.toNat_natCast, getD_last]
  split
  · rw [dep_snoc hl (par.toNat + 1) par (by omega) h2 h1 h2]; omega
  · rw [dep_neg (by omega)]; rfl
theorem nxtD_deps {l : List Int} (hl : ParOk l) {par : Int} (h : parF l par = 0) : nxtD l (depsOf l) par = depsOf (l ++ [par]) := by
  obtain ⟨h1, h2, _⟩ := parF_ok h
  have hn := dep_new hl h1 h2
  rw [nxtD, if_pos h]
  conv => rhs; unfold depsOf
  rw [List.length_append, List.length_singleton, List.range_succ, List.map_append]
  congr 1
  · unfold depsOf
    apply List.map_congr_left
    intro k hk
    rw [List.mem_range] at hk
    exact (dep_snoc hl (k + 1) k (by omega) (by omega) h1 h2).symm
  · rw [List.map_singleton, hn]
    congr 1
    split
    · rw [depsOf_get (by omega)]
      rw [show ((par.toNat : Nat) : Int) = par by omega]
    · rfl
theorem nxtD_app {l : List Int} (hl : ParOk l) {par : Int} (h : parF l par = 0) : nxtD l (depsOf l) par = depsOf l ++ [dep (l ++ [par]) l.length] := by
  obtain ⟨h1, h2, _⟩ := parF_ok h
  rw [nxtD, if_pos h, dep_new hl h1 h2]
  congr 2
  split
  · rw [depsOf_get (by omega), show ((par.toNat : Nat) : Int) = par by omega]
  · rfl
theorem nxtL_app {l : List Int} {par : Int} (h : parF l par = 0) : nxtL l par = l ++ [par] := if_pos h
@[go_sem] theorem unownLL_append (a b : List (List AV)) : unownLL (a ++ b) = unownLL a ++ unownLL b := by simp [unownLL_eq]
theorem stepF_good {l : List Int} {s : TStep} (h1 : inR s.kind 1 8 = true) (h2 : alien s = false) (h3 : parF l s.par = 0) : stepF l s = if 7 < dep (l ++ [s.par]) l.length then 2 else if s.kind = 2 then nameF s.name else if s.arg < lowA s.kind ∨ highA s.kind < s.arg then 3 else if s.kind = 7 then exprF s.expr else 0 := by
  have := inR_iff.1 h1
  unfold stepF
  rw [if_neg (by rw [h2]; simp; omega), if_neg (by simp [h3])]
theorem dep_small {l : List Int} (hl : ParOk l) {a : Int} (h : a < l.length) : 0 ≤ dep l a ∧ dep l a ≤ l.length := by
  have := dep_bd hl (a + 1).toNat.succ a (by omega) h
  by_cases h0 : 0 ≤ a
  · have := this.2 h0; omega
  · rw [dep_neg (by omega)]; omega

theorem parF_not3 {l : List Int} {par : Int} (h0 : 0 < l.length) (h : ¬ parF l par = 3) : 0 ≤ par ∧ par < l.length := by
  unfold parF at h
  split at h
  · exact absurd rfl h
  · omega
/-! kids -/
theorem kidU_not {p : List TStep} {a : Int} {i : Nat} {x : TStep} (hx : p[i]? = some x) (h : ¬ (0 < i ∧ x.par = a)) : kidU p a (i + 1) = kidU p a i := by
  rw [kidU_step, nS_at hx, if_neg h, List.append_nil]
theorem kidU_yes {p : List TStep} {a : Int} {i : Nat} {x : TStep} (hx : p[i]? = some x) (h : 0 < i ∧ x.par = a) : kidU p a (i + 1) = kidU p a i ++ [(i : Int)] := by
  rw [kidU_step, nS_at hx, if_pos h]
theorem kids_len (p : List TStep) (a : Int) : (kids p a).length ≤ p.length := kidU_len p a p.length
theorem kids_end {p : List TStep} {a : Int} {i : Nat} (h : i = p.length) : kidU p a i = kids p a := by rw [h]; rfl
theorem last_at {l : List Int} (h : l ≠ []) : l[l.length - 1]? = some (lastI l) := by
  have : l.length - 1 < l.length := by have := List.length_pos_iff.2 h; omega
  rw [lastI, List.getD, List.getElem?_eq_getElem this]; rfl
theorem head_at {l : List Int} (h : l ≠ []) : l[0]? = some (headI l) := by
  cases l with
  | nil => exact absurd rfl h
  | cons x r => rfl

/-- steps that have no fault by themselves -/
structure StepsOk (p : List TStep) : Prop where
  len : 1 ≤ p.length ∧ p.length ≤ 24
  one : ∀ i, i < p.length → oneF p i = 0
theorem StepsOk.par {p : List TStep} (h : StepsOk p) : ParOk (pars p) := by
  have := ones_ok p.length (Nat.le_refl _) h.one
  rwa [List.take_of_length_le (by rw [pars_len]; exact Nat.le_refl _)] at this
theorem StepsOk.par0 {p : List TStep} (h : StepsOk p) : (nS p 0).par = -1 := by
  have h1 := parF_ok (stepF_par (h.one 0 (by have := h.len; omega)))
  simp at h1; omega
theorem StepsOk.parI {p : List TStep} (h : StepsOk p) {i : Nat} (h0 : 0 < i) (hi : i < p.length) : 0 ≤ (nS p i).par ∧ (nS p i).par < i := by
  have h1 := parF_ok (stepF_par (h.one i hi))
  have hl : ((pars p).take i).length = i := by rw [List.length_take, pars_len]; omega
  rw [hl] at h1
  exact ⟨h1.2.2 h0, h1.2.1⟩
theorem StepsOk.kids_ne {p : List TStep} (h : StepsOk p) {i : Nat} (h0 : 0 < i) (hi : i < p.length) : kids p (nS p i).par ≠ [] := by
  intro e
  have : (i : Int) ∈ kids p (nS p i).par := kids_mem.2 ⟨i, rfl, h0, hi, rfl⟩
  rw [e] at this; cases this

/-! the code of a process -/
theorem procF_len {p : List TStep} (h : inR p.length 1 24 = false) : procF p = 2 := by rw [procF, if_pos h]
theorem procF_len' {p : List TStep} (h : p.length < 1 ∨ 24 < p.length) : procF p = 2 := procF_len (inR_not.2 (by omega))
theorem procF_one {p : List TStep} {i : Nat} (hR : inR p.length 1 24 = true) (hi : i < p.length) (h : ∀ k, k < i → oneF p k = 0) (hne : oneF p i ≠ 0) : procF p = oneF p i := by
  have hs := sc_first i 0 (Nat.zero_le _) hi (fun k _ hk => h k hk) hne
  rw [procF, if_neg (by rw [hR]; decide), hs, if_pos hne]
theorem procF_shape {p : List TStep} {i : Nat} (hR : inR p.length 1 24 = true) (h1 : ∀ k, k < p.length → oneF p k = 0) (hi : i < p.length) (h : ∀ k, k < i → shapeF p k = 0) (hne : shapeF p i ≠ 0) : procF p = shapeF p i := by
  have hs := sc_first i 0 (Nat.zero_le _) hi (fun k _ hk => h k hk) hne
  rw [procF, if_neg (by rw [hR]; decide), sc_none h1, if_neg (by decide), hs, if_pos hne]
theorem procF_ty {p : List TStep} {i : Nat} (hR : inR p.length 1 24 = true) (h1 : ∀ k, k < p.length → oneF p k = 0) (h2 : ∀ k, k < p.length → shapeF p k = 0) (hi : i < p.length) (h : ∀ k, k < i → tyF p k = 0) (hne : tyF p i ≠ 0) : procF p = tyF p i := by
  have hs := sc_first i 0 (Nat.zero_le _) hi (fun k _ hk => h k hk) hne
  rw [procF, if_neg (by rw [hR]; decide), sc_none h1, if_neg (by decide), sc_none h2, if_neg (by decide), hs]
theorem procF_ok {p : List TStep} (hR : inR p.length 1 24 = true) (h1 : ∀ k, k < p.length → oneF p k = 0) (h2 : ∀ k, k < p.length → shapeF p k = 0) (h3 : ∀ k, k < p.length → tyF p k = 0) : procF p = 0 := by
  rw [procF, if_neg (by rw [hR]; decide), sc_none h1, if_neg (by decide), sc_none h2, if_neg (by decide), sc_none h3]
theorem shape_sc {p : List TStep} {i : Nat} (hi : i < p.length) (h : ∀ k, k < i → shapeF p k = 0) (hne : shapeF p i ≠ 0) : sc (shapeF p) p.length 0 = shapeF p i := sc_first i 0 (Nat.zero_le _) hi (fun k _ hk => h k hk) hne
theorem procF_shape' {p : List TStep} (hR : inR p.length 1 24 = true) (h1 : ∀ k, k < p.length → oneF p k = 0) (hne : sc (shapeF p) p.length 0 ≠ 0) : procF p = sc (shapeF p) p.length 0 := by
  rw [procF, if_neg (by rw [hR]; decide), sc_none h1, if_neg (by decide), if_pos hne]
theorem oneF_at {p : List TStep} {i : Nat} {x : TStep} (h : p[i]? = some x) : oneF p i = stepF ((pars p).take i) x := by rw [oneF, nS_at h]
theorem take_len {p : List TStep} {i : Nat} (h : i ≤ p.length) : ((pars p).take i).length = i := by rw [List.length_take, pars_len]; omega
theorem take_next {p : List TStep} {i : Nat} {x : TStep} (h : p[i]? = some x) : (pars p).take (i + 1) = (pars p).take i ++ [x.par] := by
  rw [pars_take (at_lt h), nS_at h]
/-- the parents ahead of a place -/
def parsT (p : List TStep) (i : Nat) : List Int := (pars p).take i
theorem parsT_zero (p : List TStep) : parsT p 0 = [] := by simp [parsT]
theorem parsT_len {p : List TStep} {i : Nat} (h : i ≤ p.length) : (parsT p i).length = i := take_len h
theorem parsT_next {p : List TStep} {i : Nat} {x : TStep} (h : p[i]? = some x) : parsT p (i + 1) = parsT p i ++ [x.par] := take_next h
theorem oneF_T {p : List TStep} {i : Nat} {x : TStep} (h : p[i]? = some x) : oneF p i = stepF (parsT p i) x := oneF_at h
theorem ones_T {p : List TStep} {i : Nat} (hi : i ≤ p.length) (h : ∀ k, k < i → oneF p k = 0) : ParOk (parsT p i) := ones_ok i hi h
theorem tyF_at {p : List TStep} {i : Nat} {x : TStep} (h : p[i]? = some x) : tyF p i = if typF x.cond 2 ≠ 0 then typF x.cond 2 else typF x.expr 1 := by rw [tyF, nS_at h]
theorem pars_at {p : List TStep} {i : Nat} {x : TStep} (h : p[i]? = some x) {m : Nat} (hm : i < m) : ((pars p).take m).getD i 0 = x.par := by
  simp [pars, List.getD, List.getElem?_take, hm, h]
end Go.AM

/-! ### Pg -/
set_option linter.unusedVariables false
set_option linter.unusedSimpArgs false
namespace Go.AM
theorem actA_nat (c : TChart) (k : Nat) : actA c k = c.acts.getD k 0 := by simp [actA]
theorem dueA_nat (c : TChart) (k : Nat) : dueA c k = c.dues.getD k 0 := by simp [dueA]
theorem getD_at {l : List Int} {k : Nat} (h : k < l.length) : l[k]? = some (l.getD k 0) := by simp [List.getD, List.getElem?_eq_getElem h]
theorem actA_at {c : TChart} {k : Int} (h : k.toNat < c.acts.length) : c.acts[k.toNat]? = some (actA c k) := getD_at h
theorem dueA_at {c : TChart} {k : Int} (h : k.toNat < c.dues.length) : c.dues[k.toNat]? = some (dueA c k) := getD_at h
theorem actN_at {c : TChart} {k : Nat} (h : k < c.acts.length) : c.acts[k]? = some (actA c k) := by rw [actA_nat]; exact getD_at h
theorem dueN_at {c : TChart} {k : Nat} (h : k < c.dues.length) : c.dues[k]? = some (dueA c k) := by rw [dueA_nat]; exact getD_at h
theorem smallB_iff {l : List Int} {m : Int} : smallB l m = true ↔ ∀ k, k < l.length → inR (l.getD k 0) 0 m = true := by
  unfold smallB
  rw [List.all_eq_true]
  constructor
  · intro h k hk
    have := getD_at hk
    exact h _ (List.mem_of_getElem? this)
  · intro h x hx
    obtain ⟨k, hk⟩ := List.mem_iff_getElem?.1 hx
    have := h k (List.getElem?_eq_some_iff.1 hk).1
    rwa [List.getD, hk] at this
theorem smallB_any (l : List Int) (m : Int) : (!l.any fun n => !inR n 0 m) = smallB l m := by
  unfold smallB; rw [List.all_eq_not_any_not]
theorem stepA_nat (p : List TStep) (i : Nat) : stepA p i = nS p i := by simp [stepA]
theorem kids_bd {p : List TStep} {a k : Int} (h : k ∈ kids p a) : 0 ≤ k ∧ k.toNat < p.length := by
  obtain ⟨m, rfl, h1, h2, h3⟩ := kids_mem.1 h
  exact ⟨by omega, by omega⟩
theorem cnt_kids {p : List TStep} {c : TChart} {a b : Int} (h : 0 < cnt c a (kids p b)) : kids p b ≠ [] := by
  intro e; rw [e, cnt_nil] at h; omega
theorem fits_at {p : List TStep} {c : TChart} {i : Nat} {x : TStep} (hx : p[i]? = some x) : fits p c i =
    (if actA c i = 2 ∧ (i = 0 ∨ (nS p x.par.toNat).kind ≠ 4) then false
    else if actA c i ≠ 1 then decide (cnt c 1 (kids p i) + cnt c 2 (kids p i) = 0) && decide (dueA c i = 0)
    else if x.kind = 1 ∨ x.kind = 3 then decide (cnt c 1 (kids p i) = 1) && decide (dueA c i = 0)
    else if x.kind = 4 then decide (cnt c 1 (kids p i) ≠ 0) && decide (cnt c 1 (kids p i) + cnt c 2 (kids p i) = (kids p i).length) && decide (dueA c i = 0)
    else if x.kind = 8 then decide (cnt c 1 (kids p i) = 1) && (decide (actA c (headI (kids p i)) = 1) == decide (dueA c i ≠ 0))
    else if x.kind = 6 then decide (dueA c i ≠ 0)
    else if x.kind = 7 then false
    else decide (dueA c i = 0)) := by
  unfold fits
  simp only [stepA_nat, nS_at hx]
  have e : ((i : Int) = 0) = (i = 0) := by simp
  simp only [e, stepA]
theorem wrong9_at {p : List TStep} {c : TChart} {i : Nat} {x : TStep} (hx : p[i]? = some x) : wrong9 p c i =
    (if actA c i ≠ 1 then decide (0 < cnt c 1 (kids p i) + cnt c 2 (kids p i)) || decide (dueA c i ≠ 0)
    else if x.kind = 1 ∨ x.kind = 3 then decide (cnt c 1 (kids p i) ≠ 1) || decide (0 < cnt c 2 (kids p i)) || decide (dueA c i ≠ 0)
    else if x.kind = 4 then decide (cnt c 1 (kids p i) < 1) || decide (cnt c 1 (kids p i) + cnt c 2 (kids p i) ≠ (kids p i).length) || decide (dueA c i ≠ 0)
    else if x.kind = 8 then decide (cnt c 1 (kids p i) ≠ 1) || decide (0 < cnt c 2 (kids p i)) || (decide (dueA c i ≠ 0) != decide (actA c (headI (kids p i)) = 1))
    else if x.kind = 6 then !decide (dueA c i ≠ 0)
    else if x.kind = 7 then true
    else decide (dueA c i ≠ 0)) := by
  unfold wrong9
  simp only [stepA_nat, nS_at hx]
/-- is something not 0? -/
def someNZ (c : TChart) (i : Nat) : Bool := (List.range i).any fun (k : Nat) => decide (actA c k ≠ 0) || decide (dueA c k ≠ 0)
theorem someNZ_step (c : TChart) (i : Nat) : someNZ c (i + 1) = (someNZ c i || (decide (actA c i ≠ 0) || decide (dueA c i ≠ 0))) := by
  unfold someNZ; rw [List.range_succ, List.any_append]; simp
theorem smallB_miss {l : List Int} {m : Int} {k : Nat} (hk : k < l.length) (h : inR (l.getD k 0) 0 m = false) : smallB l m = false := by
  rw [Bool.eq_false_iff]
  intro h1
  rw [smallB_iff.1 h1 k hk] at h; cases h
theorem zeros_iff {l : List Int} : zeros l = true ↔ ∀ k, k < l.length → l.getD k 0 = 0 := by
  rw [← smallB_zero, smallB_iff]
  constructor
  · intro h k hk; have := inR_iff.1 (h k hk); omega
  · intro h k hk; exact inR_iff.2 (by have := h k hk; omega)
theorem someNZ_zeros {c : TChart} {n : Nat} (h1 : c.acts.length = n) (h2 : c.dues.length = n) : someNZ c n = false ↔ (zeros c.acts = true ∧ zeros c.dues = true) := by
  rw [zeros_iff, zeros_iff, h1, h2]
  unfold someNZ
  rw [Bool.eq_false_iff]
  simp only [ne_eq, List.any_eq_true, List.mem_range, Bool.or_eq_true, decide_eq_true_eq, not_exists, not_and, not_or, Decidable.not_not, actA_nat, dueA_nat]
  constructor
  · intro h; exact ⟨fun k hk => (h k hk).1, fun k hk => (h k hk).2⟩
  · intro h k hk; exact ⟨h.1 k hk, h.2 k hk⟩
theorem someWrong_hit {p : List TStep} {c : TChart} {i : Nat} (hi : i < p.length) (h : wrong9 p c i = true) : someWrong p c p.length = true := by
  unfold someWrong
  rw [List.any_eq_true]
  exact ⟨i, List.mem_range.2 hi, h⟩
theorem allFit_miss {p : List TStep} {c : TChart} {i : Nat} (hi : i < p.length) (h : fits p c i = false) : allFit p c p.length = false := by
  unfold allFit
  rw [List.all_eq_false]
  exact ⟨i, List.mem_range.2 hi, by simpa using h⟩
/-- what the program asks last -/
def ordB (p : List TStep) (c : TChart) : Bool := if c.status ≠ 1 then zeros c.acts && zeros c.dues else allFit p c p.length && decide (actA c 0 = 1)
def chart1 (p : List TStep) (c : TChart) : Int :=
  if procF p ≠ 0 then procF p
  else if inR c.status 1 3 = false ∨ inR c.now 0 1000000 = false then 3
  else if varsF c.vars ≠ 0 then varsF c.vars
  else if c.acts.length ≠ p.length ∨ c.dues.length ≠ p.length then 2 else 0
theorem chart1_ok {p : List TStep} {c : TChart} (h : chart1 p c = 0) : procF p = 0 ∧ inR c.status 1 3 = true ∧ inR c.now 0 1000000 = true ∧ varsF c.vars = 0 ∧ c.acts.length = p.length ∧ c.dues.length = p.length := by
  unfold chart1 at h
  split at h
  · exact absurd h (by assumption)
  split at h
  · cases h
  split at h
  · exact absurd h (by assumption)
  split at h
  · cases h
  · rename_i h1 h2 h3 h4
    simp at h1 h2 h3 h4
    exact ⟨h1, h2.1, h2.2, h3, h4.1, h4.2⟩
theorem chartF_1 {p : List TStep} {c : TChart} (h : chart1 p c ≠ 0) : chartF p c = chart1 p c := by
  unfold chartF chart1 at *
  split
  · rfl
  · rename_i h1
    rw [if_neg h1] at h
    split
    · rfl
    · rename_i h2
      rw [if_neg h2] at h
      split
      · rfl
      · rename_i h3
        rw [if_neg h3] at h
        split
        · rfl
        · rename_i h4
          rw [if_neg h4] at h
          exact absurd rfl h
theorem chartF_2 {p : List TStep} {c : TChart} (h : chart1 p c = 0) : chartF p c = if smallB c.acts 2 = false ∨ smallB c.dues (c.now + 99) = false then 3
  else if c.status ≠ 1 then (if zeros c.acts = true ∧ zeros c.dues = true then 0 else 1)
  else if actA c 0 = 1 ∧ someWrong p c p.length = false then 0 else 1 := by
  obtain ⟨h1, h2, h3, h4, h5, h6⟩ := chart1_ok h
  unfold chartF
  rw [if_neg (by simp [h1]), if_neg (by simp [h2, h3]), if_neg (by simp [h4]), if_neg (by simp [h5, h6])]
theorem ProcOk.steps {p : List TStep} (h : ProcOk p) : StepsOk p := ⟨h.len, h.one⟩
theorem chartF_3 {p : List TStep} {c : TChart} (h : chart1 p c = 0) (hs : ¬ (smallB c.acts 2 = false ∨ smallB c.dues (c.now + 99) = false)) : chartF p c = if ordB p c = true then 0 else 1 := by
  have hp := procOk (chart1_ok h).1
  rw [chartF_2 h, if_neg hs]
  unfold ordB
  split
  · simp only [Bool.and_eq_true]
  · have := fits_iff (c := c) hp
    simp only [Bool.and_eq_true, decide_eq_true_eq]
    by_cases h9 : allFit p c p.length = true ∧ actA c 0 = 1
    · rw [if_pos h9, if_pos (this.1 h9)]
    · rw [if_neg h9, if_neg (fun h8 => h9 (this.2 h8))]
end Go.AM

/-! ### Ph -/
set_option linter.unusedVariables false
set_option linter.unusedSimpArgs false
namespace Go.AM
@[go_sem high] theorem I1_compR : (fun x => List.map unown x) ∘ I1 = I1 := rfl
@[go_sem high] theorem TNode_compR : (fun x => List.map unown x) ∘ TNode.ro = TNode.ro := by funext x; simp [TNode_ro_un]
theorem procAt_at {l : List TProc} {i : Nat} {x : TProc} (h : l[i]? = some x) : procAt l i = procF x.steps := by simp [procAt, List.getD, h]
theorem procsF_len {l : List TProc} (h : inR l.length 1 3 = false) : procsF l = 2 := by rw [procsF, if_pos h]
theorem procsF_len' {l : List TProc} (h : l.length < 1 ∨ 3 < l.length) : procsF l = 2 := procsF_len (inR_not.2 (by omega))
theorem procsF_hit {l : List TProc} {i : Nat} (hR : inR l.length 1 3 = true) (hi : i < l.length) (h : ∀ k, k < i → procAt l k = 0) (hne : procAt l i ≠ 0) : procsF l = procAt l i := by
  rw [procsF, if_neg (by rw [hR]; decide)]
  exact sc_first i 0 (Nat.zero_le _) hi (fun k _ hk => h k hk) hne
theorem procsF_ok {l : List TProc} (hR : inR l.length 1 3 = true) (h : ∀ k, k < l.length → procAt l k = 0) : procsF l = 0 := by
  rw [procsF, if_neg (by rw [hR]; decide), sc_none h]
theorem procsF_zero {l : List TProc} (h : procsF l = 0) : inR l.length 1 3 = true ∧ ∀ k, k < l.length → procAt l k = 0 := by
  unfold procsF at h
  split at h
  · cases h
  · rename_i h1; exact ⟨by simpa using h1, sc_all h⟩
theorem instAt_at {e : TEngine} {i : Nat} {x : TInst} (h : e.insts[i]? = some x) : instAt e i = instF e x := by simp [instAt, List.getD, h]
theorem stepsOf_at {e : TEngine} {x : TInst} {y : TProc} (h : e.procs[x.proc.toNat]? = some y) : stepsOf e x = y.steps := by simp [stepsOf, List.getD, h]
theorem instF_eq (e : TEngine) (x : TInst) : instF e x = if inR x.proc 0 ((e.procs.length : Int) - 1) = false then 3 else if chartF (stepsOf e x) x.chart ≠ 0 then chartF (stepsOf e x) x.chart else if x.chart.now ≠ e.now then 9 else 0 := rfl
theorem engF_hit {e : TEngine} {i : Nat} (h1 : ¬ 6 < e.insts.length) (h2 : procsF e.procs = 0) (h3 : inR e.now 0 1000000 = true) (hi : i < e.insts.length) (h : ∀ k, k < i → instAt e k = 0) (hne : instAt e i ≠ 0) : engF e = instAt e i := by
  rw [engF, if_neg h1, if_neg (by simp [h2]), if_neg (by simp [h3])]
  exact sc_first i 0 (Nat.zero_le _) hi (fun k _ hk => h k hk) hne
theorem engF_ok {e : TEngine} (h1 : ¬ 6 < e.insts.length) (h2 : procsF e.procs = 0) (h3 : inR e.now 0 1000000 = true) (h : ∀ k, k < e.insts.length → instAt e k = 0) : engF e = 0 := by
  rw [engF, if_neg h1, if_neg (by simp [h2]), if_neg (by simp [h3]), sc_none h]
end Go.AM

/-! ### Am24 -/
set_option linter.unusedVariables false
set_option linter.unusedSimpArgs false
namespace Go.AM

section
variable {P : Program} {st : St} {K : Exit → St → Prop}

theorem RepL.shrink {w0 : World} {lab0 : Labs} {a : Act} {w : World} {lab : Labs} {loc : Locs} {id : Nat} {nd : Node} (m : Nat) (hR : RepL w0 lab0 st a w lab loc) (h1 : st.obj id = some nd) :
    RepL w0 lab0 ⟨st.n, st.slots, (id, some ⟨nd.es, nd.l.take m⟩) :: st.objs⟩ a w lab loc := by
  refine ⟨hR.size, hR.defers, hR.slots, ?_, ?_, hR.fresh, hR.ext⟩
  · intro k nk hk
    simp only [St.obj, look] at hk
    split at hk
    · rename_i e; subst e
      simp at hk; subst hk
      obtain ⟨b, base, hl, ho⟩ := hR.objs k nd h1
      refine ⟨b, base, hl, ho.hlab, ho.blk.le ?_, ?_, ?_⟩
      · have : (nd.l.take m).length ≤ nd.l.length := by rw [List.length_take]; omega
        have := Nat.mul_le_mul_right nd.es this
        simp only; omega
      · intro z hz
        exact ho.es z (List.mem_of_mem_take hz)
      · intro i2 c2 j2 z hi hj
        have hi' : nd.l[i2]? = some c2 := by
          simp only [List.getElem?_take] at hi
          split at hi
          · exact hi
          · cases hi
        exact ho.cells i2 c2 j2 z hi' hj
    · exact hR.objs k nk hk
  · intro k hk
    simp only [St.obj, look] at hk
    split at hk
    · simp at hk
    · exact hR.dead k hk

theorem AW.shrink {code : Code} (id m : Nat) {nd : Node} (h1 : st.obj id = some nd)
    (h : AW P code ⟨st.n, st.slots, (id, some ⟨nd.es, nd.l.take m⟩) :: st.objs⟩ K) : AW P code st K :=
  AW.ghost (fun _ _ _ _ ⟨lab, loc, hR⟩ => ⟨lab, loc, hR.shrink m h1⟩) h
end
end Go.AM

namespace Go.AM
def labRes (lab : Labs) : Labs := fun b => match lab b with
  | some (.res, _) => none
  | l => l
theorem labRes_res {lab : Labs} {b : Nat} {q : List (Nat × Nat)} (h : lab b = some (.res, q)) : labRes lab b = none := by simp [labRes, h]
theorem labRes_none {lab : Labs} {b : Nat} (h : lab b = none) : labRes lab b = none := by simp [labRes, h]
theorem labRes_still {lab : Labs} {b : Nat} (h : still (lab b)) : labRes lab b = lab b := by
  unfold labRes
  split
  · rename_i h2; rw [h2] at h; exact h.elim
  · rfl

/-- an answer that nobody writes into any more -/
theorem DC.frz {P : Program} {f : FuncId} {args : List AV} {res : AV} (h : DC P f args res []) : DC P f args (unown res) [] := by
  refine ⟨h.body, ?_⟩
  intro w lab vals hl hv hf
  refine (h.calls w lab vals hl hv hf).mono fun e w' he => ?_
  obtain ⟨v, lab', rfl, hT, _, hE, hfr⟩ := he
  refine ⟨v, labRes lab', rfl, .imm _ _ _ (hT.unown (fun b hb => labRes_none hb) (fun b q hb => labRes_res hb)), by simp, ?_, ?_⟩
  · refine ⟨hE.size, hE.os, hE.out, ?_, hE.blk⟩
    intro b hb hs
    obtain ⟨h1, h2⟩ := hE.kept b hb hs
    refine ⟨?_, h2⟩
    have : labRes lab' b = lab' b := labRes_still (by rw [h1]; exact hs)
    rw [this, h1]
  · intro b hb
    apply hfr
    intro hn
    exact hb (labRes_none hn)
end Go.AM

namespace Go.AM
/-- the second part of an answer is not told -/
theorem DC.any2 {P : Program} {f : FuncId} {args : List AV} {x y : AV} {muts : List (Nat × AV)} (h : DC P f args (.tup [x, y]) muts) : DC P f args (.tup [x, .any]) muts := by
  refine ⟨h.body, ?_⟩
  intro w lab vals hl hv hf
  refine (h.calls w lab vals hl hv hf).mono fun e w' he => ?_
  obtain ⟨v, lab', rfl, hT, hm, hE, hfr⟩ := he
  refine ⟨v, lab', rfl, ?_, hm, hE, hfr⟩
  cases hT with
  | imm _ _ _ hI =>
    cases hI with
    | tup cs vs hlen hv =>
      refine .imm _ _ _ (.tup _ _ (by simpa using hlen) ?_)
      intro j a u ha hu
      match j with
      | 0 => exact hv 0 _ u rfl hu |> fun h => by simp at ha; subst ha; exact h
      | 1 => simp at ha; subst ha; exact .any _
      | n + 2 => simp at ha
  | tup _ cs vs hlen hv =>
    refine .tup _ _ _ (by simpa using hlen) ?_
    intro j a u ha hu
    match j with
    | 0 => simp at ha; subst ha; exact hv 0 _ u rfl hu
    | 1 => simp at ha; subst ha; exact .imm _ _ _ (.any _)
    | n + 2 => simp at ha
end Go.AM

/-! ### Am25 -/
set_option linter.unusedVariables false
set_option linter.unusedSimpArgs false
namespace Go.AM

def labFz (lab : Labs) (id : Nat) : Labs := fun b => match lab b with
  | some (.obj k, p) => if k = id then none else some (.obj k, p)
  | l => l
theorem labFz_hit {lab : Labs} {id b : Nat} {q : List (Nat × Nat)} (h : lab b = some (.obj id, q)) : labFz lab id b = none := by simp [labFz, h]
theorem labFz_none {lab : Labs} {id b : Nat} (h : lab b = none) : labFz lab id b = none := by simp [labFz, h]
theorem labFz_other {lab : Labs} {id k b : Nat} {q : List (Nat × Nat)} (h : lab b = some (.obj k, q)) (hk : k ≠ id) : labFz lab id b = some (.obj k, q) := by simp [labFz, h, hk]
theorem labFz_still {lab : Labs} {id b : Nat} (h : still (lab b)) : labFz lab id b = lab b := by
  unfold labFz
  split
  · rename_i h2; rw [h2] at h; exact h.elim
  · rfl
theorem labFz_live {lab : Labs} {id b : Nat} (h : labFz lab id b ≠ none) : lab b ≠ none := by
  intro e; exact h (labFz_none e)

section
variable {P : Program} {st : St} {K : Exit → St → Prop}

theorem RepL.freeze {w0 : World} {lab0 : Labs} {a : Act} {w : World} {lab : Labs} {loc : Locs} {s id es i len : Nat} {nd : Node} (hR : RepL w0 lab0 st a w lab loc) (h1 : st.obj id = some nd) (h2 : st.slot s = some (.sl id es i len))
    (hes : nd.es = es) (hb : i + len ≤ nd.l.length) (ht : ∀ c ∈ nd.l, ∀ x ∈ c, AV.tree x = true) :
    RepL w0 lab0 ⟨st.n, (s, .isl es (((nd.l.drop i).take len).map (·.map unown))) :: st.slots, (id, none) :: st.objs⟩ a w (labFz lab id) (fun k => if k = id then none else loc k) := by
  have hloc : ∀ k b base, (fun k => if k = id then none else loc k) k = some (b, base) → loc k = some (b, base) := by
    intro k b base h
    simp only at h
    split at h
    · cases h
    · exact h
  have hV : ∀ x v, V w lab loc x v → V w (labFz lab id) (fun k => if k = id then none else loc k) x v := fun x v hv =>
    hv.mono (fun b _ h => ⟨labFz_none h, rfl⟩) (Nat.le_refl _) fun k _ b base h => ⟨hloc k b base h, fun _ h => h⟩
  refine ⟨hR.size, hR.defers, ?_, ?_, ?_, fun b h => hR.fresh b (labFz_live h), ?_⟩
  · intro s' x hx
    simp only [St.slot, look] at hx
    split at hx
    · rename_i e; subst e
      cases hx
      obtain ⟨b, base, hl, ho⟩ := hR.objs id nd h1
      obtain ⟨c, cap, hv, k1, k2, k3⟩ := (hR.slots _ _ h2).inv_sl hl
      refine .imm _ _ ?_
      rw [hv]
      have hll : ((nd.l.drop i).take len).length = len := by simp; omega
      by_cases hz : len = 0
      · subst hz
        simp only [List.take_zero, List.map_nil]
        exact .esl _ _ _
      have hc : c = ⟨b, base + i * es, none⟩ := by rcases k2 with h | h; omega; exact h
      subst hc
      have hres := I.isl (w := w) (lab := labFz lab id) es (((nd.l.drop i).take len).map (·.map unown)) b (base + i * es) cap
        (fun i' j => (w.cell? ⟨b, base + i * es + i' * es + j, none⟩).getD undef) (labFz_hit ho.hlab) ho.blk.lt (by rw [List.length_map, hll]; exact k1)
        (by
          intro c hc
          obtain ⟨c', hc', rfl⟩ := List.mem_map.1 hc
          rw [List.length_map, ← hes]
          exact ho.es c' (List.mem_of_mem_drop (List.mem_of_mem_take hc')))
        (by
          intro c hc x hx
          obtain ⟨c', hc', rfl⟩ := List.mem_map.1 hc
          obtain ⟨y, hy, rfl⟩ := List.mem_map.1 hx
          exact unown_plain (ht c' (List.mem_of_mem_drop (List.mem_of_mem_take hc')) y hy))
        ?_ ?_
      · rw [List.length_map, hll] at hres; exact hres
      · intro i' j hi hj
        rw [List.length_map, hll] at hi
        have hi2 : i + i' < nd.l.length := by omega
        have hc : nd.l[i + i']? = some nd.l[i + i'] := List.getElem?_eq_getElem hi2
        have hcl := ho.es _ (List.mem_of_getElem? hc)
        obtain ⟨v, hv, _⟩ := ho.cells (i + i') _ j _ hc (List.getElem?_eq_getElem (by omega))
        rw [hes, Nat.add_mul, ← Nat.add_assoc] at hv
        rw [hv]; rfl
      · intro i' c j x hi hj
        simp only [List.getElem?_map, Option.map_eq_some_iff] at hi
        obtain ⟨c', hc', rfl⟩ := hi
        simp only [List.getElem?_map, Option.map_eq_some_iff] at hj
        obtain ⟨y, hy, rfl⟩ := hj
        have hc2 : nd.l[i + i']? = some c' := by
          rw [List.getElem?_take] at hc'
          split at hc'
          · rwa [List.getElem?_drop] at hc'
          · cases hc'
        obtain ⟨v, hv, hcv⟩ := ho.cells (i + i') c' j y hc2 hy
        rw [hes, Nat.add_mul, ← Nat.add_assoc] at hv
        simp only [hv, Option.getD_some]
        refine (Cell.tree hcv (ht c' (List.mem_of_getElem? hc2) y (List.mem_of_getElem? hy))).unown (fun b h => labFz_none h) ?_
        intro b' q hq
        exact labFz_hit (by rw [hq]; rfl)
    · exact hV _ _ (hR.slots s' x hx)
  · intro k nk hk
    simp only [St.obj, look] at hk
    split at hk
    · simp at hk
    · rename_i hne
      have hne' : k ≠ id := fun e => hne e
      obtain ⟨b, base, hl, ho⟩ := hR.objs k nk hk
      refine ⟨b, base, by rw [if_neg hne']; exact hl, labFz_other ho.hlab hne', ho.blk, ho.es, ?_⟩
      intro i2 c2 j2 z hi hj
      obtain ⟨v, hv, hcv⟩ := ho.cells i2 c2 j2 z hi hj
      refine ⟨v, hv, hcv.imp (hV _ _) fun hT => hT.move (fun b _ h => ⟨labFz_none h, rfl⟩) ?_ (Nat.le_refl _)⟩
      intro b' q _ hq
      exact ⟨by rw [labFz_other (k := k) (q := (Lab.app (.obj k, [(i2, j2)]) q).2) (by rw [hq]; rfl) hne']; rfl, rfl⟩
  · intro k hk
    simp only [St.obj, look] at hk
    split at hk
    · rename_i e; simp [e]
    · have := hR.dead k hk
      split
      · rfl
      · exact this
  · have e := hR.ext
    refine ⟨e.size, e.os, e.out, ?_, e.blk⟩
    intro b hb hs
    obtain ⟨k1, k2⟩ := e.kept b hb hs
    exact ⟨by rw [labFz_still (by rw [k1]; exact hs), k1], k2⟩

theorem AW.freeze {code : Code} (s id : Nat) {es i len : Nat} {nd : Node} {l' : List (List AV)} (h1 : st.obj id = some nd) (h2 : st.slot s = some (.sl id es i len)) (hes : nd.es = es) (hb : i + len ≤ nd.l.length) (ht : ∀ c ∈ nd.l, ∀ x ∈ c, AV.tree x = true)
    (hl : ((nd.l.drop i).take len).map (·.map unown) = l')
    (h : AW P code ⟨st.n, (s, .isl es l') :: st.slots, (id, none) :: st.objs⟩ K) : AW P code st K := by
  subst hl
  exact AW.ghost (fun _ _ _ _ ⟨_, _, hR⟩ => ⟨_, _, hR.freeze h1 h2 hes hb ht⟩) h
end
end Go.AM

/-! ### Am26 -/
set_option linter.unusedVariables false
set_option linter.unusedSimpArgs false
namespace Go.AM
section
variable {P : Program} {st : St} {K : Exit → St → Prop}
theorem RepL.rowUndef {w0 : World} {lab0 : Labs} {a : Act} {w : World} {lab : Labs} {loc : Locs} {id i : Nat} {nd : Node} {c : List AV} (hR : RepL w0 lab0 st a w lab loc) (h1 : st.obj id = some nd) (h2 : nd.l[i]? = some c) :
    RepL w0 lab0 ⟨st.n, st.slots, (id, some ⟨nd.es, nd.l.set i (List.replicate nd.es .undef)⟩) :: st.objs⟩ a w lab loc := by
  refine ⟨hR.size, hR.defers, hR.slots, ?_, ?_, hR.fresh, hR.ext⟩
  · intro k nk hk
    simp only [St.obj, look] at hk
    split at hk
    · rename_i e; subst e
      simp at hk; subst hk
      obtain ⟨b, base, hl, ho⟩ := hR.objs k nd h1
      refine ⟨b, base, hl, ho.hlab, by simpa using ho.blk, ?_, ?_⟩
      · intro z hz
        rcases List.mem_or_eq_of_mem_set hz with hz | hz
        · exact ho.es z hz
        · subst hz; simp
      · intro i2 c2 j2 z hi hj
        rcases set_get hi with ⟨rfl, rfl, hlt⟩ | ⟨hne, hi⟩
        · rw [List.getElem?_replicate] at hj
          split at hj
          · rename_i hjl
            cases hj
            have hc : nd.l[i2]? = some nd.l[i2] := List.getElem?_eq_getElem hlt
            have hcl := ho.es _ (List.mem_of_getElem? hc)
            obtain ⟨v, hv, _⟩ := ho.cells i2 _ j2 _ hc (List.getElem?_eq_getElem (by omega))
            exact ⟨v, hv, Or.inl (.undef v)⟩
          · cases hj
        · exact ho.cells i2 c2 j2 z hi hj
    · exact hR.objs k nk hk
  · intro k hk
    simp only [St.obj, look] at hk
    split at hk
    · simp at hk
    · exact hR.dead k hk
theorem RepL.cellUndef {w0 : World} {lab0 : Labs} {a : Act} {w : World} {lab : Labs} {loc : Locs} {id i : Nat} (j : Nat) {nd : Node} {c : List AV} (hR : RepL w0 lab0 st a w lab loc) (h1 : st.obj id = some nd) (h2 : nd.l[i]? = some c) :
    RepL w0 lab0 ⟨st.n, st.slots, (id, some ⟨nd.es, nd.l.set i (c.set j .undef)⟩) :: st.objs⟩ a w lab loc := by
  refine ⟨hR.size, hR.defers, hR.slots, ?_, ?_, hR.fresh, hR.ext⟩
  · intro k nk hk
    simp only [St.obj, look] at hk
    split at hk
    · rename_i e; subst e
      simp at hk; subst hk
      obtain ⟨b, base, hl, ho⟩ := hR.objs k nd h1
      have hcl := ho.es _ (List.mem_of_getElem? h2)
      refine ⟨b, base, hl, ho.hlab, by simpa using ho.blk, ?_, ?_⟩
      · intro z hz
        rcases List.mem_or_eq_of_mem_set hz with hz | hz
        · exact ho.es z hz
        · subst hz; simpa using hcl
      · intro i2 c2 j2 z hi hj
        rcases set_get hi with ⟨rfl, rfl, hlt⟩ | ⟨hne, hi⟩
        · rcases set_get hj with ⟨rfl, rfl, hjl⟩ | ⟨_, hj⟩
          · obtain ⟨v, hv, _⟩ := ho.cells i2 _ j2 _ h2 (List.getElem?_eq_getElem hjl)
            exact ⟨v, hv, Or.inl (.undef v)⟩
          · exact ho.cells i2 _ j2 z h2 hj
        · exact ho.cells i2 c2 j2 z hi hj
    · exact hR.objs k nk hk
  · intro k hk
    simp only [St.obj, look] at hk
    split at hk
    · simp at hk
    · exact hR.dead k hk
theorem AW.cellUndef {code : Code} (id i j : Nat) {nd : Node} {c : List AV} (h1 : st.obj id = some nd) (h2 : nd.l[i]? = some c)
    (h : AW P code ⟨st.n, st.slots, (id, some ⟨nd.es, nd.l.set i (c.set j .undef)⟩) :: st.objs⟩ K) : AW P code st K :=
  AW.ghost (fun _ _ _ _ ⟨lab, loc, hR⟩ => ⟨lab, loc, hR.cellUndef j h1 h2⟩) h
theorem AW.rowUndef {code : Code} (id i : Nat) {nd : Node} {c : List AV} (h1 : st.obj id = some nd) (h2 : nd.l[i]? = some c)
    (h : AW P code ⟨st.n, st.slots, (id, some ⟨nd.es, nd.l.set i (List.replicate nd.es .undef)⟩) :: st.objs⟩ K) : AW P code st K :=
  AW.ghost (fun _ _ _ _ ⟨lab, loc, hR⟩ => ⟨lab, loc, hR.rowUndef h1 h2⟩) h
end
end Go.AM

/-! ### Po -/
set_option linter.unusedVariables false
set_option linter.unusedSimpArgs false
namespace Go.AM
theorem openU_yes {p : List TStep} {c : TChart} {i : Nat} {x : TStep} (hx : p[i]? = some x) (h : isLeafK x.kind = true ∧ actA c i = 1) : openU p c (i + 1) = openU p c i ++ [(i : Int)] := by
  rw [openU_step, nS_at hx, if_pos h]
theorem openU_not {p : List TStep} {c : TChart} {i : Nat} {x : TStep} (hx : p[i]? = some x) (h : ¬ (isLeafK x.kind = true ∧ actA c i = 1)) : openU p c (i + 1) = openU p c i := by
  rw [openU_step, nS_at hx, if_neg h, List.append_nil]
theorem openU_len (p : List TStep) (c : TChart) (i : Nat) : (openU p c i).length ≤ i := by
  unfold openU; rw [List.length_map]; exact Nat.le_trans (List.length_filter_le _ _) (by simp)
theorem owc_cases (es : Nat) (l : List (List AV)) : (owc es l = .isl es [] ∧ l = []) ∨ (owc es l = .osl es l ∧ l ≠ []) := by
  cases l with
  | nil => exact Or.inl ⟨rfl, rfl⟩
  | cons x r => exact Or.inr ⟨rfl, by simp⟩
/-- a node's marks -/
def fN (k : Int) (x : Int) : List AV := [.int .i64 (k + 4 * x), .int .i64 (k + 4 * x + 1), .int .i64 (k + 4 * x + 2), .int .i64 (k + 4 * x + 3)]
theorem fN_eq (k : Int) (i : Nat) : fN k (0 + i) = [.int .i64 (k + 4 * (i : Int)), .int .i64 (k + 4 * (i : Int) + 1), .int .i64 (k + 4 * (i : Int) + 2), .int .i64 (k + 4 * (i : Int) + 3)] := by simp [fN]
def U6 (_ : Int) : List AV := List.replicate 6 .undef
theorem U6_eq (k : Int) : U6 k = [.undef, .undef, .undef, .undef, .undef, .undef] := rfl
def TStep.mn (x : TStep) : Nat := 4 + 4 * x.cond.length + 4 * x.expr.length
def mkS (l : List TStep) : Nat := (l.map TStep.mn).sum
theorem mkS_take {l : List TStep} {i : Nat} {x : TStep} (h : l[i]? = some x) : mkS (l.take (i + 1)) = mkS (l.take i) + x.mn := by
  unfold mkS; rw [List.map_take, List.map_take]; exact sum_take h
theorem mkS_le (l : List TStep) (i : Nat) : mkS (l.take i) ≤ mkS l := by
  unfold mkS; rw [List.map_take]; exact sum_le
theorem mkS_end {l : List TStep} {i : Nat} (h : l.length ≤ i) : mkS (l.take i) = mkS l := by rw [List.take_of_length_le h]
theorem mkS_len (l : List TStep) : l.length ≤ mkS l := by
  unfold mkS
  induction l with
  | nil => simp
  | cons x l ih => simp only [List.map_cons, List.sum_cons, List.length_cons, TStep.mn] at *; omega
theorem mkS_sz (l : List TStep) : mkS l ≤ 4 * (l.length + (l.map TStep.sz).sum) := by
  unfold mkS
  induction l with
  | nil => simp
  | cons x l ih => simp only [List.map_cons, List.sum_cons, List.length_cons, TStep.mn, TStep.sz] at *; omega
theorem mkP_ids {f : Int → List AV} {l : List (List AV)} {k : Int} {i : Nat} (hf : ∀ x, idsL (f x) = []) (hl : l.flatMap idsL = []) : (mkP f l k i).flatMap idsL = [] := by
  unfold mkP
  rw [List.flatMap_append, flatids (f := fun (j : Nat) => f (k + j)) (fun j => hf _)]
  simp only [List.nil_append, List.flatMap_eq_nil_iff] at *
  exact fun x hx => hl x (List.mem_of_mem_drop hx)
end Go.AM

/-! ### Pp -/
namespace Go.AM
theorem not_ids_set {l : List (List AV)} {i : Nat} {c : List AV} {n : Nat} (h : l.flatMap idsL = []) (hc : ¬ n ∈ idsL c) : (∀ x, x ∈ l.set i c → ¬ n ∈ idsL x) ↔ True := by
  have h' : ∀ x ∈ l, idsL x = [] := List.flatMap_eq_nil_iff.1 h
  refine ⟨fun _ => True.intro, fun _ x hx => ?_⟩
  cases List.mem_or_eq_of_mem_set hx with
  | inl hx => rw [h' x hx]; simp
  | inr e => rw [e]; exact hc
end Go.AM

/-! ### Pr -/
set_option linter.unusedVariables false
set_option linter.unusedSimpArgs false
namespace Go.AM
def nodeM (k : Int) : TNode := ⟨k, k + 1, k + 2, k + 3⟩
def mN (n : Nat) (k : Int) : List TNode := (List.range n).map fun (i : Nat) => nodeM (k + 4 * (i : Int))
theorem mN_len {n : Nat} {k : Int} : (mN n k).length = n := by simp [mN]
theorem mN_at {n : Nat} {k : Int} {i : Nat} (h : i < n) : (mN n k)[i]? = some (nodeM (k + 4 * (i : Int))) := by simp [mN, h]
theorem mkN_end {l : List TNode} {k : Int} : mkP (fN k) (l.map TNode.ro) 0 l.length = (mN l.length k).map TNode.ro := by
  unfold mkP mN
  rw [List.drop_eq_nil_of_le (by simp), List.append_nil, List.map_map]
  apply List.map_congr_left
  intro i _
  simp [fN, nodeM, TNode.ro]
def stepM (k : Int) (x : TStep) : TStep := ⟨k, k + 1, mt (k + 2), k + 3, mN x.cond.length (k + 4), mN x.expr.length (k + 4 + 4 * (x.cond.length : Int))⟩
def mSt (k : Int) (l : List TStep) : List TStep := l.mapIdx fun j x => stepM (k + (mkS (l.take j) : Int)) x
theorem mSt_len {k : Int} {l : List TStep} : (mSt k l).length = l.length := by simp [mSt]
theorem mSt_at {k : Int} {l : List TStep} {i : Nat} {x : TStep} (h : l[i]? = some x) : (mSt k l)[i]? = some (stepM (k + (mkS (l.take i) : Int)) x) := by simp [mSt, h]
def mix {α : Type} (a b : List α) (i : Nat) : List α := a.take i ++ b.drop i
theorem mix_len {α : Type} {a b : List α} {i : Nat} (h : a.length = b.length) (hi : i ≤ b.length) : (mix a b i).length = b.length := by simp [mix]; omega
theorem mix_at {α : Type} {a b : List α} {i : Nat} {x : α} (hl : a.length = b.length) (h : b[i]? = some x) : (mix a b i)[i]? = some x := by
  have hi := at_lt h
  unfold mix
  rw [List.getElem?_append_right (by simp; omega), List.getElem?_drop]
  rw [show i + (i - (a.take i).length) = i by simp; omega]
  exact h
theorem mix_set {α : Type} {a b : List α} {i : Nat} {y : α} (hl : a.length = b.length) (h : a[i]? = some y) : (mix a b i).set i y = mix a b (i + 1) := by
  have hi := at_lt h
  unfold mix
  rw [List.set_append, if_neg (by simp; omega), show i - (a.take i).length = 0 by simp; omega, List.drop_eq_getElem_cons (by omega), List.set_cons_zero, List.take_add_one, h]
  simp
theorem mix_zero {α : Type} (a b : List α) : mix a b 0 = b := by simp [mix]
theorem mix_end {α : Type} {a b : List α} {i : Nat} (hl : a.length = b.length) (h : b.length ≤ i) : mix a b i = a := by
  unfold mix; rw [List.take_of_length_le (by omega), List.drop_eq_nil_of_le h, List.append_nil]
theorem ocids (l : List TStep) : (l.map TStep.oc).flatMap idsL = [] := flatids (f := TStep.oc) (by intro x; simp [go_sem]) l
theorem ncases (l : List TNode) : (owc 4 (l.map TNode.ro) = .isl 4 [] ∧ (∀ K, owc 4 ((mN l.length K).map TNode.ro) = .isl 4 []) ∧ l.length = 0) ∨
    (owc 4 (l.map TNode.ro) = .osl 4 (l.map TNode.ro) ∧ (∀ K, owc 4 ((mN l.length K).map TNode.ro) = .osl 4 ((mN l.length K).map TNode.ro)) ∧ 0 < l.length) := by
  cases l with
  | nil => exact Or.inl ⟨rfl, fun _ => rfl, rfl⟩
  | cons x r =>
    refine Or.inr ⟨rfl, fun K => ?_, by simp⟩
    have : (mN (x :: r).length K).map TNode.ro ≠ [] := by intro h; have := congrArg List.length h; simp [mN] at this
    rcases owc_cases 4 ((mN (x :: r).length K).map TNode.ro) with ⟨_, h⟩ | ⟨h, _⟩
    · exact absurd h this
    · exact h
end Go.AM

/-! ### O5 -/
set_option linter.unusedVariables false
set_option linter.unusedSimpArgs false
namespace Go.AM
open Go.Proofs

set_option maxHeartbeats 600000 in
set_option linter.unusedSimpArgs false in
set_option maxRecDepth 100000 in
/-- laws.markNodeS -/
theorem dc_laws_markNodeS_nil (k : Int) : DC Tryz.prog 91 [.isl 4 [], .int .i64 k] (.int .i64 k) [] := by
  refine DC.intro tiOk Tryz.func91 rfl rfl rfl rfl rfl rfl rfl rfl [] ?_
  refine AW.reg tiOk (fun _ => []) [0, 1] ?_
  intro k hk; simp -dsimp [go_sem, -decide_eq_true_eq, -decide_eq_false_iff_not]
  repeat' (first | refine And.intro ?_ ?_ | refine hk _ ?_ | intro hg | omega | exact True.intro)
  all_goals clear hk k
  refine AW.seq ?_
  refine AW.reg tiOk (fun _ => []) [0, 1, 5] ?_
  intro k hk; simp -dsimp [go_sem, -decide_eq_true_eq, -decide_eq_false_iff_not]
  repeat' (first | refine And.intro ?_ ?_ | refine hk _ ?_ | intro hg | omega | exact True.intro)
  all_goals clear hk k
  refine AW.block ?_
  -- live at the loop's head: [0, 1, 5]
  refine AW.loopI (fun _ : Nat => ⟨41, [(0, .isl 4 []), (1, .int .i64 k), (5, .int .i64 0)], []⟩) (fun _ => True) (fun _ => 0) (0) (trivial) (Less.of rfl (by simp [go_sem]) (by simp [go_sem])) ?_
  rintro i _
  refine AW.seq ?_
  refine AW.reg tiOk (fun _ => []) [0, 1, 5, 9] ?_
  intro k hk; simp -dsimp [go_sem, -decide_eq_true_eq, -decide_eq_false_iff_not]
  repeat' (first | refine And.intro ?_ ?_ | refine hk _ ?_ | intro hg | omega | exact True.intro)
  all_goals clear hk k
  refine AW.cond rfl ?_ ?_
  · intro hc; try simp at hc
    all_goals try (exfalso; first | omega | (simp at hc; done); done)
    all_goals (
      refine AW.skipN (fun _ h => h) ?_
      refine AW.seq ?_
      refine AW.block ?_
      refine AW.reg tiOk (fun _ => []) [0, 1, 5] ?_
      intro k hk; simp -dsimp [go_sem, -decide_eq_true_eq, -decide_eq_false_iff_not]
      repeat' (first | refine And.intro ?_ ?_ | refine hk _ ?_ | intro hg | omega | exact True.intro)
      all_goals clear hk k
      refine AW.reg tiOk (fun _ => []) [0, 1, 5] ?_
      intro k hk; simp -dsimp [go_sem, -decide_eq_true_eq, -decide_eq_false_iff_not]
      repeat' (first | refine And.intro ?_ ?_ | refine hk _ ?_ | intro hg | omega | exact True.intro)
      all_goals clear hk k
      refine AW.reg tiOk (fun _ => []) [0, 1, 5] ?_
      intro k hk; simp -dsimp [go_sem, -decide_eq_true_eq, -decide_eq_false_iff_not]
      repeat' (first | refine And.intro ?_ ?_ | refine hk _ ?_ | intro hg | omega | exact True.intro)
      all_goals clear hk k
      refine AW.reg tiOk (fun _ => []) [0, 1, 5] ?_
      intro k hk; simp -dsimp [go_sem, -decide_eq_true_eq, -decide_eq_false_iff_not]
      repeat' (first | refine And.intro ?_ ?_ | refine hk _ ?_ | intro hg | omega | exact True.intro)
      all_goals clear hk k
      refine AW.reg tiOk (fun _ => []) [0, 1, 5] ?_
      intro k hk; simp -dsimp [go_sem, -decide_eq_true_eq, -decide_eq_false_iff_not]
      repeat' (first | refine And.intro ?_ ?_ | refine hk _ ?_ | intro hg | omega | exact True.intro)
      all_goals clear hk k
      refine AW.reg tiOk (fun _ => []) [0, 1, 5] ?_
      intro k hk; simp -dsimp [go_sem, -decide_eq_true_eq, -decide_eq_false_iff_not]
      repeat' (first | refine And.intro ?_ ?_ | refine hk _ ?_ | intro hg | omega | exact True.intro)
      all_goals clear hk k
      refine AW.reg tiOk (fun _ => []) [0, 1, 5] ?_
      intro k hk; simp -dsimp [go_sem, -decide_eq_true_eq, -decide_eq_false_iff_not]
      repeat' (first | refine And.intro ?_ ?_ | refine hk _ ?_ | intro hg | omega | exact True.intro)
      all_goals clear hk k
      refine AW.regN tiOk (fun _ => []) [0, 1, 5] (fun _ h => h) ?_
      intro k hk; simp -dsimp [go_sem, -decide_eq_true_eq, -decide_eq_false_iff_not]
      repeat' (first | refine And.intro ?_ ?_ | refine hk _ ?_ | intro hg | omega | exact True.intro)
      all_goals clear hk k
      refine AW.regK tiOk (fun _ => []) ?_
      intro k hk; simp -dsimp [go_sem, -decide_eq_true_eq, -decide_eq_false_iff_not]
      repeat' (first | refine And.intro ?_ ?_ | refine hk _ ?_ | intro hg | omega | exact True.intro)
      all_goals clear hk k
      show ∃ _, _
      exact absurd hc (by simp))
  · intro hc; try simp at hc
    all_goals try (exfalso; first | omega | (simp at hc; done); done)
    all_goals (
      refine AW.exitN (fun _ h => h) ?_
      refine AW.reg tiOk (fun _ => []) [4] ?_
      intro k hk; simp -dsimp [go_sem, -decide_eq_true_eq, -decide_eq_false_iff_not]
      repeat' (first | refine And.intro ?_ ?_ | refine hk _ ?_ | intro hg | omega | exact True.intro)
      all_goals clear hk k
      refine AW.retF (ow := []) (muts := []) ?_ (fun h => And.intro (.inr rfl) h)
      simp [go_sem, Tryz.results91])

set_option maxHeartbeats 600000 in
set_option linter.unusedSimpArgs false in
set_option maxRecDepth 100000 in
/-- laws.markNodeS -/
theorem dc_laws_markNodeS_x (l : List TNode) (k : Int) (hk : 0 ≤ k ∧ k + 4 * l.length ≤ 4611686018427387904) : DC Tryz.prog 91 [.osl 4 (l.map TNode.ro), .int .i64 k] (.int .i64 (k + 4 * (l.length : Int))) [(0, .osl 4 ((mN l.length k).map TNode.ro))] := by
  refine DC.intro tiOk Tryz.func91 rfl rfl rfl rfl rfl rfl rfl (by simp [noW, noWo]) [] ?_
  refine AW.reg tiOk (fun _ => []) [0, 1] ?_
  intro k hk; simp -dsimp [go_sem, -decide_eq_true_eq, -decide_eq_false_iff_not]
  repeat' (first | refine And.intro ?_ ?_ | refine hk _ ?_ | intro hg | omega | exact True.intro)
  all_goals clear hk k
  refine AW.seq ?_
  refine AW.reg tiOk (fun _ => []) [0, 1, 5] ?_
  intro k hk; simp -dsimp [go_sem, -decide_eq_true_eq, -decide_eq_false_iff_not]
  repeat' (first | refine And.intro ?_ ?_ | refine hk _ ?_ | intro hg | omega | exact True.intro)
  all_goals clear hk k
  refine AW.block ?_
  -- live at the loop's head: [0, 1, 5]
  refine AW.loopI (fun i : Nat => ⟨41, [(0, .sl 1900 4 0 l.length), (1, .int .i64 (k + 4 * (i : Int))), (5, .int .i64 i)], [(1900, some ⟨4, mkP (fN k) (l.map TNode.ro) 0 i⟩)]⟩) (fun i => i ≤ l.length) (fun i => l.length - i) (0) (by simp) (Less.of rfl (by simp [go_sem]) (by simp [go_sem, mkP_zero])) ?_
  rintro i hi
  refine AW.seq ?_
  refine AW.reg tiOk (fun _ => []) [0, 1, 5, 9] ?_
  intro k hk; simp -dsimp [go_sem, -decide_eq_true_eq, -decide_eq_false_iff_not]
  repeat' (first | refine And.intro ?_ ?_ | refine hk _ ?_ | intro hg | omega | exact True.intro)
  all_goals clear hk k
  refine AW.cond rfl ?_ ?_
  · intro hc; try simp at hc
    all_goals (
      have hlt : i < l.length := by assumption
      obtain ⟨x, hx⟩ := at_some hlt
      have hp : (mkP (fN k) (l.map TNode.ro) 0 i).length = l.length := by rw [mkP_len (by simpa using hi)]; simp
      have hp2 : (mkP (fN k) (l.map TNode.ro) 0 i)[i]? = some x.ro := mkP_at (by simp [hx])
      have hp3 : ∀ h, (mkP (fN k) (l.map TNode.ro) 0 i)[i]'h = x.ro := fun h => by have h9 := hp2; rw [List.getElem?_eq_getElem h] at h9; exact Option.some.inj h9
      have hwk0 : IntKind.wrap .i64 (k + 4 * (i : Int) + 1) = k + 4 * (i : Int) + 1 := (wrap64 (by omega) (by omega)).trans (by omega)
      have hwk1 : IntKind.wrap .i64 (k + 4 * (i : Int) + 1 + 1) = k + 4 * (i : Int) + 2 := (wrap64 (by omega) (by omega)).trans (by omega)
      have hwk2 : IntKind.wrap .i64 (k + 4 * (i : Int) + 2 + 1) = k + 4 * (i : Int) + 3 := (wrap64 (by omega) (by omega)).trans (by omega)
      have hwk3 : IntKind.wrap .i64 (k + 4 * (i : Int) + 3 + 1) = k + 4 * (i : Int) + 4 := (wrap64 (by omega) (by omega)).trans (by omega)
      have hwv0 : IntKind.wrap .i64 (k + 4 * (i : Int)) = k + 4 * (i : Int) := wrap64 (by omega) (by omega)
      have hwv1 : IntKind.wrap .i64 (k + 4 * (i : Int) + 1) = k + 4 * (i : Int) + 1 := wrap64 (by omega) (by omega)
      have hwv2 : IntKind.wrap .i64 (k + 4 * (i : Int) + 2) = k + 4 * (i : Int) + 2 := wrap64 (by omega) (by omega)
      have hwv3 : IntKind.wrap .i64 (k + 4 * (i : Int) + 3) = k + 4 * (i : Int) + 3 := wrap64 (by omega) (by omega)
      have hwv4 : IntKind.wrap .i64 (k + 4 * (i : Int) + 4) = k + 4 * (i : Int) + 4 := wrap64 (by omega) (by omega)
      refine AW.skipN (fun _ h => h) ?_
      refine AW.seq ?_
      refine AW.block ?_
      refine AW.reg tiOk (fun _ => []) [0, 1, 5] ?_
      intro k hk; simp -dsimp [go_sem, -decide_eq_true_eq, -decide_eq_false_iff_not, hp, hp2, hp3, hlt, hwk0, hwk1, hwk2, hwk3, hwv0, hwv1, hwv2, hwv3, hwv4]
      repeat' (first | refine And.intro ?_ ?_ | refine hk _ ?_ | intro hg | omega | exact True.intro)
      all_goals clear hk k
      refine AW.reg tiOk (fun _ => []) [0, 1, 5] ?_
      intro k hk; simp -dsimp [go_sem, -decide_eq_true_eq, -decide_eq_false_iff_not, hp, hp2, hp3, hlt, hwk0, hwk1, hwk2, hwk3, hwv0, hwv1, hwv2, hwv3, hwv4]
      repeat' (first | refine And.intro ?_ ?_ | refine hk _ ?_ | intro hg | omega | exact True.intro)
      all_goals clear hk k
      refine AW.reg tiOk (fun _ => []) [0, 1, 5] ?_
      intro k hk; simp -dsimp [go_sem, -decide_eq_true_eq, -decide_eq_false_iff_not, hp, hp2, hp3, hlt, hwk0, hwk1, hwk2, hwk3, hwv0, hwv1, hwv2, hwv3, hwv4]
      repeat' (first | refine And.intro ?_ ?_ | refine hk _ ?_ | intro hg | omega | exact True.intro)
      all_goals clear hk k
      refine AW.reg tiOk (fun _ => []) [0, 1, 5] ?_
      intro k hk; simp -dsimp [go_sem, -decide_eq_true_eq, -decide_eq_false_iff_not, hp, hp2, hp3, hlt, hwk0, hwk1, hwk2, hwk3, hwv0, hwv1, hwv2, hwv3, hwv4]
      repeat' (first | refine And.intro ?_ ?_ | refine hk _ ?_ | intro hg | omega | exact True.intro)
      all_goals clear hk k
      refine AW.reg tiOk (fun _ => []) [0, 1, 5] ?_
      intro k hk; simp -dsimp [go_sem, -decide_eq_true_eq, -decide_eq_false_iff_not, hp, hp2, hp3, hlt, hwk0, hwk1, hwk2, hwk3, hwv0, hwv1, hwv2, hwv3, hwv4]
      repeat' (first | refine And.intro ?_ ?_ | refine hk _ ?_ | intro hg | omega | exact True.intro)
      all_goals clear hk k
      refine AW.reg tiOk (fun _ => []) [0, 1, 5] ?_
      intro k hk; simp -dsimp [go_sem, -decide_eq_true_eq, -decide_eq_false_iff_not, hp, hp2, hp3, hlt, hwk0, hwk1, hwk2, hwk3, hwv0, hwv1, hwv2, hwv3, hwv4]
      repeat' (first | refine And.intro ?_ ?_ | refine hk _ ?_ | intro hg | omega | exact True.intro)
      all_goals clear hk k
      refine AW.reg tiOk (fun _ => []) [0, 1, 5] ?_
      intro k hk; simp -dsimp [go_sem, -decide_eq_true_eq, -decide_eq_false_iff_not, hp, hp2, hp3, hlt, hwk0, hwk1, hwk2, hwk3, hwv0, hwv1, hwv2, hwv3, hwv4]
      repeat' (first | refine And.intro ?_ ?_ | refine hk _ ?_ | intro hg | omega | exact True.intro)
      all_goals clear hk k
      refine AW.regN tiOk (fun _ => []) [0, 1, 5] (fun _ h => h) ?_
      intro k hk; simp -dsimp [go_sem, -decide_eq_true_eq, -decide_eq_false_iff_not, hp, hp2, hp3, hlt, hwk0, hwk1, hwk2, hwk3, hwv0, hwv1, hwv2, hwv3, hwv4]
      repeat' (first | refine And.intro ?_ ?_ | refine hk _ ?_ | intro hg | omega | exact True.intro)
      all_goals clear hk k
      refine AW.regK tiOk (fun _ => []) ?_
      intro k hk; simp -dsimp [go_sem, -decide_eq_true_eq, -decide_eq_false_iff_not, hp, hp2, hp3, hlt, hwk0, hwk1, hwk2, hwk3, hwv0, hwv1, hwv2, hwv3, hwv4]
      repeat' (first | refine And.intro ?_ ?_ | refine hk _ ?_ | intro hg | omega | exact True.intro)
      all_goals clear hk k
      show ∃ _, _
      have hw := wrapi hlt (by omega)
      have hs := mkP_set (f := fN k) (l := l.map TNode.ro) (k := 0) (i := i) (by simpa using hlt)
      rw [fN_eq] at hs
      refine ⟨i + 1, by omega, by omega, Less.of rfl (by simp [go_sem, hw]; omega) (by simp [go_sem, ← hs])⟩)
  · intro hc; try simp at hc
    all_goals (
      refine AW.exitN (fun _ h => h) ?_
      refine AW.reg tiOk (fun _ => []) [0, 4] ?_
      intro k hk; simp -dsimp [go_sem, -decide_eq_true_eq, -decide_eq_false_iff_not]
      repeat' (first | refine And.intro ?_ ?_ | refine hk _ ?_ | intro hg | omega | exact True.intro)
      all_goals clear hk k
      refine AW.retF (ow := []) (muts := [(0, .osl 4 ((mN l.length k).map TNode.ro))]) ?_ (fun h => And.intro (.inr rfl) h)
      obtain rfl : i = l.length := (by omega)
      simp [go_sem, Tryz.results91, mkN_end, mN_len])

set_option maxHeartbeats 600000 in
set_option linter.unusedSimpArgs false in
set_option maxRecDepth 100000 in
/-- laws.heldNodeS -/
theorem dc_laws_heldNodeS (n : Nat) (k : Int) (hk : 0 ≤ k ∧ k + 4 * n ≤ 4611686018427387904) : DC Tryz.prog 158 [.isl 4 ((mN n k).map TNode.ro), .int .i64 k] (.int .i64 (k + 4 * (n : Int))) [] := by
  have hml := mN_len (n := n) (k := k)
  refine DC.intro tiOk Tryz.func158 rfl rfl rfl rfl rfl rfl rfl rfl [] ?_
  refine AW.reg tiOk (fun _ => []) [0, 1] ?_
  intro k hk; simp -dsimp [go_sem, -decide_eq_true_eq, -decide_eq_false_iff_not, hml]
  repeat' (first | refine And.intro ?_ ?_ | refine hk _ ?_ | intro hg | omega | exact True.intro)
  all_goals clear hk k
  refine AW.seq ?_
  refine AW.reg tiOk (fun _ => []) [0, 1, 5] ?_
  intro k hk; simp -dsimp [go_sem, -decide_eq_true_eq, -decide_eq_false_iff_not, hml]
  repeat' (first | refine And.intro ?_ ?_ | refine hk _ ?_ | intro hg | omega | exact True.intro)
  all_goals clear hk k
  refine AW.block ?_
  -- live at the loop's head: [0, 1, 5]
  refine AW.loopI (fun i : Nat => ⟨49, [(0, .isl 4 ((mN n k).map TNode.ro)), (1, .int .i64 (k + 4 * (i : Int))), (5, .int .i64 i)], []⟩) (fun i => i ≤ n) (fun i => n - i) (0) (by simp) (Less.of rfl (by simp [go_sem]) (by simp [go_sem])) ?_
  rintro i hi
  refine AW.seq ?_
  refine AW.reg tiOk (fun _ => []) [0, 1, 5, 9] ?_
  intro k hk; simp -dsimp [go_sem, -decide_eq_true_eq, -decide_eq_false_iff_not, hml]
  repeat' (first | refine And.intro ?_ ?_ | refine hk _ ?_ | intro hg | omega | exact True.intro)
  all_goals clear hk k
  refine AW.cond rfl ?_ ?_
  · intro hc; try simp at hc
    all_goals try (exfalso; omega; done)
    all_goals (
      have hlt : i < n := by assumption
      have hx := mN_at (k := k) hlt
      have hwk0 : IntKind.wrap .i64 (k + 4 * (i : Int) + 1) = k + 4 * (i : Int) + 1 := (wrap64 (by omega) (by omega)).trans (by omega)
      have hwk1 : IntKind.wrap .i64 (k + 4 * (i : Int) + 1 + 1) = k + 4 * (i : Int) + 2 := (wrap64 (by omega) (by omega)).trans (by omega)
      have hwk2 : IntKind.wrap .i64 (k + 4 * (i : Int) + 2 + 1) = k + 4 * (i : Int) + 3 := (wrap64 (by omega) (by omega)).trans (by omega)
      have hwk3 : IntKind.wrap .i64 (k + 4 * (i : Int) + 3 + 1) = k + 4 * (i : Int) + 4 := (wrap64 (by omega) (by omega)).trans (by omega)
      have hwv0 : IntKind.wrap .i64 (k + 4 * (i : Int)) = k + 4 * (i : Int) := wrap64 (by omega) (by omega)
      have hwv1 : IntKind.wrap .i64 (k + 4 * (i : Int) + 1) = k + 4 * (i : Int) + 1 := wrap64 (by omega) (by omega)
      have hwv2 : IntKind.wrap .i64 (k + 4 * (i : Int) + 2) = k + 4 * (i : Int) + 2 := wrap64 (by omega) (by omega)
      have hwv3 : IntKind.wrap .i64 (k + 4 * (i : Int) + 3) = k + 4 * (i : Int) + 3 := wrap64 (by omega) (by omega)
      have hwv4 : IntKind.wrap .i64 (k + 4 * (i : Int) + 4) = k + 4 * (i : Int) + 4 := wrap64 (by omega) (by omega)
      refine AW.skipN (fun _ h => h) ?_
      refine AW.seq ?_
      refine AW.block ?_
      refine AW.seq ?_
      refine AW.reg tiOk (fun _ => []) [0, 1, 5, 18] ?_
      intro k hk; simp -dsimp (maxSteps := 2000000) [go_sem, -decide_eq_true_eq, -decide_eq_false_iff_not, hml, hx, nodeM, hwk0, hwk1, hwk2, hwk3, hwv0, hwv1, hwv2, hwv3, hwv4]
      repeat' (first | refine And.intro ?_ ?_ | refine hk _ ?_ | intro hg | omega | exact True.intro)
      all_goals clear hk k
      refine AW.cond rfl ?_ ?_
      · intro hc; try simp at hc
        all_goals try (exfalso; omega; done)
        all_goals (
          refine AW.reg tiOk (fun _ => []) [4] ?_
          intro k hk; simp -dsimp [go_sem, -decide_eq_true_eq, -decide_eq_false_iff_not, hml, hx, nodeM, hwk0, hwk1, hwk2, hwk3, hwv0, hwv1, hwv2, hwv3, hwv4]
          repeat' (first | refine And.intro ?_ ?_ | refine hk _ ?_ | intro hg | omega | exact True.intro)
          all_goals clear hk k
          refine AW.retF (ow := []) (muts := []) ?_ (fun h => And.intro (.inr rfl) h)
          obtain rfl : i = n := (by omega)
          simp [go_sem, Tryz.results158])
      · intro hc; try simp at hc
        all_goals try (exfalso; omega; done)
        all_goals (
          refine AW.skipN (fun _ h => h) ?_
          refine AW.reg tiOk (fun _ => []) [0, 1, 5] ?_
          intro k hk; simp -dsimp [go_sem, -decide_eq_true_eq, -decide_eq_false_iff_not, hml, hx, nodeM, hwk0, hwk1, hwk2, hwk3, hwv0, hwv1, hwv2, hwv3, hwv4]
          repeat' (first | refine And.intro ?_ ?_ | refine hk _ ?_ | intro hg | omega | exact True.intro)
          all_goals clear hk k
          refine AW.seq ?_
          refine AW.reg tiOk (fun _ => []) [0, 1, 5, 27] ?_
          intro k hk; simp -dsimp (maxSteps := 2000000) [go_sem, -decide_eq_true_eq, -decide_eq_false_iff_not, hml, hx, nodeM, hwk0, hwk1, hwk2, hwk3, hwv0, hwv1, hwv2, hwv3, hwv4]
          repeat' (first | refine And.intro ?_ ?_ | refine hk _ ?_ | intro hg | omega | exact True.intro)
          all_goals clear hk k
          refine AW.cond rfl ?_ ?_
          · intro hc; try simp at hc
            all_goals try (exfalso; omega; done)
            all_goals (
              refine AW.reg tiOk (fun _ => []) [4] ?_
              intro k hk; simp -dsimp [go_sem, -decide_eq_true_eq, -decide_eq_false_iff_not, hml, hx, nodeM, hwk0, hwk1, hwk2, hwk3, hwv0, hwv1, hwv2, hwv3, hwv4]
              repeat' (first | refine And.intro ?_ ?_ | refine hk _ ?_ | intro hg | omega | exact True.intro)
              all_goals clear hk k
              refine AW.retF (ow := []) (muts := []) ?_ (fun h => And.intro (.inr rfl) h)
              obtain rfl : i = n := (by omega)
              simp [go_sem, Tryz.results158])
          · intro hc; try simp at hc
            all_goals try (exfalso; omega; done)
            all_goals (
              refine AW.skipN (fun _ h => h) ?_
              refine AW.reg tiOk (fun _ => []) [0, 1, 5] ?_
              intro k hk; simp -dsimp [go_sem, -decide_eq_true_eq, -decide_eq_false_iff_not, hml, hx, nodeM, hwk0, hwk1, hwk2, hwk3, hwv0, hwv1, hwv2, hwv3, hwv4]
              repeat' (first | refine And.intro ?_ ?_ | refine hk _ ?_ | intro hg | omega | exact True.intro)
              all_goals clear hk k
              refine AW.seq ?_
              refine AW.reg tiOk (fun _ => []) [0, 1, 5, 36] ?_
              intro k hk; simp -dsimp (maxSteps := 2000000) [go_sem, -decide_eq_true_eq, -decide_eq_false_iff_not, hml, hx, nodeM, hwk0, hwk1, hwk2, hwk3, hwv0, hwv1, hwv2, hwv3, hwv4]
              repeat' (first | refine And.intro ?_ ?_ | refine hk _ ?_ | intro hg | omega | exact True.intro)
              all_goals clear hk k
              refine AW.cond rfl ?_ ?_
              · intro hc; try simp at hc
                all_goals try (exfalso; omega; done)
                all_goals (
                  refine AW.reg tiOk (fun _ => []) [4] ?_
                  intro k hk; simp -dsimp [go_sem, -decide_eq_true_eq, -decide_eq_false_iff_not, hml, hx, nodeM, hwk0, hwk1, hwk2, hwk3, hwv0, hwv1, hwv2, hwv3, hwv4]
                  repeat' (first | refine And.intro ?_ ?_ | refine hk _ ?_ | intro hg | omega | exact True.intro)
                  all_goals clear hk k
                  refine AW.retF (ow := []) (muts := []) ?_ (fun h => And.intro (.inr rfl) h)
                  obtain rfl : i = n := (by omega)
                  simp [go_sem, Tryz.results158])
              · intro hc; try simp at hc
                all_goals try (exfalso; omega; done)
                all_goals (
                  refine AW.skipN (fun _ h => h) ?_
                  refine AW.reg tiOk (fun _ => []) [0, 1, 5] ?_
                  intro k hk; simp -dsimp [go_sem, -decide_eq_true_eq, -decide_eq_false_iff_not, hml, hx, nodeM, hwk0, hwk1, hwk2, hwk3, hwv0, hwv1, hwv2, hwv3, hwv4]
                  repeat' (first | refine And.intro ?_ ?_ | refine hk _ ?_ | intro hg | omega | exact True.intro)
                  all_goals clear hk k
                  refine AW.seq ?_
                  refine AW.reg tiOk (fun _ => []) [0, 1, 5, 45] ?_
                  intro k hk; simp -dsimp (maxSteps := 2000000) [go_sem, -decide_eq_true_eq, -decide_eq_false_iff_not, hml, hx, nodeM, hwk0, hwk1, hwk2, hwk3, hwv0, hwv1, hwv2, hwv3, hwv4]
                  repeat' (first | refine And.intro ?_ ?_ | refine hk _ ?_ | intro hg | omega | exact True.intro)
                  all_goals clear hk k
                  refine AW.cond rfl ?_ ?_
                  · intro hc; try simp at hc
                    all_goals try (exfalso; omega; done)
                    all_goals (
                      refine AW.reg tiOk (fun _ => []) [4] ?_
                      intro k hk; simp -dsimp [go_sem, -decide_eq_true_eq, -decide_eq_false_iff_not, hml, hx, nodeM, hwk0, hwk1, hwk2, hwk3, hwv0, hwv1, hwv2, hwv3, hwv4]
                      repeat' (first | refine And.intro ?_ ?_ | refine hk _ ?_ | intro hg | omega | exact True.intro)
                      all_goals clear hk k
                      refine AW.retF (ow := []) (muts := []) ?_ (fun h => And.intro (.inr rfl) h)
                      obtain rfl : i = n := (by omega)
                      simp [go_sem, Tryz.results158])
                  · intro hc; try simp at hc
                    all_goals try (exfalso; omega; done)
                    all_goals (
                      refine AW.skipN (fun _ h => h) ?_
                      refine AW.regN tiOk (fun _ => []) [0, 1, 5] (fun _ h => h) ?_
                      intro k hk; simp -dsimp [go_sem, -decide_eq_true_eq, -decide_eq_false_iff_not, hml, hx, nodeM, hwk0, hwk1, hwk2, hwk3, hwv0, hwv1, hwv2, hwv3, hwv4]
                      repeat' (first | refine And.intro ?_ ?_ | refine hk _ ?_ | intro hg | omega | exact True.intro)
                      all_goals clear hk k
                      refine AW.regK tiOk (fun _ => []) ?_
                      intro k hk; simp -dsimp [go_sem, -decide_eq_true_eq, -decide_eq_false_iff_not, hml, hx, nodeM, hwk0, hwk1, hwk2, hwk3, hwv0, hwv1, hwv2, hwv3, hwv4]
                      repeat' (first | refine And.intro ?_ ?_ | refine hk _ ?_ | intro hg | omega | exact True.intro)
                      all_goals clear hk k
                      show ∃ _, _
                      have hw := wrapi hlt (by omega)
                      refine ⟨i + 1, by omega, by omega, Less.of rfl (by simp [go_sem, hw]; omega) (by simp [go_sem])⟩)))))
  · intro hc; try simp at hc
    all_goals try (exfalso; omega; done)
    all_goals (
      refine AW.exitN (fun _ h => h) ?_
      refine AW.reg tiOk (fun _ => []) [4] ?_
      intro k hk; simp -dsimp [go_sem, -decide_eq_true_eq, -decide_eq_false_iff_not, hml]
      repeat' (first | refine And.intro ?_ ?_ | refine hk _ ?_ | intro hg | omega | exact True.intro)
      all_goals clear hk k
      refine AW.retF (ow := []) (muts := []) ?_ (fun h => And.intro (.inr rfl) h)
      obtain rfl : i = n := (by omega)
      simp [go_sem, Tryz.results158])

end Go.AM

/-! ### O6 -/
set_option linter.unusedVariables false
set_option linter.unusedSimpArgs false
namespace Go.AM
open Go.Proofs

set_option maxHeartbeats 4000000 in
set_option linter.unusedSimpArgs false in
set_option maxRecDepth 100000 in
/-- laws.markStepS -/
theorem dc_laws_markStepS_x (l : List TStep) (k : Int) (hk : 0 ≤ k ∧ k + (mkS l : Int) ≤ 4611686018427387904) : DC Tryz.prog 46 [.osl 6 (l.map TStep.oc), .int .i64 k] (.int .i64 (k + (mkS l : Int))) [(0, .osl 6 ((mSt k l).map TStep.oc))] := by
  have hlk := mkS_len l
  have hmm : (mSt k l).length = l.length := mSt_len
  refine DC.intro tiOk Tryz.func46 rfl rfl rfl rfl rfl rfl rfl (by simp [noW, noWo]) [] ?_
  refine AW.reg tiOk (fun _ => []) [0, 1] ?_
  intro k hk; simp -dsimp [go_sem, -decide_eq_true_eq, -decide_eq_false_iff_not]
  repeat' (first | refine And.intro ?_ ?_ | refine hk _ ?_ | intro hg | omega | exact True.intro)
  all_goals clear hk k
  refine AW.seq ?_
  refine AW.reg tiOk (fun _ => []) [0, 1, 5] ?_
  intro k hk; simp -dsimp [go_sem, -decide_eq_true_eq, -decide_eq_false_iff_not]
  repeat' (first | refine And.intro ?_ ?_ | refine hk _ ?_ | intro hg | omega | exact True.intro)
  all_goals clear hk k
  refine AW.block ?_
  -- live at the loop's head: [0, 1, 5]
  refine AW.loopI (fun i : Nat => ⟨56, [(0, .sl 1900 6 0 l.length), (1, .int .i64 (k + (mkS (l.take i) : Int))), (5, .int .i64 i)], [(1900, some ⟨6, (mix (mSt k l) l i).map TStep.oc⟩)]⟩) (fun i => i ≤ l.length) (fun i => l.length - i) (0) (by simp) (Less.of rfl (by simp [go_sem, mkS]) (by simp [go_sem, mix_zero])) ?_
  rintro i hi
  refine AW.seq ?_
  refine AW.reg tiOk (fun _ => []) [0, 1, 5, 9] ?_
  intro k hk; simp -dsimp [go_sem, -decide_eq_true_eq, -decide_eq_false_iff_not]
  repeat' (first | refine And.intro ?_ ?_ | refine hk _ ?_ | intro hg | omega | exact True.intro)
  all_goals clear hk k
  refine AW.cond rfl ?_ ?_
  · intro hc; try simp at hc
    all_goals (
      have hlt : i < l.length := by assumption
      obtain ⟨x, hx⟩ := at_some hlt
      have hp : (mix (mSt k l) l i).length = l.length := mix_len hmm hi
      have hp2 : (mix (mSt k l) l i)[i]? = some x := mix_at hmm hx
      have hp3 : ∀ h, (mix (mSt k l) l i)[i]'h = x := fun h => by have h9 := hp2; rw [List.getElem?_eq_getElem h] at h9; exact Option.some.inj h9
      have idm := ocids (mix (mSt k l) l i)
      have hpm : ((mix (mSt k l) l i).map TStep.oc).length = l.length := by rw [List.length_map, hp]
      have hmt := mkS_take hx
      have hml := mkS_le l i
      have hml2 := mkS_le l (i + 1)
      unfold TStep.mn at hmt
      have hwk0 : IntKind.wrap .i64 ((k + (mkS (l.take i) : Int)) + 1) = (k + (mkS (l.take i) : Int)) + 1 := (wrap64 (by omega) (by omega)).trans (by omega)
      have hwk1 : IntKind.wrap .i64 ((k + (mkS (l.take i) : Int)) + 1 + 1) = (k + (mkS (l.take i) : Int)) + 2 := (wrap64 (by omega) (by omega)).trans (by omega)
      have hwk2 : IntKind.wrap .i64 ((k + (mkS (l.take i) : Int)) + 2 + 1) = (k + (mkS (l.take i) : Int)) + 3 := (wrap64 (by omega) (by omega)).trans (by omega)
      have hwk3 : IntKind.wrap .i64 ((k + (mkS (l.take i) : Int)) + 3 + 1) = (k + (mkS (l.take i) : Int)) + 4 := (wrap64 (by omega) (by omega)).trans (by omega)
      have hwv0 : IntKind.wrap .i64 ((k + (mkS (l.take i) : Int))) = (k + (mkS (l.take i) : Int)) := wrap64 (by omega) (by omega)
      have hwv1 : IntKind.wrap .i64 ((k + (mkS (l.take i) : Int)) + 1) = (k + (mkS (l.take i) : Int)) + 1 := wrap64 (by omega) (by omega)
      have hwv2 : IntKind.wrap .i64 ((k + (mkS (l.take i) : Int)) + 2) = (k + (mkS (l.take i) : Int)) + 2 := wrap64 (by omega) (by omega)
      have hwv3 : IntKind.wrap .i64 ((k + (mkS (l.take i) : Int)) + 3) = (k + (mkS (l.take i) : Int)) + 3 := wrap64 (by omega) (by omega)
      refine AW.skipN (fun _ h => h) ?_
      refine AW.seq ?_
      refine AW.block ?_
      rcases ncases x.cond with ⟨hoc, hoc2, hoc0⟩ | ⟨hoc, hoc2, hoc0⟩ <;> rcases ncases x.expr with ⟨hoe, hoe2, hoe0⟩ | ⟨hoe, hoe2, hoe0⟩
      all_goals (
        refine AW.reg tiOk (fun _ => []) [0, 1, 5] ?_
        intro k hk; simp -dsimp [go_sem, -decide_eq_true_eq, -decide_eq_false_iff_not, hp, hp2, hp3, hlt, idm, hoc, hoe, mN_len, hwk0, hwk1, hwk2, hwk3, hwv0, hwv1, hwv2, hwv3]
        repeat' (first | refine And.intro ?_ ?_ | refine hk _ ?_ | intro hg | omega | exact True.intro)
        all_goals clear hk k
        refine AW.reg tiOk (fun _ => []) [0, 1, 5] ?_
        intro k hk; simp -dsimp [go_sem, -decide_eq_true_eq, -decide_eq_false_iff_not, hp, hp2, hp3, hlt, idm, hoc, hoe, mN_len, hwk0, hwk1, hwk2, hwk3, hwv0, hwv1, hwv2, hwv3]
        repeat' (first | refine And.intro ?_ ?_ | refine hk _ ?_ | intro hg | omega | exact True.intro)
        all_goals clear hk k
        refine AW.reg tiOk (fun _ => []) [0, 1, 5] ?_
        intro k hk; simp -dsimp [go_sem, -decide_eq_true_eq, -decide_eq_false_iff_not, hp, hp2, hp3, hlt, idm, hoc, hoe, mN_len, hwk0, hwk1, hwk2, hwk3, hwv0, hwv1, hwv2, hwv3]
        repeat' (first | refine And.intro ?_ ?_ | refine hk _ ?_ | intro hg | omega | exact True.intro)
        all_goals clear hk k
        refine AW.reg tiOk (fun _ => []) [0, 1, 5] ?_
        intro k hk; simp -dsimp [go_sem, -decide_eq_true_eq, -decide_eq_false_iff_not, hp, hp2, hp3, hlt, idm, hoc, hoe, mN_len, hwk0, hwk1, hwk2, hwk3, hwv0, hwv1, hwv2, hwv3]
        repeat' (first | refine And.intro ?_ ?_ | refine hk _ ?_ | intro hg | omega | exact True.intro)
        all_goals clear hk k
        refine AW.reg tiOk (fun _ => []) [0, 1, 5] ?_
        intro k hk; simp -dsimp (maxSteps := 2000000) [go_sem, -decide_eq_true_eq, -decide_eq_false_iff_not, hp, hp2, hp3, hlt, idm, hoc, hoe, mN_len, hwk0, hwk1, hwk2, hwk3, hwv0, hwv1, hwv2, hwv3]
        repeat' (first | refine And.intro ?_ ?_ | refine hk _ ?_ | intro hg | (refine CallK.intro (dc_laws_markText _ (by omega)) ?_; simp -dsimp (maxSteps := 2000000) [go_sem, -decide_eq_true_eq, -decide_eq_false_iff_not, hp, hp2, hp3, hlt, idm, hoc, hoe, mN_len, hwk0, hwk1, hwk2, hwk3, hwv0, hwv1, hwv2, hwv3]) | omega | exact True.intro)
        all_goals clear hk k
        refine AW.reg tiOk (fun _ => []) [0, 1, 5] ?_
        intro k hk; simp -dsimp [go_sem, -decide_eq_true_eq, -decide_eq_false_iff_not, hp, hp2, hp3, hlt, idm, hoc, hoe, mN_len, hwk0, hwk1, hwk2, hwk3, hwv0, hwv1, hwv2, hwv3]
        repeat' (first | refine And.intro ?_ ?_ | refine hk _ ?_ | intro hg | omega | exact True.intro)
        all_goals clear hk k
        refine AW.reg tiOk (fun _ => []) [0, 1, 5] ?_
        intro k hk; simp -dsimp [go_sem, -decide_eq_true_eq, -decide_eq_false_iff_not, hp, hp2, hp3, hlt, idm, hoc, hoe, mN_len, hwk0, hwk1, hwk2, hwk3, hwv0, hwv1, hwv2, hwv3]
        repeat' (first | refine And.intro ?_ ?_ | refine hk _ ?_ | intro hg | omega | exact True.intro)
        all_goals clear hk k
        refine AW.reg tiOk (fun _ => []) [0, 1, 5] ?_
        intro k hk; simp -dsimp [go_sem, -decide_eq_true_eq, -decide_eq_false_iff_not, hp, hp2, hp3, hlt, idm, hoc, hoe, mN_len, hwk0, hwk1, hwk2, hwk3, hwv0, hwv1, hwv2, hwv3]
        repeat' (first | refine And.intro ?_ ?_ | refine hk _ ?_ | intro hg | omega | exact True.intro)
        all_goals clear hk k
        try refine AW.thaw 1900 i 4 7004 rfl (node_here (by (repeat rw [List.length_set]); omega)) rfl (by simp [go_sem, idm, not_ids_set]) ?_
        refine AW.reg0 tiOk (fun i => if i = 6 then [0] else []) [0, 1, 5] ?_
        intro k hk; simp -dsimp (maxSteps := 2000000) [go_sem, -decide_eq_true_eq, -decide_eq_false_iff_not, hp, hp2, hp3, hlt, idm, hoc, hoe, mN_len, hwk0, hwk1, hwk2, hwk3, hwv0, hwv1, hwv2, hwv3]
        repeat' (first | refine And.intro ?_ ?_ | refine hk _ ?_ | intro hg | (refine CallK.intro (dc_laws_markNodeS_x x.cond _ (by constructor <;> omega)) ?_; simp -dsimp (maxSteps := 2000000) [go_sem, -decide_eq_true_eq, -decide_eq_false_iff_not, hp, hp2, hp3, hlt, idm, hoc, hoe, mN_len, hwk0, hwk1, hwk2, hwk3, hwv0, hwv1, hwv2, hwv3]) | (refine CallK.intro (dc_laws_markNodeS_x x.expr _ (by constructor <;> omega)) ?_; simp -dsimp (maxSteps := 2000000) [go_sem, -decide_eq_true_eq, -decide_eq_false_iff_not, hp, hp2, hp3, hlt, idm, hoc, hoe, mN_len, hwk0, hwk1, hwk2, hwk3, hwv0, hwv1, hwv2, hwv3]) | (refine CallK.intro (dc_laws_markNodeS_nil _) ?_; simp -dsimp (maxSteps := 2000000) [go_sem, -decide_eq_true_eq, -decide_eq_false_iff_not, hp, hp2, hp3, hlt, idm, hoc, hoe, mN_len, hwk0, hwk1, hwk2, hwk3, hwv0, hwv1, hwv2, hwv3]) | omega | exact True.intro)
        all_goals clear hk k
        try (guard_hyp hoc0 : 0 < x.cond.length; refine AW.fold 1900 i 4 7004 rfl (node_here (by (repeat rw [List.length_set]); omega)) rfl rfl (by simp [mN_len]) (by decide) (by simp [go_sem, mN_len]) ?_)
        try refine AW.thaw 1900 i 5 7005 rfl (node_here (by (repeat rw [List.length_set]); omega)) rfl (by simp [go_sem, idm, not_ids_set]) ?_
        refine AW.regN0 tiOk (fun i => if i = 6 then [0] else []) [0, 1, 5] (fun _ h => h) ?_
        intro k hk; simp -dsimp (maxSteps := 2000000) [go_sem, -decide_eq_true_eq, -decide_eq_false_iff_not, hp, hp2, hp3, hlt, idm, hoc, hoe, mN_len, hwk0, hwk1, hwk2, hwk3, hwv0, hwv1, hwv2, hwv3]
        repeat' (first | refine And.intro ?_ ?_ | refine hk _ ?_ | intro hg | (refine CallK.intro (dc_laws_markNodeS_x x.cond _ (by constructor <;> omega)) ?_; simp -dsimp (maxSteps := 2000000) [go_sem, -decide_eq_true_eq, -decide_eq_false_iff_not, hp, hp2, hp3, hlt, idm, hoc, hoe, mN_len, hwk0, hwk1, hwk2, hwk3, hwv0, hwv1, hwv2, hwv3]) | (refine CallK.intro (dc_laws_markNodeS_x x.expr _ (by constructor <;> omega)) ?_; simp -dsimp (maxSteps := 2000000) [go_sem, -decide_eq_true_eq, -decide_eq_false_iff_not, hp, hp2, hp3, hlt, idm, hoc, hoe, mN_len, hwk0, hwk1, hwk2, hwk3, hwv0, hwv1, hwv2, hwv3]) | (refine CallK.intro (dc_laws_markNodeS_nil _) ?_; simp -dsimp (maxSteps := 2000000) [go_sem, -decide_eq_true_eq, -decide_eq_false_iff_not, hp, hp2, hp3, hlt, idm, hoc, hoe, mN_len, hwk0, hwk1, hwk2, hwk3, hwv0, hwv1, hwv2, hwv3]) | omega | exact True.intro)
        all_goals clear hk k
        try (guard_hyp hoe0 : 0 < x.expr.length; refine AW.fold 1900 i 5 7005 rfl (node_here (by (repeat rw [List.length_set]); omega)) rfl rfl (by simp [mN_len]) (by decide) (by simp [go_sem, mN_len]) ?_)
        refine AW.regK tiOk (fun _ => []) ?_
        intro k hk; simp -dsimp [go_sem, -decide_eq_true_eq, -decide_eq_false_iff_not, hp, hp2, hp3, hlt, idm, hoc, hoe, mN_len, hwk0, hwk1, hwk2, hwk3, hwv0, hwv1, hwv2, hwv3]
        repeat' (first | refine And.intro ?_ ?_ | refine hk _ ?_ | intro hg | omega | exact True.intro)
        all_goals clear hk k
        show ∃ _, _
        have hw := wrapi hlt (by omega)
        have hs := congrArg (List.map TStep.oc) (mix_set hmm (mSt_at hx))
        rw [List.map_set] at hs
        refine ⟨i + 1, by omega, by omega, Less.of rfl (by simp [go_sem, hw, hmt, hoc0, hoe0] <;> omega) (by rw [← hs]; simp [go_sem, stepM, TStep.oc, hoc2, hoe2, List.set_set] <;> simp [hoc0])⟩))
  · intro hc; try simp at hc
    all_goals (
      refine AW.exitN (fun _ h => h) ?_
      refine AW.reg tiOk (fun _ => []) [0, 4] ?_
      intro k hk; simp -dsimp [go_sem, -decide_eq_true_eq, -decide_eq_false_iff_not]
      repeat' (first | refine And.intro ?_ ?_ | refine hk _ ?_ | intro hg | omega | exact True.intro)
      all_goals clear hk k
      refine AW.retF (ow := []) (muts := [(0, .osl 6 ((mSt k l).map TStep.oc))]) ?_ (fun h => And.intro (.inr rfl) h)
      obtain rfl : i = l.length := (by omega)
      simp [go_sem, Tryz.results46, mix_end hmm (Nat.le_refl _), hmm])

end Go.AM

/-! ### O7 -/
set_option linter.unusedVariables false
set_option linter.unusedSimpArgs false
namespace Go.AM
open Go.Proofs

set_option maxHeartbeats 4000000 in
set_option linter.unusedSimpArgs false in
set_option maxRecDepth 100000 in
/-- laws.heldStepS -/
theorem dc_laws_heldStepS (l : List TStep) (k : Int) (hk : 0 ≤ k ∧ k + (mkS l : Int) ≤ 4611686018427387904) : DC Tryz.prog 137 [.isl 6 ((mSt k l).map TStep.ro), .int .i64 k] (.int .i64 (k + (mkS l : Int))) [] := by
  have hlk := mkS_len l
  have hmm : (mSt k l).length = l.length := mSt_len
  refine DC.intro tiOk Tryz.func137 rfl rfl rfl rfl rfl rfl rfl rfl [] ?_
  refine AW.reg tiOk (fun _ => []) [0, 1] ?_
  intro k hk; simp -dsimp [go_sem, -decide_eq_true_eq, -decide_eq_false_iff_not, hmm]
  repeat' (first | refine And.intro ?_ ?_ | refine hk _ ?_ | intro hg | omega | exact True.intro)
  all_goals clear hk k
  refine AW.seq ?_
  refine AW.reg tiOk (fun _ => []) [0, 1, 5] ?_
  intro k hk; simp -dsimp [go_sem, -decide_eq_true_eq, -decide_eq_false_iff_not, hmm]
  repeat' (first | refine And.intro ?_ ?_ | refine hk _ ?_ | intro hg | omega | exact True.intro)
  all_goals clear hk k
  refine AW.block ?_
  -- live at the loop's head: [0, 1, 5]
  refine AW.loopI (fun i : Nat => ⟨68, [(0, .isl 6 ((mSt k l).map TStep.ro)), (1, .int .i64 (k + (mkS (l.take i) : Int))), (5, .int .i64 i)], []⟩) (fun i => i ≤ l.length) (fun i => l.length - i) (0) (by simp) (Less.of rfl (by simp [go_sem, mkS]) (by simp [go_sem])) ?_
  rintro i hi
  refine AW.seq ?_
  refine AW.reg tiOk (fun _ => []) [0, 1, 5, 9] ?_
  intro k hk; simp -dsimp [go_sem, -decide_eq_true_eq, -decide_eq_false_iff_not, hmm]
  repeat' (first | refine And.intro ?_ ?_ | refine hk _ ?_ | intro hg | omega | exact True.intro)
  all_goals clear hk k
  refine AW.cond rfl ?_ ?_
  · intro hc; try simp at hc
    all_goals try (exfalso; omega; done)
    all_goals (
      have hlt : i < l.length := by assumption
      obtain ⟨x, hx⟩ := at_some hlt
      have hy := mSt_at (k := k) hx
      have hmt := mkS_take hx
      have hml := mkS_le l i
      have hml2 := mkS_le l (i + 1)
      unfold TStep.mn at hmt
      have hwk0 : IntKind.wrap .i64 ((k + (mkS (l.take i) : Int)) + 1) = (k + (mkS (l.take i) : Int)) + 1 := (wrap64 (by omega) (by omega)).trans (by omega)
      have hwk1 : IntKind.wrap .i64 ((k + (mkS (l.take i) : Int)) + 1 + 1) = (k + (mkS (l.take i) : Int)) + 2 := (wrap64 (by omega) (by omega)).trans (by omega)
      have hwk2 : IntKind.wrap .i64 ((k + (mkS (l.take i) : Int)) + 2 + 1) = (k + (mkS (l.take i) : Int)) + 3 := (wrap64 (by omega) (by omega)).trans (by omega)
      have hwk3 : IntKind.wrap .i64 ((k + (mkS (l.take i) : Int)) + 3 + 1) = (k + (mkS (l.take i) : Int)) + 4 := (wrap64 (by omega) (by omega)).trans (by omega)
      have hwv0 : IntKind.wrap .i64 ((k + (mkS (l.take i) : Int))) = (k + (mkS (l.take i) : Int)) := wrap64 (by omega) (by omega)
      have hwv1 : IntKind.wrap .i64 ((k + (mkS (l.take i) : Int)) + 1) = (k + (mkS (l.take i) : Int)) + 1 := wrap64 (by omega) (by omega)
      have hwv2 : IntKind.wrap .i64 ((k + (mkS (l.take i) : Int)) + 2) = (k + (mkS (l.take i) : Int)) + 2 := wrap64 (by omega) (by omega)
      have hwv3 : IntKind.wrap .i64 ((k + (mkS (l.take i) : Int)) + 3) = (k + (mkS (l.take i) : Int)) + 3 := wrap64 (by omega) (by omega)
      refine AW.skipN (fun _ h => h) ?_
      refine AW.seq ?_
      refine AW.block ?_
      refine AW.seq ?_
      refine AW.reg tiOk (fun _ => []) [0, 1, 5, 18] ?_
      intro k hk; simp -dsimp (maxSteps := 2000000) [go_sem, -decide_eq_true_eq, -decide_eq_false_iff_not, hmm, hy, stepM, hwk0, hwk1, hwk2, hwk3, hwv0, hwv1, hwv2, hwv3]
      repeat' (first | refine And.intro ?_ ?_ | refine hk _ ?_ | intro hg | omega | exact True.intro)
      all_goals clear hk k
      refine AW.cond rfl ?_ ?_
      · intro hc; try simp at hc
        all_goals try (exfalso; omega; done)
        all_goals (
          refine AW.reg tiOk (fun _ => []) [4] ?_
          intro k hk; simp -dsimp [go_sem, -decide_eq_true_eq, -decide_eq_false_iff_not, hmm, hy, stepM, hwk0, hwk1, hwk2, hwk3, hwv0, hwv1, hwv2, hwv3]
          repeat' (first | refine And.intro ?_ ?_ | refine hk _ ?_ | intro hg | omega | exact True.intro)
          all_goals clear hk k
          refine AW.retF (ow := []) (muts := []) ?_ (fun h => And.intro (.inr rfl) h)
          obtain rfl : i = l.length := (by omega)
          simp [go_sem, Tryz.results137])
      · intro hc; try simp at hc
        all_goals try (exfalso; omega; done)
        all_goals (
          refine AW.skipN (fun _ h => h) ?_
          refine AW.reg tiOk (fun _ => []) [0, 1, 5] ?_
          intro k hk; simp -dsimp [go_sem, -decide_eq_true_eq, -decide_eq_false_iff_not, hmm, hy, stepM, hwk0, hwk1, hwk2, hwk3, hwv0, hwv1, hwv2, hwv3]
          repeat' (first | refine And.intro ?_ ?_ | refine hk _ ?_ | intro hg | omega | exact True.intro)
          all_goals clear hk k
          refine AW.seq ?_
          refine AW.reg tiOk (fun _ => []) [0, 1, 5, 27] ?_
          intro k hk; simp -dsimp (maxSteps := 2000000) [go_sem, -decide_eq_true_eq, -decide_eq_false_iff_not, hmm, hy, stepM, hwk0, hwk1, hwk2, hwk3, hwv0, hwv1, hwv2, hwv3]
          repeat' (first | refine And.intro ?_ ?_ | refine hk _ ?_ | intro hg | omega | exact True.intro)
          all_goals clear hk k
          refine AW.cond rfl ?_ ?_
          · intro hc; try simp at hc
            all_goals try (exfalso; omega; done)
            all_goals (
              refine AW.reg tiOk (fun _ => []) [4] ?_
              intro k hk; simp -dsimp [go_sem, -decide_eq_true_eq, -decide_eq_false_iff_not, hmm, hy, stepM, hwk0, hwk1, hwk2, hwk3, hwv0, hwv1, hwv2, hwv3]
              repeat' (first | refine And.intro ?_ ?_ | refine hk _ ?_ | intro hg | omega | exact True.intro)
              all_goals clear hk k
              refine AW.retF (ow := []) (muts := []) ?_ (fun h => And.intro (.inr rfl) h)
              obtain rfl : i = l.length := (by omega)
              simp [go_sem, Tryz.results137])
          · intro hc; try simp at hc
            all_goals try (exfalso; omega; done)
            all_goals (
              refine AW.skipN (fun _ h => h) ?_
              refine AW.reg tiOk (fun _ => []) [0, 1, 5] ?_
              intro k hk; simp -dsimp [go_sem, -decide_eq_true_eq, -decide_eq_false_iff_not, hmm, hy, stepM, hwk0, hwk1, hwk2, hwk3, hwv0, hwv1, hwv2, hwv3]
              repeat' (first | refine And.intro ?_ ?_ | refine hk _ ?_ | intro hg | omega | exact True.intro)
              all_goals clear hk k
              refine AW.seq ?_
              refine AW.reg tiOk (fun _ => []) [0, 1, 5, 37] ?_
              intro k hk; simp -dsimp (maxSteps := 2000000) [go_sem, -decide_eq_true_eq, -decide_eq_false_iff_not, hmm, hy, stepM, hwk0, hwk1, hwk2, hwk3, hwv0, hwv1, hwv2, hwv3]
              repeat' (first | refine And.intro ?_ ?_ | (refine Chk.keys ?_; simp only [go_sem, List.map_cons, List.map_nil, List.flatMap_cons, List.flatMap_nil, List.flatMap_append, List.append_nil, List.nil_append, List.cons_append]; decide +kernel) | refine hk _ ?_ | intro hg | (refine CallK.intro (dc_laws_markText _ (by omega)) ?_; simp -dsimp (maxSteps := 2000000) [go_sem, -decide_eq_true_eq, -decide_eq_false_iff_not, hmm, hy, stepM, hwk0, hwk1, hwk2, hwk3, hwv0, hwv1, hwv2, hwv3]) | omega | exact True.intro)
              all_goals clear hk k
              refine AW.cond rfl ?_ ?_
              · intro hc; try simp at hc
                all_goals try (exfalso; omega; done)
                all_goals (
                  refine AW.reg tiOk (fun _ => []) [4] ?_
                  intro k hk; simp -dsimp [go_sem, -decide_eq_true_eq, -decide_eq_false_iff_not, hmm, hy, stepM, hwk0, hwk1, hwk2, hwk3, hwv0, hwv1, hwv2, hwv3]
                  repeat' (first | refine And.intro ?_ ?_ | refine hk _ ?_ | intro hg | omega | exact True.intro)
                  all_goals clear hk k
                  refine AW.retF (ow := []) (muts := []) ?_ (fun h => And.intro (.inr rfl) h)
                  obtain rfl : i = l.length := (by omega)
                  simp [go_sem, Tryz.results137])
              · intro hc; try simp at hc
                all_goals try (exfalso; omega; done)
                all_goals (
                  refine AW.skipN (fun _ h => h) ?_
                  refine AW.reg tiOk (fun _ => []) [0, 1, 5] ?_
                  intro k hk; simp -dsimp [go_sem, -decide_eq_true_eq, -decide_eq_false_iff_not, hmm, hy, stepM, hwk0, hwk1, hwk2, hwk3, hwv0, hwv1, hwv2, hwv3]
                  repeat' (first | refine And.intro ?_ ?_ | refine hk _ ?_ | intro hg | omega | exact True.intro)
                  all_goals clear hk k
                  refine AW.seq ?_
                  refine AW.reg tiOk (fun _ => []) [0, 1, 5, 46] ?_
                  intro k hk; simp -dsimp (maxSteps := 2000000) [go_sem, -decide_eq_true_eq, -decide_eq_false_iff_not, hmm, hy, stepM, hwk0, hwk1, hwk2, hwk3, hwv0, hwv1, hwv2, hwv3]
                  repeat' (first | refine And.intro ?_ ?_ | refine hk _ ?_ | intro hg | omega | exact True.intro)
                  all_goals clear hk k
                  refine AW.cond rfl ?_ ?_
                  · intro hc; try simp at hc
                    all_goals try (exfalso; omega; done)
                    all_goals (
                      refine AW.reg tiOk (fun _ => []) [4] ?_
                      intro k hk; simp -dsimp [go_sem, -decide_eq_true_eq, -decide_eq_false_iff_not, hmm, hy, stepM, hwk0, hwk1, hwk2, hwk3, hwv0, hwv1, hwv2, hwv3]
                      repeat' (first | refine And.intro ?_ ?_ | refine hk _ ?_ | intro hg | omega | exact True.intro)
                      all_goals clear hk k
                      refine AW.retF (ow := []) (muts := []) ?_ (fun h => And.intro (.inr rfl) h)
                      obtain rfl : i = l.length := (by omega)
                      simp [go_sem, Tryz.results137])
                  · intro hc; try simp at hc
                    all_goals try (exfalso; omega; done)
                    all_goals (
                      refine AW.skipN (fun _ h => h) ?_
                      refine AW.reg tiOk (fun _ => []) [0, 1, 5] ?_
                      intro k hk; simp -dsimp [go_sem, -decide_eq_true_eq, -decide_eq_false_iff_not, hmm, hy, stepM, hwk0, hwk1, hwk2, hwk3, hwv0, hwv1, hwv2, hwv3]
                      repeat' (first | refine And.intro ?_ ?_ | refine hk _ ?_ | intro hg | omega | exact True.intro)
                      all_goals clear hk k
                      refine AW.reg tiOk (fun _ => []) [0, 1, 5] ?_
                      intro k hk; simp -dsimp (maxSteps := 2000000) [go_sem, -decide_eq_true_eq, -decide_eq_false_iff_not, hmm, hy, stepM, hwk0, hwk1, hwk2, hwk3, hwv0, hwv1, hwv2, hwv3]
                      repeat' (first | refine And.intro ?_ ?_ | refine hk _ ?_ | intro hg | (refine CallK.intro (dc_laws_heldNodeS x.cond.length _ (by constructor <;> omega)) ?_; simp -dsimp (maxSteps := 2000000) [go_sem, -decide_eq_true_eq, -decide_eq_false_iff_not, hmm, hy, stepM, hwk0, hwk1, hwk2, hwk3, hwv0, hwv1, hwv2, hwv3]) | (refine CallK.intro (dc_laws_heldNodeS x.expr.length _ (by constructor <;> omega)) ?_; simp -dsimp (maxSteps := 2000000) [go_sem, -decide_eq_true_eq, -decide_eq_false_iff_not, hmm, hy, stepM, hwk0, hwk1, hwk2, hwk3, hwv0, hwv1, hwv2, hwv3]) | omega | exact True.intro)
                      all_goals clear hk k
                      refine AW.seq ?_
                      refine AW.reg tiOk (fun _ => []) [0, 1, 5, 57] ?_
                      intro k hk; simp -dsimp [go_sem, -decide_eq_true_eq, -decide_eq_false_iff_not, hmm, hy, stepM, hwk0, hwk1, hwk2, hwk3, hwv0, hwv1, hwv2, hwv3]
                      repeat' (first | refine And.intro ?_ ?_ | refine hk _ ?_ | intro hg | omega | exact True.intro)
                      all_goals clear hk k
                      refine AW.cond rfl ?_ ?_
                      · intro hc; try simp at hc
                        all_goals try (exfalso; omega; done)
                        all_goals (
                          refine AW.reg tiOk (fun _ => []) [4] ?_
                          intro k hk; simp -dsimp [go_sem, -decide_eq_true_eq, -decide_eq_false_iff_not, hmm, hy, stepM, hwk0, hwk1, hwk2, hwk3, hwv0, hwv1, hwv2, hwv3]
                          repeat' (first | refine And.intro ?_ ?_ | refine hk _ ?_ | intro hg | omega | exact True.intro)
                          all_goals clear hk k
                          refine AW.retF (ow := []) (muts := []) ?_ (fun h => And.intro (.inr rfl) h)
                          obtain rfl : i = l.length := (by omega)
                          simp [go_sem, Tryz.results137])
                      · intro hc; try simp at hc
                        all_goals try (exfalso; omega; done)
                        all_goals (
                          refine AW.skipN (fun _ h => h) ?_
                          refine AW.reg tiOk (fun _ => []) [0, 1, 5] ?_
                          intro k hk; simp -dsimp (maxSteps := 2000000) [go_sem, -decide_eq_true_eq, -decide_eq_false_iff_not, hmm, hy, stepM, hwk0, hwk1, hwk2, hwk3, hwv0, hwv1, hwv2, hwv3]
                          repeat' (first | refine And.intro ?_ ?_ | refine hk _ ?_ | intro hg | (refine CallK.intro (dc_laws_heldNodeS x.cond.length _ (by constructor <;> omega)) ?_; simp -dsimp (maxSteps := 2000000) [go_sem, -decide_eq_true_eq, -decide_eq_false_iff_not, hmm, hy, stepM, hwk0, hwk1, hwk2, hwk3, hwv0, hwv1, hwv2, hwv3]) | (refine CallK.intro (dc_laws_heldNodeS x.expr.length _ (by constructor <;> omega)) ?_; simp -dsimp (maxSteps := 2000000) [go_sem, -decide_eq_true_eq, -decide_eq_false_iff_not, hmm, hy, stepM, hwk0, hwk1, hwk2, hwk3, hwv0, hwv1, hwv2, hwv3]) | omega | exact True.intro)
                          all_goals clear hk k
                          refine AW.reg tiOk (fun _ => []) [0, 1, 5, 66] ?_
                          intro k hk; simp -dsimp [go_sem, -decide_eq_true_eq, -decide_eq_false_iff_not, hmm, hy, stepM, hwk0, hwk1, hwk2, hwk3, hwv0, hwv1, hwv2, hwv3]
                          repeat' (first | refine And.intro ?_ ?_ | refine hk _ ?_ | intro hg | omega | exact True.intro)
                          all_goals clear hk k
                          refine AW.cond rfl ?_ ?_
                          · intro hc; try simp at hc
                            all_goals try (exfalso; omega; done)
                            all_goals (
                              refine AW.reg tiOk (fun _ => []) [4] ?_
                              intro k hk; simp -dsimp [go_sem, -decide_eq_true_eq, -decide_eq_false_iff_not, hmm, hy, stepM, hwk0, hwk1, hwk2, hwk3, hwv0, hwv1, hwv2, hwv3]
                              repeat' (first | refine And.intro ?_ ?_ | refine hk _ ?_ | intro hg | omega | exact True.intro)
                              all_goals clear hk k
                              refine AW.retF (ow := []) (muts := []) ?_ (fun h => And.intro (.inr rfl) h)
                              obtain rfl : i = l.length := (by omega)
                              simp [go_sem, Tryz.results137])
                          · intro hc; try simp at hc
                            all_goals try (exfalso; omega; done)
                            all_goals (
                              refine AW.skipN (fun _ h => h) ?_
                              refine AW.regK tiOk (fun _ => []) ?_
                              intro k hk; simp -dsimp [go_sem, -decide_eq_true_eq, -decide_eq_false_iff_not, hmm, hy, stepM, hwk0, hwk1, hwk2, hwk3, hwv0, hwv1, hwv2, hwv3]
                              repeat' (first | refine And.intro ?_ ?_ | refine hk _ ?_ | intro hg | omega | exact True.intro)
                              all_goals clear hk k
                              show ∃ _, _
                              have hw := wrapi hlt (by omega)
                              refine ⟨i + 1, by omega, by omega, Less.of rfl (by simp [go_sem, hw, hmt] <;> omega) (by simp [go_sem])⟩)))))))
  · intro hc; try simp at hc
    all_goals try (exfalso; omega; done)
    all_goals (
      refine AW.exitN (fun _ h => h) ?_
      refine AW.reg tiOk (fun _ => []) [4] ?_
      intro k hk; simp -dsimp [go_sem, -decide_eq_true_eq, -decide_eq_false_iff_not, hmm]
      repeat' (first | refine And.intro ?_ ?_ | refine hk _ ?_ | intro hg | omega | exact True.intro)
      all_goals clear hk k
      refine AW.retF (ow := []) (muts := []) ?_ (fun h => And.intro (.inr rfl) h)
      obtain rfl : i = l.length := (by omega)
      simp [go_sem, Tryz.results137])

end Go.AM

/-! ### Pt2 -/
set_option linter.unusedVariables false
set_option linter.unusedSimpArgs false
namespace Go.AM
theorem app_here {es i : Nat} {a : List (List AV)} {c : List AV} (h : a.length = i) : (⟨es, a ++ [c]⟩ : Node).l[i]? = some c := by subst h; simp
/-- the first i steps, owned -/
def cpS (l : List TStep) (i : Nat) : List (List AV) := (l.take i).map TStep.oc
theorem cpS_snoc {l : List TStep} {i : Nat} {x : TStep} (h : l[i]? = some x) : cpS l (i + 1) = cpS l i ++ [x.oc] := by
  unfold cpS; rw [List.take_add_one, h]; simp
theorem cpS_len {l : List TStep} {i : Nat} (h : i ≤ l.length) : (cpS l i).length = i := by unfold cpS; simp; omega
theorem cpS_ids (l : List TStep) (i : Nat) : (cpS l i).flatMap idsL = [] := ocids _
theorem cpS_no (l : List TStep) (i n : Nat) : (∀ x, x ∈ cpS l i → ¬ n ∈ idsL x) ↔ True := by
  have h := cpS_ids l i
  rw [List.flatMap_eq_nil_iff] at h
  exact ⟨fun _ => True.intro, fun _ x hx => by rw [h x hx]; simp⟩
theorem cpS_zero (l : List TStep) : cpS l 0 = [] := rfl
theorem cpS_end (l : List TStep) : cpS l l.length = l.map TStep.oc := by unfold cpS; rw [List.take_length]
theorem ccases (l : List TNode) : (owc 4 (l.map TNode.ro) = .isl 4 [] ∧ l.length = 0) ∨ (owc 4 (l.map TNode.ro) = .osl 4 (l.map TNode.ro) ∧ 0 < l.length) := by
  cases l with
  | nil => exact Or.inl ⟨rfl, rfl⟩
  | cons x r => exact Or.inr ⟨rfl, by simp⟩
attribute [go_sem] cpS_ids cpS_no cpS_zero
end Go.AM

/-! ### Pt3 -/
set_option linter.unusedVariables false
set_option linter.unusedSimpArgs false
namespace Go.AM
/-- the first i processes, owned -/
def cpP (l : List TProc) (i : Nat) : List (List AV) := (l.take i).map fun p => [.osl 6 (p.steps.map TStep.oc)]
theorem cpP_snoc {l : List TProc} {i : Nat} {x : TProc} (h : l[i]? = some x) : cpP l (i + 1) = cpP l i ++ [[.osl 6 (x.steps.map TStep.oc)]] := by
  unfold cpP; rw [List.take_add_one, h]; simp
theorem cpP_len {l : List TProc} {i : Nat} (h : i ≤ l.length) : (cpP l i).length = i := by unfold cpP; simp; omega
theorem cpP_ids (l : List TProc) (i : Nat) : (cpP l i).flatMap idsL = [] := flatids (by intro x; simp [go_sem]) _
theorem cpP_no (l : List TProc) (i n : Nat) : (∀ x, x ∈ cpP l i → ¬ n ∈ idsL x) ↔ True := by
  have h := cpP_ids l i
  rw [List.flatMap_eq_nil_iff] at h
  exact ⟨fun _ => True.intro, fun _ x hx => by rw [h x hx]; simp⟩
theorem cpP_zero (l : List TProc) : cpP l 0 = [] := rfl
theorem cpP_end (l : List TProc) : cpP l l.length = l.map fun p => [.osl 6 (p.steps.map TStep.oc)] := by unfold cpP; rw [List.take_length]
attribute [go_sem] cpP_ids cpP_no cpP_zero
end Go.AM

/-! ### Pt4 -/
set_option linter.unusedVariables false
set_option linter.unusedSimpArgs false
namespace Go.AM
/-- how many marks the steps of processes take -/
def mkPr (l : List TProc) : Nat := (l.map fun p => mkS p.steps).sum
theorem mkPr_take {l : List TProc} {i : Nat} {x : TProc} (h : l[i]? = some x) : mkPr (l.take (i + 1)) = mkPr (l.take i) + mkS x.steps := by
  unfold mkPr; rw [List.take_add_one, h]; simp
theorem mkPr_le (l : List TProc) (i : Nat) : mkPr (l.take i) ≤ mkPr l := by
  unfold mkPr
  conv => rhs; rw [← List.take_append_drop i l]
  rw [List.map_append, List.sum_append]; omega
theorem mkPr_end {l : List TProc} {i : Nat} (h : l.length ≤ i) : mkPr (l.take i) = mkPr l := by rw [List.take_of_length_le h]
theorem mkPr_sz (l : List TProc) : mkPr l ≤ 4 * (l.map TProc.sz).sum := by
  induction l with
  | nil => simp [mkPr]
  | cons x r ih =>
    have := mkS_sz x.steps
    unfold mkPr at *
    simp only [List.map_cons, List.sum_cons]
    unfold TProc.sz at *
    omega
def procM (k : Int) (x : TProc) : TProc := ⟨mSt k x.steps⟩
def mPr (k : Int) (l : List TProc) : List TProc := l.mapIdx fun j x => procM (k + (mkPr (l.take j) : Int)) x
theorem mPr_len {k : Int} {l : List TProc} : (mPr k l).length = l.length := by simp [mPr]
theorem mPr_at {k : Int} {l : List TProc} {i : Nat} {x : TProc} (h : l[i]? = some x) : (mPr k l)[i]? = some (procM (k + (mkPr (l.take i) : Int)) x) := by simp [mPr, h]
theorem mSt_ne {K : Int} {l : List TStep} (h : l ≠ []) : (mSt K l).map TStep.oc ≠ [] := by
  intro h2; have := congrArg List.length h2; simp [mSt] at this; exact h this
theorem pcids (l : List TProc) : (l.map TProc.oc).flatMap idsL = [] := TProc_oc_idsL l
theorem pcases (l : List TStep) : (owc 6 (l.map TStep.oc) = .isl 6 [] ∧ (∀ K, owc 6 ((mSt K l).map TStep.oc) = .isl 6 []) ∧ l.length = 0 ∧ mkS l = 0) ∨
    (owc 6 (l.map TStep.oc) = .osl 6 (l.map TStep.oc) ∧ (∀ K, owc 6 ((mSt K l).map TStep.oc) = .osl 6 ((mSt K l).map TStep.oc)) ∧ 0 < l.length ∧ 0 ≤ mkS l) := by
  cases l with
  | nil => exact Or.inl ⟨rfl, fun _ => rfl, rfl, rfl⟩
  | cons x r =>
    refine Or.inr ⟨rfl, fun K => ?_, by simp, Nat.zero_le _⟩
    rcases owc_cases 6 ((mSt K (x :: r)).map TStep.oc) with ⟨_, h⟩ | ⟨h, _⟩
    · exact absurd h (mSt_ne (by simp))
    · exact h
/-- what is copied of processes with steps -/
theorem cpP_oc {l : List TProc} (h : ∀ p ∈ l, p.steps ≠ []) : (l.map fun p => [.osl 6 (p.steps.map TStep.oc)]) = l.map TProc.oc := by
  apply List.map_congr_left
  intro p hp
  have h2 := h p hp
  cases h3 : p.steps with
  | nil => exact absurd h3 h2
  | cons a b => simp [TProc.oc, h3, owc]
theorem proc_ne {l : List TProc} (h : procsF l = 0) : ∀ p ∈ l, p.steps ≠ [] := by
  intro p hp h0
  obtain ⟨i, hi⟩ := List.mem_iff_getElem?.1 hp
  have h3 := (procsF_zero h).2 i (at_lt hi)
  rw [procAt_at hi] at h3
  have h4 := (procOk h3).len
  rw [h0] at h4; simp at h4
theorem set_same {α : Type} {l : List α} {i : Nat} {a : α} (h : l[i]? = some a) : l.set i a = l := by
  obtain ⟨hi, hx⟩ := List.getElem?_eq_some_iff.1 h
  subst hx; exact List.set_getElem_self hi
theorem pszs {l : List TProc} (h : l.length ≤ 1048576 ∧ ∀ e ∈ l, e.sz ≤ 1048576) : l.length ≤ 1048576 ∧ ∀ e ∈ l, e.steps.length ≤ 1048576 ∧ ∀ s ∈ e.steps, s.sz ≤ 1048576 := by
  refine ⟨h.1, fun e he => ?_⟩
  have h2 := h.2 e he
  unfold TProc.sz at h2
  refine ⟨by omega, fun s hs => ?_⟩
  have := sum_mem (f := TStep.sz) hs
  omega
theorem ger (c v n : Int) (l : List TProc) (h : l.length ≤ 9223372036854775807 ∧ ∀ e ∈ l, e.gok) : (⟨c, v, ⟨l, [], n⟩⟩ : TEngineResult).gok := by
  simp only [TEngineResult.gok, TEngine.gok]
  exact ⟨h, by simp⟩
end Go.AM

/-! ### Q7 -/
set_option linter.unusedVariables false
set_option linter.unusedSimpArgs false
namespace Go.AM
open Go.Proofs

set_option maxHeartbeats 600000 in
set_option linter.unusedSimpArgs false in
set_option maxRecDepth 100000 in
/-- laws.markStepS -/
theorem dc_laws_markStepS_nil (k : Int) : DC Tryz.prog 46 [.isl 6 [], .int .i64 k] (.int .i64 k) [] := by
  refine DC.intro tiOk Tryz.func46 rfl rfl rfl rfl rfl rfl rfl rfl [] ?_
  refine AW.reg tiOk (fun _ => []) [0, 1] ?_
  intro k hk; simp -dsimp [go_sem, -decide_eq_true_eq, -decide_eq_false_iff_not]
  repeat' (first | refine And.intro ?_ ?_ | refine hk _ ?_ | intro hg | omega | exact True.intro)
  all_goals clear hk k
  refine AW.seq ?_
  refine AW.reg tiOk (fun _ => []) [0, 1, 5] ?_
  intro k hk; simp -dsimp [go_sem, -decide_eq_true_eq, -decide_eq_false_iff_not]
  repeat' (first | refine And.intro ?_ ?_ | refine hk _ ?_ | intro hg | omega | exact True.intro)
  all_goals clear hk k
  refine AW.block ?_
  -- live at the loop's head: [0, 1, 5]
  refine AW.loopI (fun _ : Nat => ⟨56, [(0, .isl 6 []), (1, .int .i64 k), (5, .int .i64 0)], []⟩) (fun _ => True) (fun _ => 0) (0) (trivial) (Less.of rfl (by simp [go_sem]) (by simp [go_sem])) ?_
  rintro i _
  refine AW.seq ?_
  refine AW.reg tiOk (fun _ => []) [0, 1, 5, 9] ?_
  intro k hk; simp -dsimp [go_sem, -decide_eq_true_eq, -decide_eq_false_iff_not]
  repeat' (first | refine And.intro ?_ ?_ | refine hk _ ?_ | intro hg | omega | exact True.intro)
  all_goals clear hk k
  refine AW.cond rfl ?_ ?_
  · intro hc; try simp at hc
    all_goals try (exfalso; first | omega | (simp at hc; done); done)
    all_goals (
      refine AW.skipN (fun _ h => h) ?_
      refine AW.seq ?_
      refine AW.block ?_
      refine AW.reg tiOk (fun _ => []) [0, 1, 5] ?_
      intro k hk; simp -dsimp [go_sem, -decide_eq_true_eq, -decide_eq_false_iff_not]
      repeat' (first | refine And.intro ?_ ?_ | refine hk _ ?_ | intro hg | omega | exact True.intro)
      all_goals clear hk k
      refine AW.reg tiOk (fun _ => []) [0, 1, 5] ?_
      intro k hk; simp -dsimp [go_sem, -decide_eq_true_eq, -decide_eq_false_iff_not]
      repeat' (first | refine And.intro ?_ ?_ | refine hk _ ?_ | intro hg | omega | exact True.intro)
      all_goals clear hk k
      refine AW.reg tiOk (fun _ => []) [0, 1, 5] ?_
      intro k hk; simp -dsimp [go_sem, -decide_eq_true_eq, -decide_eq_false_iff_not]
      repeat' (first | refine And.intro ?_ ?_ | refine hk _ ?_ | intro hg | omega | exact True.intro)
      all_goals clear hk k
      refine AW.reg tiOk (fun _ => []) [0, 1, 5] ?_
      intro k hk; simp -dsimp [go_sem, -decide_eq_true_eq, -decide_eq_false_iff_not]
      repeat' (first | refine And.intro ?_ ?_ | refine hk _ ?_ | intro hg | omega | exact True.intro)
      all_goals clear hk k
      refine AW.reg tiOk (fun _ => []) [0, 1, 5] ?_
      intro k hk; simp -dsimp (maxSteps := 2000000) [go_sem, -decide_eq_true_eq, -decide_eq_false_iff_not]
      repeat' (first | refine And.intro ?_ ?_ | refine hk _ ?_ | intro hg | (refine CallK.intro (dc_laws_markText _ (by omega)) ?_; simp -dsimp (maxSteps := 2000000) [go_sem, -decide_eq_true_eq, -decide_eq_false_iff_not]) | omega | exact True.intro)
      all_goals clear hk k
      refine AW.reg tiOk (fun _ => []) [0, 1, 5] ?_
      intro k hk; simp -dsimp [go_sem, -decide_eq_true_eq, -decide_eq_false_iff_not]
      repeat' (first | refine And.intro ?_ ?_ | refine hk _ ?_ | intro hg | omega | exact True.intro)
      all_goals clear hk k
      refine AW.reg tiOk (fun _ => []) [0, 1, 5] ?_
      intro k hk; simp -dsimp [go_sem, -decide_eq_true_eq, -decide_eq_false_iff_not]
      repeat' (first | refine And.intro ?_ ?_ | refine hk _ ?_ | intro hg | omega | exact True.intro)
      all_goals clear hk k
      refine AW.reg tiOk (fun _ => []) [0, 1, 5] ?_
      intro k hk; simp -dsimp [go_sem, -decide_eq_true_eq, -decide_eq_false_iff_not]
      repeat' (first | refine And.intro ?_ ?_ | refine hk _ ?_ | intro hg | omega | exact True.intro)
      all_goals clear hk k
      refine AW.reg tiOk (fun _ => [0]) [0, 1, 5] ?_
      intro k hk; simp -dsimp (maxSteps := 2000000) [go_sem, -decide_eq_true_eq, -decide_eq_false_iff_not]
      repeat' (first | refine And.intro ?_ ?_ | refine hk _ ?_ | intro hg | (refine CallK.intro (dc_laws_markNodeS _) ?_; simp -dsimp (maxSteps := 2000000) [go_sem, -decide_eq_true_eq, -decide_eq_false_iff_not]) | omega | exact True.intro)
      all_goals clear hk k
      refine AW.regN tiOk (fun _ => [0]) [0, 1, 5] (fun _ h => h) ?_
      intro k hk; simp -dsimp (maxSteps := 2000000) [go_sem, -decide_eq_true_eq, -decide_eq_false_iff_not]
      repeat' (first | refine And.intro ?_ ?_ | refine hk _ ?_ | intro hg | (refine CallK.intro (dc_laws_markNodeS _) ?_; simp -dsimp (maxSteps := 2000000) [go_sem, -decide_eq_true_eq, -decide_eq_false_iff_not]) | omega | exact True.intro)
      all_goals clear hk k
      refine AW.regK tiOk (fun _ => []) ?_
      intro k hk; simp -dsimp [go_sem, -decide_eq_true_eq, -decide_eq_false_iff_not]
      repeat' (first | refine And.intro ?_ ?_ | refine hk _ ?_ | intro hg | omega | exact True.intro)
      all_goals clear hk k
      show ∃ _, _
      exact absurd hc (by simp))
  · intro hc; try simp at hc
    all_goals try (exfalso; first | omega | (simp at hc; done); done)
    all_goals (
      refine AW.exitN (fun _ h => h) ?_
      refine AW.reg tiOk (fun _ => []) [4] ?_
      intro k hk; simp -dsimp [go_sem, -decide_eq_true_eq, -decide_eq_false_iff_not]
      repeat' (first | refine And.intro ?_ ?_ | refine hk _ ?_ | intro hg | omega | exact True.intro)
      all_goals clear hk k
      refine AW.retF (ow := []) (muts := []) ?_ (fun h => And.intro (.inr rfl) h)
      simp [go_sem, Tryz.results46])

set_option maxHeartbeats 600000 in
set_option linter.unusedSimpArgs false in
set_option maxRecDepth 100000 in
/-- laws.markProcS -/
theorem dc_laws_markProcS_nil (k : Int) : DC Tryz.prog 14 [.isl 1 [], .int .i64 k] (.int .i64 k) [] := by
  refine DC.intro tiOk Tryz.func14 rfl rfl rfl rfl rfl rfl rfl rfl [] ?_
  refine AW.reg tiOk (fun _ => []) [0, 1] ?_
  intro k hk; simp -dsimp [go_sem, -decide_eq_true_eq, -decide_eq_false_iff_not]
  repeat' (first | refine And.intro ?_ ?_ | refine hk _ ?_ | intro hg | omega | exact True.intro)
  all_goals clear hk k
  refine AW.seq ?_
  refine AW.reg tiOk (fun _ => []) [0, 1, 5] ?_
  intro k hk; simp -dsimp [go_sem, -decide_eq_true_eq, -decide_eq_false_iff_not]
  repeat' (first | refine And.intro ?_ ?_ | refine hk _ ?_ | intro hg | omega | exact True.intro)
  all_goals clear hk k
  refine AW.block ?_
  -- live at the loop's head: [0, 1, 5]
  refine AW.loopI (fun _ : Nat => ⟨20, [(0, .isl 1 []), (1, .int .i64 k), (5, .int .i64 0)], []⟩) (fun _ => True) (fun _ => 0) (0) (trivial) (Less.of rfl (by simp [go_sem]) (by simp [go_sem])) ?_
  rintro i _
  refine AW.seq ?_
  refine AW.reg tiOk (fun _ => []) [0, 1, 5, 9] ?_
  intro k hk; simp -dsimp [go_sem, -decide_eq_true_eq, -decide_eq_false_iff_not]
  repeat' (first | refine And.intro ?_ ?_ | refine hk _ ?_ | intro hg | omega | exact True.intro)
  all_goals clear hk k
  refine AW.cond rfl ?_ ?_
  · intro hc; try simp at hc
    all_goals try (exfalso; first | omega | (simp at hc; done); done)
    all_goals (
      refine AW.skipN (fun _ h => h) ?_
      refine AW.seq ?_
      refine AW.block ?_
      refine AW.regN tiOk (fun _ => [0]) [0, 1, 5] (fun _ h => h) ?_
      intro k hk; simp -dsimp (maxSteps := 2000000) [go_sem, -decide_eq_true_eq, -decide_eq_false_iff_not]
      repeat' (first | refine And.intro ?_ ?_ | refine hk _ ?_ | intro hg | (refine CallK.intro (dc_laws_markStepS _) ?_; simp -dsimp (maxSteps := 2000000) [go_sem, -decide_eq_true_eq, -decide_eq_false_iff_not]) | omega | exact True.intro)
      all_goals clear hk k
      refine AW.regK tiOk (fun _ => []) ?_
      intro k hk; simp -dsimp [go_sem, -decide_eq_true_eq, -decide_eq_false_iff_not]
      repeat' (first | refine And.intro ?_ ?_ | refine hk _ ?_ | intro hg | omega | exact True.intro)
      all_goals clear hk k
      show ∃ _, _
      exact absurd hc (by simp))
  · intro hc; try simp at hc
    all_goals try (exfalso; first | omega | (simp at hc; done); done)
    all_goals (
      refine AW.exitN (fun _ h => h) ?_
      refine AW.reg tiOk (fun _ => []) [4] ?_
      intro k hk; simp -dsimp [go_sem, -decide_eq_true_eq, -decide_eq_false_iff_not]
      repeat' (first | refine And.intro ?_ ?_ | refine hk _ ?_ | intro hg | omega | exact True.intro)
      all_goals clear hk k
      refine AW.retF (ow := []) (muts := []) ?_ (fun h => And.intro (.inr rfl) h)
      simp [go_sem, Tryz.results14])

set_option maxHeartbeats 4000000 in
set_option linter.unusedSimpArgs false in
set_option maxRecDepth 100000 in
/-- laws.markProcS -/
theorem dc_laws_markProcS_x (l : List TProc) (k : Int) (hll : l.length ≤ 1048576) (hk : 0 ≤ k ∧ k + (mkPr l : Int) ≤ 4611686018427387904) : DC Tryz.prog 14 [.osl 1 (l.map TProc.oc), .int .i64 k] (.int .i64 (k + (mkPr l : Int))) [(0, .osl 1 ((mPr k l).map TProc.oc))] := by
  have hmm : (mPr k l).length = l.length := mPr_len
  refine DC.intro tiOk Tryz.func14 rfl rfl rfl rfl rfl rfl rfl (by simp [noW, noWo]) [] ?_
  refine AW.reg tiOk (fun _ => []) [0, 1] ?_
  intro k hk; simp -dsimp [go_sem, -decide_eq_true_eq, -decide_eq_false_iff_not]
  repeat' (first | refine And.intro ?_ ?_ | refine hk _ ?_ | intro hg | omega | exact True.intro)
  all_goals clear hk k
  refine AW.seq ?_
  refine AW.reg tiOk (fun _ => []) [0, 1, 5] ?_
  intro k hk; simp -dsimp [go_sem, -decide_eq_true_eq, -decide_eq_false_iff_not]
  repeat' (first | refine And.intro ?_ ?_ | refine hk _ ?_ | intro hg | omega | exact True.intro)
  all_goals clear hk k
  refine AW.block ?_
  -- live at the loop's head: [0, 1, 5]
  refine AW.loopI (fun i : Nat => ⟨20, [(0, .sl 1900 1 0 l.length), (1, .int .i64 (k + (mkPr (l.take i) : Int))), (5, .int .i64 i)], [(1900, some ⟨1, (mix (mPr k l) l i).map TProc.oc⟩)]⟩) (fun i => i ≤ l.length) (fun i => l.length - i) (0) (by simp) (Less.of rfl (by simp [go_sem, mkPr]) (by simp [go_sem, mix_zero])) ?_
  rintro i hi
  refine AW.seq ?_
  refine AW.reg tiOk (fun _ => []) [0, 1, 5, 9] ?_
  intro k hk; simp -dsimp [go_sem, -decide_eq_true_eq, -decide_eq_false_iff_not]
  repeat' (first | refine And.intro ?_ ?_ | refine hk _ ?_ | intro hg | omega | exact True.intro)
  all_goals clear hk k
  refine AW.cond rfl ?_ ?_
  · intro hc; try simp at hc
    all_goals (
      have hlt : i < l.length := by assumption
      obtain ⟨x, hx⟩ := at_some hlt
      have hmt := mkPr_take hx
      have hml := mkPr_le l i
      have hml2 := mkPr_le l (i + 1)
      have hp : (mix (mPr k l) l i).length = l.length := mix_len hmm hi
      have hp2 : (mix (mPr k l) l i)[i]? = some x := mix_at hmm hx
      have hp3 : ∀ h, (mix (mPr k l) l i)[i]'h = x := fun h => by have h9 := hp2; rw [List.getElem?_eq_getElem h] at h9; exact Option.some.inj h9
      have idm := pcids (mix (mPr k l) l i)
      have hpm : ((mix (mPr k l) l i).map TProc.oc).length = l.length := by rw [List.length_map, hp]
      refine AW.skipN (fun _ h => h) ?_
      refine AW.seq ?_
      refine AW.block ?_
      rcases pcases x.steps with ⟨hos, hos2, hos0, hm0⟩ | ⟨hos, hos2, hos0, hm0⟩
      all_goals (
        have hrow : ((mix (mPr k l) l i).map TProc.oc)[i]? = some [owc 6 (x.steps.map TStep.oc)] := by simp [hp2, TProc.oc]
        rw [hos] at hrow
        try (guard_hyp hos0 : 0 < x.steps.length; refine AW.thaw 1900 i 0 7004 rfl hrow rfl (by simp [go_sem, idm, not_ids_set]) ?_)
        refine AW.regN0 tiOk (fun i => if i = 6 then [0] else []) [0, 1, 5] (fun _ h => h) ?_
        intro k hk; simp -dsimp (maxSteps := 2000000) [go_sem, -decide_eq_true_eq, -decide_eq_false_iff_not, hp, hp2, hp3, hlt, idm, hos, mSt_len]
        repeat' (first | refine And.intro ?_ ?_ | refine hk _ ?_ | intro hg | (refine CallK.intro (dc_laws_markStepS_x x.steps _ (by constructor <;> omega)) ?_; simp -dsimp (maxSteps := 2000000) [go_sem, -decide_eq_true_eq, -decide_eq_false_iff_not, hp, hp2, hp3, hlt, idm, hos, mSt_len]) | (refine CallK.intro (dc_laws_markStepS_nil _) ?_; simp -dsimp (maxSteps := 2000000) [go_sem, -decide_eq_true_eq, -decide_eq_false_iff_not, hp, hp2, hp3, hlt, idm, hos, mSt_len]) | omega | exact True.intro)
        all_goals clear hk k
        try (guard_hyp hos0 : 0 < x.steps.length; refine AW.fold 1900 i 0 7004 rfl (node_here (by (repeat rw [List.length_set]); omega)) rfl rfl (by simp [mSt_len]) (by decide) (by simp [go_sem, mSt_len]) ?_)
        refine AW.regK tiOk (fun _ => []) ?_
        intro k hk; simp -dsimp [go_sem, -decide_eq_true_eq, -decide_eq_false_iff_not, hp, hp2, hp3, hlt, idm, hos, mSt_len]
        repeat' (first | refine And.intro ?_ ?_ | refine hk _ ?_ | intro hg | omega | exact True.intro)
        all_goals clear hk k
        show ∃ _, _
        have hw := wrapi hlt (by omega)
        have hs := congrArg (List.map TProc.oc) (mix_set hmm (mPr_at hx))
        rw [List.map_set] at hs
        refine ⟨i + 1, by omega, by omega, Less.of rfl (by simp [go_sem, hw, hmt, hm0] <;> omega) (by rw [← hs]; first | (simp [go_sem, procM, TProc.oc, hos2, List.set_set]; done) | (rw [set_same (by simp [hp2, procM, TProc.oc, hos2, hos])]; simp [go_sem]))⟩))
  · intro hc; try simp at hc
    all_goals (
      refine AW.exitN (fun _ h => h) ?_
      refine AW.reg tiOk (fun _ => []) [0, 4] ?_
      intro k hk; simp -dsimp [go_sem, -decide_eq_true_eq, -decide_eq_false_iff_not]
      repeat' (first | refine And.intro ?_ ?_ | refine hk _ ?_ | intro hg | omega | exact True.intro)
      all_goals clear hk k
      refine AW.retF (ow := []) (muts := [(0, .osl 1 ((mPr k l).map TProc.oc))]) ?_ (fun h => And.intro (.inr rfl) h)
      obtain rfl : i = l.length := (by omega)
      simp [go_sem, Tryz.results14, mix_end hmm (Nat.le_refl _), hmm])

set_option maxHeartbeats 600000 in
set_option linter.unusedSimpArgs false in
set_option maxRecDepth 100000 in
/-- laws.heldProcS -/
theorem dc_laws_heldProcS_nil (k : Int) : DC Tryz.prog 112 [.isl 1 [], .int .i64 k] (.int .i64 k) [] := by
  refine DC.intro tiOk Tryz.func112 rfl rfl rfl rfl rfl rfl rfl rfl [] ?_
  refine AW.reg tiOk (fun _ => []) [0, 1] ?_
  intro k hk; simp -dsimp [go_sem, -decide_eq_true_eq, -decide_eq_false_iff_not]
  repeat' (first | refine And.intro ?_ ?_ | refine hk _ ?_ | intro hg | omega | exact True.intro)
  all_goals clear hk k
  refine AW.seq ?_
  refine AW.reg tiOk (fun _ => []) [0, 1, 5] ?_
  intro k hk; simp -dsimp [go_sem, -decide_eq_true_eq, -decide_eq_false_iff_not]
  repeat' (first | refine And.intro ?_ ?_ | refine hk _ ?_ | intro hg | omega | exact True.intro)
  all_goals clear hk k
  refine AW.block ?_
  -- live at the loop's head: [0, 1, 5]
  refine AW.loopI (fun _ : Nat => ⟨22, [(0, .isl 1 []), (1, .int .i64 k), (5, .int .i64 0)], []⟩) (fun _ => True) (fun _ => 0) (0) (trivial) (Less.of rfl (by simp [go_sem]) (by simp [go_sem])) ?_
  rintro i _
  refine AW.seq ?_
  refine AW.reg tiOk (fun _ => []) [0, 1, 5, 9] ?_
  intro k hk; simp -dsimp [go_sem, -decide_eq_true_eq, -decide_eq_false_iff_not]
  repeat' (first | refine And.intro ?_ ?_ | refine hk _ ?_ | intro hg | omega | exact True.intro)
  all_goals clear hk k
  refine AW.cond rfl ?_ ?_
  · intro hc; try simp at hc
    all_goals try (exfalso; first | omega | (simp at hc; done); done)
    all_goals (
      refine AW.skipN (fun _ h => h) ?_
      refine AW.seq ?_
      refine AW.block ?_
      refine AW.reg tiOk (fun _ => []) [0, 1, 5] ?_
      intro k hk; simp -dsimp (maxSteps := 2000000) [go_sem, -decide_eq_true_eq, -decide_eq_false_iff_not]
      repeat' (first | refine And.intro ?_ ?_ | refine hk _ ?_ | intro hg | (refine CallK.intro (dc_laws_heldStepS _) ?_; simp -dsimp (maxSteps := 2000000) [go_sem, -decide_eq_true_eq, -decide_eq_false_iff_not]) | omega | exact True.intro)
      all_goals clear hk k
      refine AW.reg tiOk (fun _ => []) [0, 1, 5, 20] ?_
      intro k hk; simp -dsimp [go_sem, -decide_eq_true_eq, -decide_eq_false_iff_not]
      repeat' (first | refine And.intro ?_ ?_ | refine hk _ ?_ | intro hg | omega | exact True.intro)
      all_goals clear hk k
      refine AW.cond rfl ?_ ?_
      · intro hc; try simp at hc
        all_goals try (exfalso; first | omega | (simp at hc; done); done)
        all_goals (
          refine AW.reg tiOk (fun _ => []) [4] ?_
          intro k hk; simp -dsimp [go_sem, -decide_eq_true_eq, -decide_eq_false_iff_not]
          repeat' (first | refine And.intro ?_ ?_ | refine hk _ ?_ | intro hg | omega | exact True.intro)
          all_goals clear hk k
          refine AW.retF (ow := []) (muts := []) ?_ (fun h => And.intro (.inr rfl) h)
          simp [go_sem, Tryz.results112])
      · intro hc; try simp at hc
        all_goals try (exfalso; first | omega | (simp at hc; done); done)
        all_goals (
          refine AW.skipN (fun _ h => h) ?_
          refine AW.regK tiOk (fun _ => []) ?_
          intro k hk; simp -dsimp [go_sem, -decide_eq_true_eq, -decide_eq_false_iff_not]
          repeat' (first | refine And.intro ?_ ?_ | refine hk _ ?_ | intro hg | omega | exact True.intro)
          all_goals clear hk k
          show ∃ _, _
          exact absurd hc (by simp)))
  · intro hc; try simp at hc
    all_goals try (exfalso; first | omega | (simp at hc; done); done)
    all_goals (
      refine AW.exitN (fun _ h => h) ?_
      refine AW.reg tiOk (fun _ => []) [4] ?_
      intro k hk; simp -dsimp [go_sem, -decide_eq_true_eq, -decide_eq_false_iff_not]
      repeat' (first | refine And.intro ?_ ?_ | refine hk _ ?_ | intro hg | omega | exact True.intro)
      all_goals clear hk k
      refine AW.retF (ow := []) (muts := []) ?_ (fun h => And.intro (.inr rfl) h)
      simp [go_sem, Tryz.results112])

set_option maxHeartbeats 4000000 in
set_option linter.unusedSimpArgs false in
set_option maxRecDepth 100000 in
/-- laws.heldProcS -/
theorem dc_laws_heldProcS (l : List TProc) (k : Int) (hll : l.length ≤ 1048576) (hk : 0 ≤ k ∧ k + (mkPr l : Int) ≤ 4611686018427387904) : DC Tryz.prog 112 [.isl 1 ((mPr k l).map TProc.ro), .int .i64 k] (.int .i64 (k + (mkPr l : Int))) [] := by
  have hmm : (mPr k l).length = l.length := mPr_len
  refine DC.intro tiOk Tryz.func112 rfl rfl rfl rfl rfl rfl rfl rfl [] ?_
  refine AW.reg tiOk (fun _ => []) [0, 1] ?_
  intro k hk; simp -dsimp [go_sem, -decide_eq_true_eq, -decide_eq_false_iff_not, hmm]
  repeat' (first | refine And.intro ?_ ?_ | refine hk _ ?_ | intro hg | omega | exact True.intro)
  all_goals clear hk k
  refine AW.seq ?_
  refine AW.reg tiOk (fun _ => []) [0, 1, 5] ?_
  intro k hk; simp -dsimp [go_sem, -decide_eq_true_eq, -decide_eq_false_iff_not, hmm]
  repeat' (first | refine And.intro ?_ ?_ | refine hk _ ?_ | intro hg | omega | exact True.intro)
  all_goals clear hk k
  refine AW.block ?_
  -- live at the loop's head: [0, 1, 5]
  refine AW.loopI (fun i : Nat => ⟨22, [(0, .isl 1 ((mPr k l).map TProc.ro)), (1, .int .i64 (k + (mkPr (l.take i) : Int))), (5, .int .i64 i)], []⟩) (fun i => i ≤ l.length) (fun i => l.length - i) (0) (by simp) (Less.of rfl (by simp [go_sem, mkPr]) (by simp [go_sem])) ?_
  rintro i hi
  refine AW.seq ?_
  refine AW.reg tiOk (fun _ => []) [0, 1, 5, 9] ?_
  intro k hk; simp -dsimp [go_sem, -decide_eq_true_eq, -decide_eq_false_iff_not, hmm]
  repeat' (first | refine And.intro ?_ ?_ | refine hk _ ?_ | intro hg | omega | exact True.intro)
  all_goals clear hk k
  refine AW.cond rfl ?_ ?_
  · intro hc; try simp at hc
    all_goals try (exfalso; omega; done)
    all_goals (
      have hlt : i < l.length := by assumption
      obtain ⟨x, hx⟩ := at_some hlt
      have hmt := mkPr_take hx
      have hml := mkPr_le l i
      have hml2 := mkPr_le l (i + 1)
      have hy := mPr_at (k := k) hx
      refine AW.skipN (fun _ h => h) ?_
      refine AW.seq ?_
      refine AW.block ?_
      refine AW.reg tiOk (fun _ => []) [0, 1, 5] ?_
      intro k hk; simp -dsimp (maxSteps := 2000000) [go_sem, -decide_eq_true_eq, -decide_eq_false_iff_not, hmm, hy, procM]
      repeat' (first | refine And.intro ?_ ?_ | refine hk _ ?_ | intro hg | (refine CallK.intro (dc_laws_heldStepS x.steps _ (by constructor <;> omega)) ?_; simp -dsimp (maxSteps := 2000000) [go_sem, -decide_eq_true_eq, -decide_eq_false_iff_not, hmm, hy, procM]) | omega | exact True.intro)
      all_goals clear hk k
      refine AW.reg tiOk (fun _ => []) [0, 1, 5, 20] ?_
      intro k hk; simp -dsimp [go_sem, -decide_eq_true_eq, -decide_eq_false_iff_not, hmm, hy, procM]
      repeat' (first | refine And.intro ?_ ?_ | refine hk _ ?_ | intro hg | omega | exact True.intro)
      all_goals clear hk k
      refine AW.cond rfl ?_ ?_
      · intro hc; try simp at hc
        all_goals try (exfalso; omega; done)
        all_goals (
          refine AW.reg tiOk (fun _ => []) [4] ?_
          intro k hk; simp -dsimp [go_sem, -decide_eq_true_eq, -decide_eq_false_iff_not, hmm, hy, procM]
          repeat' (first | refine And.intro ?_ ?_ | refine hk _ ?_ | intro hg | omega | exact True.intro)
          all_goals clear hk k
          refine AW.retF (ow := []) (muts := []) ?_ (fun h => And.intro (.inr rfl) h)
          obtain rfl : i = l.length := (by omega)
          simp [go_sem, Tryz.results112])
      · intro hc; try simp at hc
        all_goals try (exfalso; omega; done)
        all_goals (
          refine AW.skipN (fun _ h => h) ?_
          refine AW.regK tiOk (fun _ => []) ?_
          intro k hk; simp -dsimp [go_sem, -decide_eq_true_eq, -decide_eq_false_iff_not, hmm, hy, procM]
          repeat' (first | refine And.intro ?_ ?_ | refine hk _ ?_ | intro hg | omega | exact True.intro)
          all_goals clear hk k
          show ∃ _, _
          have hw := wrapi hlt (by omega)
          refine ⟨i + 1, by omega, by omega, Less.of rfl (by simp [go_sem, hw, hmt] <;> omega) (by simp [go_sem])⟩))
  · intro hc; try simp at hc
    all_goals try (exfalso; omega; done)
    all_goals (
      refine AW.exitN (fun _ h => h) ?_
      refine AW.reg tiOk (fun _ => []) [4] ?_
      intro k hk; simp -dsimp [go_sem, -decide_eq_true_eq, -decide_eq_false_iff_not, hmm]
      repeat' (first | refine And.intro ?_ ?_ | refine hk _ ?_ | intro hg | omega | exact True.intro)
      all_goals clear hk k
      refine AW.retF (ow := []) (muts := []) ?_ (fun h => And.intro (.inr rfl) h)
      obtain rfl : i = l.length := (by omega)
      simp [go_sem, Tryz.results112])

set_option maxHeartbeats 600000 in
set_option linter.unusedSimpArgs false in
set_option maxRecDepth 100000 in
/-- laws.markInstS -/
theorem dc_laws_markInstS_nil (k : Int) : DC Tryz.prog 71 [.isl 6 [], .int .i64 k] (.int .i64 k) [] := by
  refine DC.intro tiOk Tryz.func71 rfl rfl rfl rfl rfl rfl rfl rfl [] ?_
  refine AW.reg tiOk (fun _ => []) [0, 1] ?_
  intro k hk; simp -dsimp [go_sem, -decide_eq_true_eq, -decide_eq_false_iff_not]
  repeat' (first | refine And.intro ?_ ?_ | refine hk _ ?_ | intro hg | omega | exact True.intro)
  all_goals clear hk k
  refine AW.seq ?_
  refine AW.reg tiOk (fun _ => []) [0, 1, 5] ?_
  intro k hk; simp -dsimp [go_sem, -decide_eq_true_eq, -decide_eq_false_iff_not]
  repeat' (first | refine And.intro ?_ ?_ | refine hk _ ?_ | intro hg | omega | exact True.intro)
  all_goals clear hk k
  refine AW.block ?_
  -- live at the loop's head: [0, 1, 5]
  refine AW.loopI (fun _ : Nat => ⟨60, [(0, .isl 6 []), (1, .int .i64 k), (5, .int .i64 0)], []⟩) (fun _ => True) (fun _ => 0) (0) (trivial) (Less.of rfl (by simp [go_sem]) (by simp [go_sem])) ?_
  rintro i _
  refine AW.seq ?_
  refine AW.reg tiOk (fun _ => []) [0, 1, 5, 9] ?_
  intro k hk; simp -dsimp [go_sem, -decide_eq_true_eq, -decide_eq_false_iff_not]
  repeat' (first | refine And.intro ?_ ?_ | refine hk _ ?_ | intro hg | omega | exact True.intro)
  all_goals clear hk k
  refine AW.cond rfl ?_ ?_
  · intro hc; try simp at hc
    all_goals try (exfalso; first | omega | (simp at hc; done); done)
    all_goals (
      refine AW.skipN (fun _ h => h) ?_
      refine AW.seq ?_
      refine AW.block ?_
      refine AW.reg tiOk (fun _ => []) [0, 1, 5] ?_
      intro k hk; simp -dsimp [go_sem, -decide_eq_true_eq, -decide_eq_false_iff_not]
      repeat' (first | refine And.intro ?_ ?_ | refine hk _ ?_ | intro hg | omega | exact True.intro)
      all_goals clear hk k
      refine AW.reg tiOk (fun _ => []) [0, 1, 5] ?_
      intro k hk; simp -dsimp [go_sem, -decide_eq_true_eq, -decide_eq_false_iff_not]
      repeat' (first | refine And.intro ?_ ?_ | refine hk _ ?_ | intro hg | omega | exact True.intro)
      all_goals clear hk k
      refine AW.reg tiOk (fun _ => []) [0, 1, 5] ?_
      intro k hk; simp -dsimp (maxSteps := 2000000) [go_sem, -decide_eq_true_eq, -decide_eq_false_iff_not]
      repeat' (first | refine And.intro ?_ ?_ | refine hk _ ?_ | intro hg | omega | exact True.intro)
      all_goals clear hk k
      refine AW.reg tiOk (fun _ => []) [0, 1, 5] ?_
      intro k hk; simp -dsimp [go_sem, -decide_eq_true_eq, -decide_eq_false_iff_not]
      repeat' (first | refine And.intro ?_ ?_ | refine hk _ ?_ | intro hg | omega | exact True.intro)
      all_goals clear hk k
      refine AW.reg tiOk (fun _ => []) [0, 1, 5] ?_
      intro k hk; simp -dsimp (maxSteps := 2000000) [go_sem, -decide_eq_true_eq, -decide_eq_false_iff_not]
      repeat' (first | refine And.intro ?_ ?_ | refine hk _ ?_ | intro hg | omega | exact True.intro)
      all_goals clear hk k
      refine AW.reg tiOk (fun _ => []) [0, 1, 5] ?_
      intro k hk; simp -dsimp [go_sem, -decide_eq_true_eq, -decide_eq_false_iff_not]
      repeat' (first | refine And.intro ?_ ?_ | refine hk _ ?_ | intro hg | omega | exact True.intro)
      all_goals clear hk k
      refine AW.reg tiOk (fun _ => [0]) [0, 1, 5] ?_
      intro k hk; simp -dsimp (maxSteps := 2000000) [go_sem, -decide_eq_true_eq, -decide_eq_false_iff_not]
      repeat' (first | refine And.intro ?_ ?_ | refine hk _ ?_ | intro hg | (refine CallK.intro (dc_laws_markInt64S _ _ (by constructor <;> omega)) ?_; simp -dsimp (maxSteps := 2000000) [go_sem, -decide_eq_true_eq, -decide_eq_false_iff_not]) | omega | exact True.intro)
      all_goals clear hk k
      refine AW.reg tiOk (fun _ => [0]) [0, 1, 5] ?_
      intro k hk; simp -dsimp (maxSteps := 2000000) [go_sem, -decide_eq_true_eq, -decide_eq_false_iff_not]
      repeat' (first | refine And.intro ?_ ?_ | refine hk _ ?_ | intro hg | (refine CallK.intro (dc_laws_markInt64S _ _ (by constructor <;> omega)) ?_; simp -dsimp (maxSteps := 2000000) [go_sem, -decide_eq_true_eq, -decide_eq_false_iff_not]) | omega | exact True.intro)
      all_goals clear hk k
      refine AW.regN tiOk (fun _ => [0]) [0, 1, 5] (fun _ h => h) ?_
      intro k hk; simp -dsimp (maxSteps := 2000000) [go_sem, -decide_eq_true_eq, -decide_eq_false_iff_not]
      repeat' (first | refine And.intro ?_ ?_ | refine hk _ ?_ | intro hg | (refine CallK.intro (dc_laws_markInt64S _ _ (by constructor <;> omega)) ?_; simp -dsimp (maxSteps := 2000000) [go_sem, -decide_eq_true_eq, -decide_eq_false_iff_not]) | omega | exact True.intro)
      all_goals clear hk k
      refine AW.regK tiOk (fun _ => []) ?_
      intro k hk; simp -dsimp [go_sem, -decide_eq_true_eq, -decide_eq_false_iff_not]
      repeat' (first | refine And.intro ?_ ?_ | refine hk _ ?_ | intro hg | omega | exact True.intro)
      all_goals clear hk k
      show ∃ _, _
      exact absurd hc (by simp))
  · intro hc; try simp at hc
    all_goals try (exfalso; first | omega | (simp at hc; done); done)
    all_goals (
      refine AW.exitN (fun _ h => h) ?_
      refine AW.reg tiOk (fun _ => []) [4] ?_
      intro k hk; simp -dsimp [go_sem, -decide_eq_true_eq, -decide_eq_false_iff_not]
      repeat' (first | refine And.intro ?_ ?_ | refine hk _ ?_ | intro hg | omega | exact True.intro)
      all_goals clear hk k
      refine AW.retF (ow := []) (muts := []) ?_ (fun h => And.intro (.inr rfl) h)
      simp [go_sem, Tryz.results71])

set_option maxHeartbeats 600000 in
set_option linter.unusedSimpArgs false in
set_option maxRecDepth 100000 in
/-- laws.heldInstS -/
theorem dc_laws_heldInstS_nil (k : Int) : DC Tryz.prog 113 [.isl 6 [], .int .i64 k] (.int .i64 k) [] := by
  refine DC.intro tiOk Tryz.func113 rfl rfl rfl rfl rfl rfl rfl rfl [] ?_
  refine AW.reg tiOk (fun _ => []) [0, 1] ?_
  intro k hk; simp -dsimp [go_sem, -decide_eq_true_eq, -decide_eq_false_iff_not]
  repeat' (first | refine And.intro ?_ ?_ | refine hk _ ?_ | intro hg | omega | exact True.intro)
  all_goals clear hk k
  refine AW.seq ?_
  refine AW.reg tiOk (fun _ => []) [0, 1, 5] ?_
  intro k hk; simp -dsimp [go_sem, -decide_eq_true_eq, -decide_eq_false_iff_not]
  repeat' (first | refine And.intro ?_ ?_ | refine hk _ ?_ | intro hg | omega | exact True.intro)
  all_goals clear hk k
  refine AW.block ?_
  -- live at the loop's head: [0, 1, 5]
  refine AW.loopI (fun _ : Nat => ⟨72, [(0, .isl 6 []), (1, .int .i64 k), (5, .int .i64 0)], []⟩) (fun _ => True) (fun _ => 0) (0) (trivial) (Less.of rfl (by simp [go_sem]) (by simp [go_sem])) ?_
  rintro i _
  refine AW.seq ?_
  refine AW.reg tiOk (fun _ => []) [0, 1, 5, 9] ?_
  intro k hk; simp -dsimp [go_sem, -decide_eq_true_eq, -decide_eq_false_iff_not]
  repeat' (first | refine And.intro ?_ ?_ | refine hk _ ?_ | intro hg | omega | exact True.intro)
  all_goals clear hk k
  refine AW.cond rfl ?_ ?_
  · intro hc; try simp at hc
    all_goals try (exfalso; first | omega | (simp at hc; done); done)
    all_goals (
      refine AW.skipN (fun _ h => h) ?_
      refine AW.seq ?_
      refine AW.block ?_
      refine AW.seq ?_
      refine AW.reg tiOk (fun _ => []) [0, 1, 5, 18] ?_
      intro k hk; simp -dsimp (maxSteps := 2000000) [go_sem, -decide_eq_true_eq, -decide_eq_false_iff_not]
      repeat' (first | refine And.intro ?_ ?_ | refine hk _ ?_ | intro hg | omega | exact True.intro)
      all_goals clear hk k
      refine AW.cond rfl ?_ ?_
      · intro hc; try simp at hc
        all_goals try (exfalso; first | omega | (simp at hc; done); done)
        all_goals (
          refine AW.reg tiOk (fun _ => []) [4] ?_
          intro k hk; simp -dsimp [go_sem, -decide_eq_true_eq, -decide_eq_false_iff_not]
          repeat' (first | refine And.intro ?_ ?_ | refine hk _ ?_ | intro hg | omega | exact True.intro)
          all_goals clear hk k
          refine AW.retF (ow := []) (muts := []) ?_ (fun h => And.intro (.inr rfl) h)
          simp [go_sem, Tryz.results113])
      · intro hc; try simp at hc
        all_goals try (exfalso; first | omega | (simp at hc; done); done)
        all_goals (
          refine AW.skipN (fun _ h => h) ?_
          refine AW.reg tiOk (fun _ => []) [0, 1, 5] ?_
          intro k hk; simp -dsimp [go_sem, -decide_eq_true_eq, -decide_eq_false_iff_not]
          repeat' (first | refine And.intro ?_ ?_ | refine hk _ ?_ | intro hg | omega | exact True.intro)
          all_goals clear hk k
          refine AW.seq ?_
          refine AW.reg tiOk (fun _ => []) [0, 1, 5, 28] ?_
          intro k hk; simp -dsimp (maxSteps := 2000000) [go_sem, -decide_eq_true_eq, -decide_eq_false_iff_not]
          repeat' (first | refine And.intro ?_ ?_ | refine hk _ ?_ | intro hg | omega | exact True.intro)
          all_goals clear hk k
          refine AW.cond rfl ?_ ?_
          · intro hc; try simp at hc
            all_goals try (exfalso; first | omega | (simp at hc; done); done)
            all_goals (
              refine AW.reg tiOk (fun _ => []) [4] ?_
              intro k hk; simp -dsimp [go_sem, -decide_eq_true_eq, -decide_eq_false_iff_not]
              repeat' (first | refine And.intro ?_ ?_ | refine hk _ ?_ | intro hg | omega | exact True.intro)
              all_goals clear hk k
              refine AW.retF (ow := []) (muts := []) ?_ (fun h => And.intro (.inr rfl) h)
              simp [go_sem, Tryz.results113])
          · intro hc; try simp at hc
            all_goals try (exfalso; first | omega | (simp at hc; done); done)
            all_goals (
              refine AW.skipN (fun _ h => h) ?_
              refine AW.reg tiOk (fun _ => []) [0, 1, 5] ?_
              intro k hk; simp -dsimp [go_sem, -decide_eq_true_eq, -decide_eq_false_iff_not]
              repeat' (first | refine And.intro ?_ ?_ | refine hk _ ?_ | intro hg | omega | exact True.intro)
              all_goals clear hk k
              refine AW.seq ?_
              refine AW.reg tiOk (fun _ => []) [0, 1, 5, 38] ?_
              intro k hk; simp -dsimp (maxSteps := 2000000) [go_sem, -decide_eq_true_eq, -decide_eq_false_iff_not]
              repeat' (first | refine And.intro ?_ ?_ | refine hk _ ?_ | intro hg | omega | exact True.intro)
              all_goals clear hk k
              refine AW.cond rfl ?_ ?_
              · intro hc; try simp at hc
                all_goals try (exfalso; first | omega | (simp at hc; done); done)
                all_goals (
                  refine AW.reg tiOk (fun _ => []) [4] ?_
                  intro k hk; simp -dsimp [go_sem, -decide_eq_true_eq, -decide_eq_false_iff_not]
                  repeat' (first | refine And.intro ?_ ?_ | refine hk _ ?_ | intro hg | omega | exact True.intro)
                  all_goals clear hk k
                  refine AW.retF (ow := []) (muts := []) ?_ (fun h => And.intro (.inr rfl) h)
                  simp [go_sem, Tryz.results113])
              · intro hc; try simp at hc
                all_goals try (exfalso; first | omega | (simp at hc; done); done)
                all_goals (
                  refine AW.skipN (fun _ h => h) ?_
                  refine AW.reg tiOk (fun _ => []) [0, 1, 5] ?_
                  intro k hk; simp -dsimp [go_sem, -decide_eq_true_eq, -decide_eq_false_iff_not]
                  repeat' (first | refine And.intro ?_ ?_ | refine hk _ ?_ | intro hg | omega | exact True.intro)
                  all_goals clear hk k
                  refine AW.reg tiOk (fun _ => []) [0, 1, 5] ?_
                  intro k hk; simp -dsimp (maxSteps := 2000000) [go_sem, -decide_eq_true_eq, -decide_eq_false_iff_not]
                  repeat' (first | refine And.intro ?_ ?_ | refine hk _ ?_ | intro hg | (refine CallK.intro (dc_laws_heldInt64S _ _ (by constructor <;> omega)) ?_; simp -dsimp (maxSteps := 2000000) [go_sem, -decide_eq_true_eq, -decide_eq_false_iff_not]) | omega | exact True.intro)
                  all_goals clear hk k
                  refine AW.seq ?_
                  refine AW.reg tiOk (fun _ => []) [0, 1, 5, 50] ?_
                  intro k hk; simp -dsimp [go_sem, -decide_eq_true_eq, -decide_eq_false_iff_not]
                  repeat' (first | refine And.intro ?_ ?_ | refine hk _ ?_ | intro hg | omega | exact True.intro)
                  all_goals clear hk k
                  refine AW.cond rfl ?_ ?_
                  · intro hc; try simp at hc
                    all_goals try (exfalso; first | omega | (simp at hc; done); done)
                    all_goals (
                      refine AW.reg tiOk (fun _ => []) [4] ?_
                      intro k hk; simp -dsimp [go_sem, -decide_eq_true_eq, -decide_eq_false_iff_not]
                      repeat' (first | refine And.intro ?_ ?_ | refine hk _ ?_ | intro hg | omega | exact True.intro)
                      all_goals clear hk k
                      refine AW.retF (ow := []) (muts := []) ?_ (fun h => And.intro (.inr rfl) h)
                      simp [go_sem, Tryz.results113])
                  · intro hc; try simp at hc
                    all_goals try (exfalso; first | omega | (simp at hc; done); done)
                    all_goals (
                      refine AW.skipN (fun _ h => h) ?_
                      refine AW.reg tiOk (fun _ => []) [0, 1, 5] ?_
                      intro k hk; simp -dsimp (maxSteps := 2000000) [go_sem, -decide_eq_true_eq, -decide_eq_false_iff_not]
                      repeat' (first | refine And.intro ?_ ?_ | refine hk _ ?_ | intro hg | (refine CallK.intro (dc_laws_heldInt64S _ _ (by constructor <;> omega)) ?_; simp -dsimp (maxSteps := 2000000) [go_sem, -decide_eq_true_eq, -decide_eq_false_iff_not]) | omega | exact True.intro)
                      all_goals clear hk k
                      refine AW.seq ?_
                      refine AW.reg tiOk (fun _ => []) [0, 1, 5, 60] ?_
                      intro k hk; simp -dsimp [go_sem, -decide_eq_true_eq, -decide_eq_false_iff_not]
                      repeat' (first | refine And.intro ?_ ?_ | refine hk _ ?_ | intro hg | omega | exact True.intro)
                      all_goals clear hk k
                      refine AW.cond rfl ?_ ?_
                      · intro hc; try simp at hc
                        all_goals try (exfalso; first | omega | (simp at hc; done); done)
                        all_goals (
                          refine AW.reg tiOk (fun _ => []) [4] ?_
                          intro k hk; simp -dsimp [go_sem, -decide_eq_true_eq, -decide_eq_false_iff_not]
                          repeat' (first | refine And.intro ?_ ?_ | refine hk _ ?_ | intro hg | omega | exact True.intro)
                          all_goals clear hk k
                          refine AW.retF (ow := []) (muts := []) ?_ (fun h => And.intro (.inr rfl) h)
                          simp [go_sem, Tryz.results113])
                      · intro hc; try simp at hc
                        all_goals try (exfalso; first | omega | (simp at hc; done); done)
                        all_goals (
                          refine AW.skipN (fun _ h => h) ?_
                          refine AW.reg tiOk (fun _ => []) [0, 1, 5] ?_
                          intro k hk; simp -dsimp (maxSteps := 2000000) [go_sem, -decide_eq_true_eq, -decide_eq_false_iff_not]
                          repeat' (first | refine And.intro ?_ ?_ | refine hk _ ?_ | intro hg | (refine CallK.intro (dc_laws_heldInt64S _ _ (by constructor <;> omega)) ?_; simp -dsimp (maxSteps := 2000000) [go_sem, -decide_eq_true_eq, -decide_eq_false_iff_not]) | omega | exact True.intro)
                          all_goals clear hk k
                          refine AW.reg tiOk (fun _ => []) [0, 1, 5, 70] ?_
                          intro k hk; simp -dsimp [go_sem, -decide_eq_true_eq, -decide_eq_false_iff_not]
                          repeat' (first | refine And.intro ?_ ?_ | refine hk _ ?_ | intro hg | omega | exact True.intro)
                          all_goals clear hk k
                          refine AW.cond rfl ?_ ?_
                          · intro hc; try simp at hc
                            all_goals try (exfalso; first | omega | (simp at hc; done); done)
                            all_goals (
                              refine AW.reg tiOk (fun _ => []) [4] ?_
                              intro k hk; simp -dsimp [go_sem, -decide_eq_true_eq, -decide_eq_false_iff_not]
                              repeat' (first | refine And.intro ?_ ?_ | refine hk _ ?_ | intro hg | omega | exact True.intro)
                              all_goals clear hk k
                              refine AW.retF (ow := []) (muts := []) ?_ (fun h => And.intro (.inr rfl) h)
                              simp [go_sem, Tryz.results113])
                          · intro hc; try simp at hc
                            all_goals try (exfalso; first | omega | (simp at hc; done); done)
                            all_goals (
                              refine AW.skipN (fun _ h => h) ?_
                              refine AW.regK tiOk (fun _ => []) ?_
                              intro k hk; simp -dsimp [go_sem, -decide_eq_true_eq, -decide_eq_false_iff_not]
                              repeat' (first | refine And.intro ?_ ?_ | refine hk _ ?_ | intro hg | omega | exact True.intro)
                              all_goals clear hk k
                              show ∃ _, _
                              exact absurd hc (by simp))))))))
  · intro hc; try simp at hc
    all_goals try (exfalso; first | omega | (simp at hc; done); done)
    all_goals (
      refine AW.exitN (fun _ h => h) ?_
      refine AW.reg tiOk (fun _ => []) [4] ?_
      intro k hk; simp -dsimp [go_sem, -decide_eq_true_eq, -decide_eq_false_iff_not]
      repeat' (first | refine And.intro ?_ ?_ | refine hk _ ?_ | intro hg | omega | exact True.intro)
      all_goals clear hk k
      refine AW.retF (ow := []) (muts := []) ?_ (fun h => And.intro (.inr rfl) h)
      simp [go_sem, Tryz.results113])

end Go.AM

/-! ### Q8 -/
set_option linter.unusedVariables false
set_option linter.unusedSimpArgs false
namespace Go.AM
open Go.Proofs

set_option maxHeartbeats 600000 in
set_option linter.unusedSimpArgs false in
set_option maxRecDepth 100000 in
/-- laws.markEngine -/
theorem dc_laws_markEngine_p (l : List TProc) (n k : Int) (hll : l.length ≤ 1048576) (hk : 0 ≤ k ∧ k + (mkPr l : Int) ≤ 4611686018427387904) : DC Tryz.prog 28 [.agg [.osl 1 (l.map TProc.oc), .isl 6 [], .int .i64 n], .int .i64 k] (.int .i64 (k + (mkPr l : Int))) [(0, .agg [.osl 1 ((mPr k l).map TProc.oc), .isl 6 [], .int .i64 n])] := by
  refine DC.intro tiOk Tryz.func28 rfl rfl rfl rfl rfl rfl rfl (by simp [noW, noWo]) [] ?_
  refine AW.reg tiOk (fun _ => []) [0, 1, 2] ?_
  intro k hk; simp -dsimp [go_sem, -decide_eq_true_eq, -decide_eq_false_iff_not, mPr_len]
  repeat' (first | refine And.intro ?_ ?_ | refine hk _ ?_ | intro hg | omega | exact True.intro)
  all_goals clear hk k
  refine AW.reg tiOk (fun _ => [0]) [0, 1, 2] ?_
  intro k hk; simp -dsimp (maxSteps := 2000000) [go_sem, -decide_eq_true_eq, -decide_eq_false_iff_not, mPr_len]
  repeat' (first | refine And.intro ?_ ?_ | refine hk _ ?_ | intro hg | (refine CallK.intro (dc_laws_markProcS_x l _ hll (by constructor <;> omega)) ?_; simp -dsimp (maxSteps := 2000000) [go_sem, -decide_eq_true_eq, -decide_eq_false_iff_not, mPr_len]) | omega | exact True.intro)
  all_goals clear hk k
  refine AW.reg tiOk (fun _ => []) [0, 1] ?_
  intro k hk; simp -dsimp (maxSteps := 2000000) [go_sem, -decide_eq_true_eq, -decide_eq_false_iff_not, mPr_len]
  repeat' (first | refine And.intro ?_ ?_ | refine hk _ ?_ | intro hg | (refine CallK.intro (dc_laws_markInstS_nil _) ?_; simp -dsimp (maxSteps := 2000000) [go_sem, -decide_eq_true_eq, -decide_eq_false_iff_not, mPr_len]) | omega | exact True.intro)
  all_goals clear hk k
  refine AW.reg tiOk (fun _ => []) [0, 4] ?_
  intro k hk; simp -dsimp [go_sem, -decide_eq_true_eq, -decide_eq_false_iff_not, mPr_len]
  repeat' (first | refine And.intro ?_ ?_ | refine hk _ ?_ | intro hg | omega | exact True.intro)
  all_goals clear hk k
  refine AW.retF (ow := []) (muts := [(0, .agg [.osl 1 ((mPr k l).map TProc.oc), .isl 6 [], .int .i64 n])]) ?_ (fun h => And.intro (.inr rfl) h)
  simp [go_sem, Tryz.results28, mPr_len]

set_option maxHeartbeats 600000 in
set_option linter.unusedSimpArgs false in
set_option maxRecDepth 100000 in
/-- laws.markEngine -/
theorem dc_laws_markEngine_n (n k : Int) (hk : 0 ≤ k) : DC Tryz.prog 28 [.agg [.isl 1 [], .isl 6 [], .int .i64 n], .int .i64 k] (.int .i64 k) [] := by
  refine DC.intro tiOk Tryz.func28 rfl rfl rfl rfl rfl rfl rfl rfl [] ?_
  refine AW.reg tiOk (fun _ => []) [1, 2] ?_
  intro k hk; simp -dsimp [go_sem, -decide_eq_true_eq, -decide_eq_false_iff_not]
  repeat' (first | refine And.intro ?_ ?_ | refine hk _ ?_ | intro hg | omega | exact True.intro)
  all_goals clear hk k
  refine AW.reg tiOk (fun _ => []) [1, 2] ?_
  intro k hk; simp -dsimp (maxSteps := 2000000) [go_sem, -decide_eq_true_eq, -decide_eq_false_iff_not]
  repeat' (first | refine And.intro ?_ ?_ | refine hk _ ?_ | intro hg | (refine CallK.intro (dc_laws_markProcS_nil _) ?_; simp -dsimp (maxSteps := 2000000) [go_sem, -decide_eq_true_eq, -decide_eq_false_iff_not]) | omega | exact True.intro)
  all_goals clear hk k
  refine AW.reg tiOk (fun _ => []) [1] ?_
  intro k hk; simp -dsimp (maxSteps := 2000000) [go_sem, -decide_eq_true_eq, -decide_eq_false_iff_not]
  repeat' (first | refine And.intro ?_ ?_ | refine hk _ ?_ | intro hg | (refine CallK.intro (dc_laws_markInstS_nil _) ?_; simp -dsimp (maxSteps := 2000000) [go_sem, -decide_eq_true_eq, -decide_eq_false_iff_not]) | omega | exact True.intro)
  all_goals clear hk k
  refine AW.reg tiOk (fun _ => []) [4] ?_
  intro k hk; simp -dsimp [go_sem, -decide_eq_true_eq, -decide_eq_false_iff_not]
  repeat' (first | refine And.intro ?_ ?_ | refine hk _ ?_ | intro hg | omega | exact True.intro)
  all_goals clear hk k
  refine AW.retF (ow := []) (muts := []) ?_ (fun h => And.intro (.inr rfl) h)
  simp [go_sem, Tryz.results28]

set_option maxHeartbeats 600000 in
set_option linter.unusedSimpArgs false in
set_option maxRecDepth 100000 in
/-- laws.heldEngine -/
theorem dc_laws_heldEngine_p (l : List TProc) (n k : Int) (hll : l.length ≤ 1048576) (hk : 0 ≤ k ∧ k + (mkPr l : Int) ≤ 4611686018427387904) : DC Tryz.prog 72 [.agg [.isl 1 ((mPr k l).map TProc.ro), .isl 6 [], .int .i64 n], .int .i64 k] (.int .i64 (k + (mkPr l : Int))) [] := by
  refine DC.intro tiOk Tryz.func72 rfl rfl rfl rfl rfl rfl rfl rfl [] ?_
  refine AW.reg tiOk (fun _ => []) [1, 2] ?_
  intro k hk; simp -dsimp [go_sem, -decide_eq_true_eq, -decide_eq_false_iff_not]
  repeat' (first | refine And.intro ?_ ?_ | refine hk _ ?_ | intro hg | omega | exact True.intro)
  all_goals clear hk k
  refine AW.reg tiOk (fun _ => []) [1, 2] ?_
  intro k hk; simp -dsimp (maxSteps := 2000000) [go_sem, -decide_eq_true_eq, -decide_eq_false_iff_not]
  repeat' (first | refine And.intro ?_ ?_ | refine hk _ ?_ | intro hg | (refine CallK.intro (dc_laws_heldProcS l _ hll (by constructor <;> omega)) ?_; simp -dsimp (maxSteps := 2000000) [go_sem, -decide_eq_true_eq, -decide_eq_false_iff_not]) | omega | exact True.intro)
  all_goals clear hk k
  refine AW.seq ?_
  refine AW.reg tiOk (fun _ => []) [1, 2, 10] ?_
  intro k hk; simp -dsimp [go_sem, -decide_eq_true_eq, -decide_eq_false_iff_not]
  repeat' (first | refine And.intro ?_ ?_ | refine hk _ ?_ | intro hg | omega | exact True.intro)
  all_goals clear hk k
  refine AW.cond rfl ?_ ?_
  · intro hc; try simp at hc
    all_goals try (exfalso; omega; done)
    all_goals (
      refine AW.reg tiOk (fun _ => []) [4] ?_
      intro k hk; simp -dsimp [go_sem, -decide_eq_true_eq, -decide_eq_false_iff_not]
      repeat' (first | refine And.intro ?_ ?_ | refine hk _ ?_ | intro hg | omega | exact True.intro)
      all_goals clear hk k
      refine AW.retF (ow := []) (muts := []) ?_ (fun h => And.intro (.inr rfl) h)
      simp [go_sem, Tryz.results72])
  · intro hc; try simp at hc
    all_goals try (exfalso; omega; done)
    all_goals (
      refine AW.skipN (fun _ h => h) ?_
      refine AW.reg tiOk (fun _ => []) [1] ?_
      intro k hk; simp -dsimp (maxSteps := 2000000) [go_sem, -decide_eq_true_eq, -decide_eq_false_iff_not]
      repeat' (first | refine And.intro ?_ ?_ | refine hk _ ?_ | intro hg | (refine CallK.intro (dc_laws_heldInstS_nil _) ?_; simp -dsimp (maxSteps := 2000000) [go_sem, -decide_eq_true_eq, -decide_eq_false_iff_not]) | omega | exact True.intro)
      all_goals clear hk k
      refine AW.seq ?_
      refine AW.reg tiOk (fun _ => []) [1, 16] ?_
      intro k hk; simp -dsimp [go_sem, -decide_eq_true_eq, -decide_eq_false_iff_not]
      repeat' (first | refine And.intro ?_ ?_ | refine hk _ ?_ | intro hg | omega | exact True.intro)
      all_goals clear hk k
      refine AW.cond rfl ?_ ?_
      · intro hc; try simp at hc
        all_goals try (exfalso; omega; done)
        all_goals (
          refine AW.reg tiOk (fun _ => []) [4] ?_
          intro k hk; simp -dsimp [go_sem, -decide_eq_true_eq, -decide_eq_false_iff_not]
          repeat' (first | refine And.intro ?_ ?_ | refine hk _ ?_ | intro hg | omega | exact True.intro)
          all_goals clear hk k
          refine AW.retF (ow := []) (muts := []) ?_ (fun h => And.intro (.inr rfl) h)
          simp [go_sem, Tryz.results72])
      · intro hc; try simp at hc
        all_goals try (exfalso; omega; done)
        all_goals (
          refine AW.skipN (fun _ h => h) ?_
          refine AW.reg tiOk (fun _ => []) [4] ?_
          intro k hk; simp -dsimp [go_sem, -decide_eq_true_eq, -decide_eq_false_iff_not]
          repeat' (first | refine And.intro ?_ ?_ | refine hk _ ?_ | intro hg | omega | exact True.intro)
          all_goals clear hk k
          refine AW.retF (ow := []) (muts := []) ?_ (fun h => And.intro (.inr rfl) h)
          simp [go_sem, Tryz.results72]))

set_option maxHeartbeats 600000 in
set_option linter.unusedSimpArgs false in
set_option maxRecDepth 100000 in
/-- laws.heldEngine -/
theorem dc_laws_heldEngine_n (n k : Int) (hk : 0 ≤ k) : DC Tryz.prog 72 [.agg [.isl 1 [], .isl 6 [], .int .i64 n], .int .i64 k] (.int .i64 k) [] := by
  refine DC.intro tiOk Tryz.func72 rfl rfl rfl rfl rfl rfl rfl rfl [] ?_
  refine AW.reg tiOk (fun _ => []) [1, 2] ?_
  intro k hk; simp -dsimp [go_sem, -decide_eq_true_eq, -decide_eq_false_iff_not]
  repeat' (first | refine And.intro ?_ ?_ | refine hk _ ?_ | intro hg | omega | exact True.intro)
  all_goals clear hk k
  refine AW.reg tiOk (fun _ => []) [1, 2] ?_
  intro k hk; simp -dsimp (maxSteps := 2000000) [go_sem, -decide_eq_true_eq, -decide_eq_false_iff_not]
  repeat' (first | refine And.intro ?_ ?_ | refine hk _ ?_ | intro hg | (refine CallK.intro (dc_laws_heldProcS_nil _) ?_; simp -dsimp (maxSteps := 2000000) [go_sem, -decide_eq_true_eq, -decide_eq_false_iff_not]) | omega | exact True.intro)
  all_goals clear hk k
  refine AW.seq ?_
  refine AW.reg tiOk (fun _ => []) [1, 2, 10] ?_
  intro k hk; simp -dsimp [go_sem, -decide_eq_true_eq, -decide_eq_false_iff_not]
  repeat' (first | refine And.intro ?_ ?_ | refine hk _ ?_ | intro hg | omega | exact True.intro)
  all_goals clear hk k
  refine AW.cond rfl ?_ ?_
  · intro hc; try simp at hc
    all_goals try (exfalso; omega; done)
    all_goals (
      refine AW.reg tiOk (fun _ => []) [4] ?_
      intro k hk; simp -dsimp [go_sem, -decide_eq_true_eq, -decide_eq_false_iff_not]
      repeat' (first | refine And.intro ?_ ?_ | refine hk _ ?_ | intro hg | omega | exact True.intro)
      all_goals clear hk k
      refine AW.retF (ow := []) (muts := []) ?_ (fun h => And.intro (.inr rfl) h)
      simp [go_sem, Tryz.results72])
  · intro hc; try simp at hc
    all_goals try (exfalso; omega; done)
    all_goals (
      refine AW.skipN (fun _ h => h) ?_
      refine AW.reg tiOk (fun _ => []) [1] ?_
      intro k hk; simp -dsimp (maxSteps := 2000000) [go_sem, -decide_eq_true_eq, -decide_eq_false_iff_not]
      repeat' (first | refine And.intro ?_ ?_ | refine hk _ ?_ | intro hg | (refine CallK.intro (dc_laws_heldInstS_nil _) ?_; simp -dsimp (maxSteps := 2000000) [go_sem, -decide_eq_true_eq, -decide_eq_false_iff_not]) | omega | exact True.intro)
      all_goals clear hk k
      refine AW.seq ?_
      refine AW.reg tiOk (fun _ => []) [1, 16] ?_
      intro k hk; simp -dsimp [go_sem, -decide_eq_true_eq, -decide_eq_false_iff_not]
      repeat' (first | refine And.intro ?_ ?_ | refine hk _ ?_ | intro hg | omega | exact True.intro)
      all_goals clear hk k
      refine AW.cond rfl ?_ ?_
      · intro hc; try simp at hc
        all_goals try (exfalso; omega; done)
        all_goals (
          refine AW.reg tiOk (fun _ => []) [4] ?_
          intro k hk; simp -dsimp [go_sem, -decide_eq_true_eq, -decide_eq_false_iff_not]
          repeat' (first | refine And.intro ?_ ?_ | refine hk _ ?_ | intro hg | omega | exact True.intro)
          all_goals clear hk k
          refine AW.retF (ow := []) (muts := []) ?_ (fun h => And.intro (.inr rfl) h)
          simp [go_sem, Tryz.results72])
      · intro hc; try simp at hc
        all_goals try (exfalso; omega; done)
        all_goals (
          refine AW.skipN (fun _ h => h) ?_
          refine AW.reg tiOk (fun _ => []) [4] ?_
          intro k hk; simp -dsimp [go_sem, -decide_eq_true_eq, -decide_eq_false_iff_not]
          repeat' (first | refine And.intro ?_ ?_ | refine hk _ ?_ | intro hg | omega | exact True.intro)
          all_goals clear hk k
          refine AW.retF (ow := []) (muts := []) ?_ (fun h => And.intro (.inr rfl) h)
          simp [go_sem, Tryz.results72]))

end Go.AM

/-! ### Pj -/
set_option linter.unusedVariables false
set_option linter.unusedSimpArgs false
namespace Go.AM

attribute [go_sem] renS AV.ren renL
@[go_sem ↓ high] theorem tree_app (a b : List (List AV)) : (∀ c ∈ a ++ b, ∀ x ∈ c, AV.tree x = true) ↔ (∀ c ∈ a, ∀ x ∈ c, AV.tree x = true) ∧ (∀ c ∈ b, ∀ x ∈ c, AV.tree x = true) := List.forall_mem_append
attribute [go_sem ↓ high] I1_treeL B1_treeL S1_treeL
theorem tree_sub {α : Type} {f : α → List AV} {l : List α} (h : (∀ c ∈ l.map f, ∀ x ∈ c, AV.tree x = true) ↔ True) {m : List (List AV)} (hm : ∀ c ∈ m, c ∈ l.map f) : (∀ c ∈ m, ∀ x ∈ c, AV.tree x = true) ↔ True :=
  ⟨fun _ => trivial, fun _ c hc => h.2 trivial c (hm c hc)⟩
@[go_sem ↓ high] theorem B1_treeT (l : List UInt8) (n : Nat) : (∀ c ∈ List.take n (l.map B1), ∀ x ∈ c, AV.tree x = true) ↔ True := tree_sub (B1_treeL l) fun _ => List.mem_of_mem_take
@[go_sem ↓ high] theorem I1_treeT (l : List Int) (n : Nat) : (∀ c ∈ List.take n (l.map I1), ∀ x ∈ c, AV.tree x = true) ↔ True := tree_sub (I1_treeL l) fun _ => List.mem_of_mem_take
@[go_sem ↓ high] theorem S1_treeT (l : List (List UInt8)) (n : Nat) : (∀ c ∈ List.take n (l.map S1), ∀ x ∈ c, AV.tree x = true) ↔ True := tree_sub (S1_treeL l) fun _ => List.mem_of_mem_take
@[go_sem high] theorem B1_comp : (fun x => List.map unown x) ∘ B1 = B1 := rfl
@[go_sem high] theorem I1_comp : (fun x => List.map unown x) ∘ I1 = I1 := rfl
@[go_sem high] theorem S1_comp : (fun x => List.map unown x) ∘ S1 = S1 := rfl
attribute [go_sem] mkL_len
@[go_sem] theorem take_dropl {α β : Type} (f : α → β) (l : List α) (k : Nat) : List.take (l.length - k) (List.drop k (l.map f)) = List.drop k (l.map f) := List.take_of_length_le (by simp)
@[go_sem] theorem take_mkL {α : Type} (g : α → List AV) (f : Int → α) (n : Nat) (k : Int) : List.take n ((mkL f n k).map g) = (mkL f n k).map g := List.take_of_length_le (by simp [mkL])
@[go_sem ↓ high] theorem decB_td (s : List UInt8) (a b : Nat) : decB (List.take a (List.drop b (s.map B1))) = some (List.take a (List.drop b s)) := by rw [← List.map_drop, ← List.map_take]; exact decB_B1 _
@[go_sem ↓ high] theorem decB_dt (s : List UInt8) (a b : Nat) : decB (List.drop a (List.take b (s.map B1))) = some (List.drop a (List.take b s)) := by rw [← List.map_take, ← List.map_drop]; exact decB_B1 _
@[go_sem ↓ high] theorem decB_t (s : List UInt8) (a : Nat) : decB (List.take a (s.map B1)) = some (List.take a s) := by rw [← List.map_take]; exact decB_B1 _
@[go_sem ↓ high] theorem decB_d (s : List UInt8) (a : Nat) : decB (List.drop a (s.map B1)) = some (List.drop a s) := by rw [← List.map_drop]; exact decB_B1 _
@[go_sem] theorem wrap_i64_byte (b : UInt8) : IntKind.wrap .i64 (b.toNat : Int) = (b.toNat : Int) := by have := b.toNat_lt; exact wrap64 (by omega) (by omega)

/-! chapter 13: a line, packed -/
def sumB (l : List UInt8) (s : Int) : Int := l.foldl (fun s b => (s * 251 + b.toNat) % 65521) s
theorem sumB_bd : ∀ (l : List UInt8) (s : Int), 0 ≤ s ∧ s < 65521 → 0 ≤ sumB l s ∧ sumB l s < 65521 := by
  intro l
  induction l with
  | nil => intro s h; exact h
  | cons x l ih => intro s h; exact ih ((s * 251 + (x.toNat : Int)) % 65521) (by omega)
theorem sumB_step {l : List UInt8} {i : Nat} {x : UInt8} {s : Int} (h : l[i]? = some x) : sumB (l.take (i + 1)) s = (sumB (l.take i) s * 251 + x.toNat) % 65521 := by
  rw [List.take_add_one, h]; simp [sumB, List.foldl_append]
def pkH (s : List UInt8) : List UInt8 := b8 s.length :: s
def pk (s : List UInt8) : List UInt8 := pkH s ++ [b8 (sumB (pkH s) 1 / 256), b8 (sumB (pkH s) 1)]
theorem pkH_len (s : List UInt8) : (pkH s).length = s.length + 1 := rfl
theorem pk_len (s : List UInt8) : (pk s).length = s.length + 3 := by simp [pk, pkH]
theorem pk_cons (s : List UInt8) : ∃ x r, pk s = x :: r := ⟨_, _, rfl⟩
theorem b8_mod (n : Int) : b8 (n % 256) = b8 n := by unfold b8; rw [Int.emod_emod_of_dvd n (Int.dvd_refl 256)]
def packR (s : List UInt8) : TBytesResult := if lineF s = 0 then ⟨0, pk s⟩ else ⟨lineF s, []⟩
def hasP (d p : List UInt8) : Bool := decide (p.length ≤ d.length) && decide (d.take p.length = p)

/-! chapter 13: the line at a beginning -/
def n0 (d : List UInt8) : Nat := (d.headD 0).toNat
def lnT (d : List UInt8) : List UInt8 := (d.take (n0 d + 1)).drop 1
def isL (d : List UInt8) : Bool := decide (n0 d + 3 ≤ d.length) && decide (lineF (lnT d) = 0) && decide (d.take (n0 d + 3) = pk (lnT d))
theorem n0_cons (x : UInt8) (r : List UInt8) : n0 (x :: r) = x.toNat := rfl
theorem n0_lt (d : List UInt8) : n0 d < 256 := (d.headD 0).toNat_lt
theorem lnT_cons (x : UInt8) (r : List UInt8) : lnT (x :: r) = r.take x.toNat := by simp [lnT, n0]
theorem lnT_le (d : List UInt8) : (lnT d).length ≤ 255 := by have := n0_lt d; simp [lnT]; omega
theorem lnT_len {d : List UInt8} (h : n0 d + 3 ≤ d.length) : (lnT d).length = n0 d := by simp [lnT]; omega
theorem isL_nil : isL [] = false := by simp [isL, n0]
theorem isL_cons (x : UInt8) (r : List UInt8) : isL (x :: r) = (decide (x.toNat + 2 ≤ r.length) && decide (lineF (r.take x.toNat) = 0) && decide (x :: r.take (x.toNat + 2) = pk (r.take x.toNat))) := by
  simp [isL, n0, lnT]
theorem isL_bd {d : List UInt8} (h : isL d = true) : n0 d + 3 ≤ d.length ∧ lineF (lnT d) = 0 ∧ 1 ≤ n0 d := by
  simp only [isL, Bool.and_eq_true, decide_eq_true_eq] at h
  obtain ⟨⟨h1, h2⟩, _⟩ := h
  refine ⟨h1, h2, ?_⟩
  have h3 := lnT_len h1
  rcases Nat.eq_zero_or_pos (n0 d) with h0 | h0
  · rw [lineF_bad (by omega)] at h2; cases h2
  · exact h0

def rdL : Nat → List UInt8 → List (List UInt8) × Nat
  | 0, _ => ([], 0)
  | f + 1, d => if isL d = true then (lnT d :: (rdL f (d.drop (n0 d + 3))).1, n0 d + 3 + (rdL f (d.drop (n0 d + 3))).2) else ([], 0)
def rd (d : List UInt8) : List (List UInt8) × Nat := rdL d.length d
theorem rdL_more : ∀ (n m : Nat) (d : List UInt8), d.length ≤ n → d.length ≤ m → rdL n d = rdL m d := by
  intro n
  induction n with
  | zero =>
    intro m d h _
    have : d = [] := List.eq_nil_of_length_eq_zero (by omega)
    subst this
    cases m with
    | zero => rfl
    | succ m => simp [rdL, isL_nil]
  | succ n ih =>
    intro m d h h2
    cases m with
    | zero =>
      have : d = [] := List.eq_nil_of_length_eq_zero (by omega)
      subst this
      simp [rdL, isL_nil]
    | succ m =>
      simp only [rdL]
      split
      · rename_i hl
        have := isL_bd hl
        rw [ih m (d.drop (n0 d + 3)) (by simp; omega) (by simp; omega)]
      · rfl
theorem rd_yes {d : List UInt8} (h : isL d = true) : rd d = (lnT d :: (rd (d.drop (n0 d + 3))).1, n0 d + 3 + (rd (d.drop (n0 d + 3))).2) := by
  have hb := isL_bd h
  obtain ⟨m, hm⟩ : ∃ m, d.length = m + 1 := ⟨d.length - 1, by omega⟩
  unfold rd
  rw [hm]
  simp only [rdL]
  rw [if_pos h, rdL_more m (d.drop (n0 d + 3)).length (d.drop (n0 d + 3)) (by simp; omega) (Nat.le_refl _)]
theorem rd_no {d : List UInt8} (h : isL d = false) : rd d = ([], 0) := by
  unfold rd
  cases d.length with
  | zero => rfl
  | succ m => simp [rdL, h]
theorem rd_bd : ∀ (n : Nat) (d : List UInt8), d.length ≤ n → (rd d).2 ≤ d.length ∧ 4 * (rd d).1.length ≤ (rd d).2 := by
  intro n
  induction n with
  | zero =>
    intro d h
    have : d = [] := List.eq_nil_of_length_eq_zero (by omega)
    subst this
    rw [rd_no isL_nil]; simp
  | succ n ih =>
    intro d h
    by_cases hl : isL d = true
    · have hb := isL_bd hl
      have := ih (d.drop (n0 d + 3)) (by simp; omega)
      rw [rd_yes hl]
      simp at this ⊢
      omega
    · rw [rd_no (by simpa using hl)]; simp
theorem rd_le (d : List UInt8) : (rd d).2 ≤ d.length := (rd_bd _ d (Nat.le_refl _)).1
theorem rd_lines (d : List UInt8) : 4 * (rd d).1.length ≤ d.length := by have := rd_bd _ d (Nat.le_refl _); omega

def whole (d : List UInt8) : Bool := decide ((rd d).2 = d.length)
def jouF (j : TJournal) : Int := if 2400 < j.sure.length + j.loose.length then 2 else if whole j.sure && whole j.loose then 0 else 5

@[go_sem] theorem mapM_B1 (s : List UInt8) : List.mapM byteOfCell (s.map B1) = some s := decB_B1 s
@[go_sem] theorem mapM_B1_t (s : List UInt8) (a : Nat) : List.mapM byteOfCell (List.take a (s.map B1)) = some (List.take a s) := decB_t s a
@[go_sem] theorem mapM_B1_d (s : List UInt8) (a : Nat) : List.mapM byteOfCell (List.drop a (s.map B1)) = some (List.drop a s) := decB_d s a
@[go_sem high] theorem mapM_comp (s : List UInt8) : List.mapM (byteOfCell ∘ B1) s = some s := by rw [← List.mapM_map]; exact decB_B1 s
theorem isL_iff {x : UInt8} {r : List UInt8} : isL (x :: r) = true ↔ x.toNat + 2 ≤ r.length ∧ lineF (r.take x.toNat) = 0 ∧ pk (r.take x.toNat) = x :: r.take (x.toNat + 2) := by
  rw [isL_cons]; simp only [Bool.and_eq_true, decide_eq_true_eq, and_assoc]
  constructor
  · rintro ⟨h1, h2, h3⟩; exact ⟨h1, h2, h3.symm⟩
  · rintro ⟨h1, h2, h3⟩; exact ⟨h1, h2, h3.symm⟩
theorem isL_not {x : UInt8} {r : List UInt8} (h : x.toNat + 2 ≤ r.length → lineF (r.take x.toNat) = 0 → pk (r.take x.toNat) = x :: r.take (x.toNat + 2) → 1 ≤ x.toNat → False) : isL (x :: r) = false := by
  rw [← Bool.not_eq_true]
  intro hL
  have hb := isL_bd hL
  obtain ⟨h1, h2, h3⟩ := isL_iff.1 hL
  exact h h1 h2 h3 hb.2.2
def lnA (d : List UInt8) : List UInt8 := if n0 d + 3 ≤ d.length then lnT d else []
theorem lnA_cons (x : UInt8) (r : List UInt8) : lnA (x :: r) = if x.toNat + 2 ≤ r.length then r.take x.toNat else [] := by
  unfold lnA; rw [lnT_cons, n0_cons]; simp
theorem lnA_yes {d : List UInt8} (h : isL d = true) : lnA d = lnT d := by unfold lnA; rw [if_pos (isL_bd h).1]
theorem hasP_pk {x : UInt8} {r : List UInt8} (h : x.toNat + 2 ≤ r.length) : hasP (x :: r) (pk (r.take x.toNat)) = decide (x :: r.take (x.toNat + 2) = pk (r.take x.toNat)) := by
  unfold hasP
  have e : (pk (r.take x.toNat)).length = x.toNat + 3 := by rw [pk_len]; simp; omega
  rw [e, Bool.eq_iff_iff]
  simp [h]
  exact decide_eq_true_iff
theorem whole_eq (d : List UInt8) : whole d = decide (d.length - (rd d).2 = 0) := by
  have := rd_le d
  unfold whole
  rw [Bool.eq_iff_iff]; simp; omega
/-- is there a line behind the first byte? -/
def brk (e : List UInt8) (i : Nat) : Bool := (List.range i).any fun k => decide (1 ≤ k) && isL (e.drop k)
theorem brk_step {e : List UInt8} {i : Nat} (h : 1 ≤ i) : brk e (i + 1) = (brk e i || isL (e.drop i)) := by
  unfold brk; rw [List.range_succ, List.any_append]; simp [h]
theorem brk_one (e : List UInt8) : brk e 1 = false := by simp [brk]
theorem brk_zero (e : List UInt8) : brk e 0 = false := by simp [brk]
theorem brk_mono {e : List UInt8} {i j : Nat} (h : i ≤ j) (hb : brk e i = true) : brk e j = true := by
  unfold brk at *
  simp only [List.any_eq_true, List.mem_range] at *
  obtain ⟨k, h1, h2⟩ := hb
  exact ⟨k, by omega, h2⟩
theorem brk_end {e : List UInt8} {i n : Nat} (h1 : 1 ≤ i) (h2 : n ≤ i) (h3 : i = 1 ∨ i ≤ n) : brk e i = brk e n := by
  rcases h3 with rfl | h3
  · rw [brk_one]
    rcases Nat.eq_zero_or_pos n with h | h
    · subst h; rw [brk_zero]
    · obtain rfl : n = 1 := by omega
      rw [brk_one]
  · rw [show i = n by omega]
def linesR (d : List UInt8) : TLinesResult := if 2400 < d.length then ⟨2, false, []⟩ else ⟨0, brk (d.drop (rd d).2) (d.drop (rd d).2).length, (rd d).1⟩
end Go.AM

/-! ### M3 -/
set_option linter.unusedVariables false
set_option linter.unusedSimpArgs false
namespace Go.AM
open Go.Proofs

set_option maxHeartbeats 600000 in
set_option linter.unusedSimpArgs false in
set_option maxRecDepth 100000 in
/-- laws.markJournal -/
theorem dc_laws_markJournal_nn  (k : Int) (hk : 0 ≤ k ∧ k ≤ 4611686018427387904) : DC Tryz.prog 92 [.agg [.isl 1 [], .isl 1 []], .int .i64 k] (.int .i64 (k)) [] := by
  refine DC.intro tiOk Tryz.func92 rfl rfl rfl rfl rfl rfl rfl rfl [] ?_
  refine AW.reg tiOk (fun _ => []) [1, 2] ?_
  intro k hk; simp -dsimp [go_sem, -decide_eq_true_eq, -decide_eq_false_iff_not]
  repeat' (first | refine And.intro ?_ ?_ | refine hk _ ?_ | intro hg | omega | exact True.intro)
  all_goals clear hk k
  refine AW.reg tiOk (fun _ => [0]) [1, 2] ?_
  intro k hk; simp -dsimp (maxSteps := 2000000) [go_sem, -decide_eq_true_eq, -decide_eq_false_iff_not]
  repeat' (first | refine And.intro ?_ ?_ | refine hk _ ?_ | intro hg | (refine CallK.intro (dc_laws_markByteS _ _ (by constructor <;> omega)) ?_; simp -dsimp (maxSteps := 2000000) [go_sem, -decide_eq_true_eq, -decide_eq_false_iff_not]) | (refine CallK.intro (dc_laws_markByteS_nil _) ?_; simp -dsimp (maxSteps := 2000000) [go_sem, -decide_eq_true_eq, -decide_eq_false_iff_not]) | omega | exact True.intro)
  all_goals clear hk k
  refine AW.reg tiOk (fun _ => [0]) [1] ?_
  intro k hk; simp -dsimp (maxSteps := 2000000) [go_sem, -decide_eq_true_eq, -decide_eq_false_iff_not]
  repeat' (first | refine And.intro ?_ ?_ | refine hk _ ?_ | intro hg | (refine CallK.intro (dc_laws_markByteS _ _ (by constructor <;> omega)) ?_; simp -dsimp (maxSteps := 2000000) [go_sem, -decide_eq_true_eq, -decide_eq_false_iff_not]) | (refine CallK.intro (dc_laws_markByteS_nil _) ?_; simp -dsimp (maxSteps := 2000000) [go_sem, -decide_eq_true_eq, -decide_eq_false_iff_not]) | omega | exact True.intro)
  all_goals clear hk k
  refine AW.reg tiOk (fun _ => []) [4] ?_
  intro k hk; simp -dsimp [go_sem, -decide_eq_true_eq, -decide_eq_false_iff_not]
  repeat' (first | refine And.intro ?_ ?_ | refine hk _ ?_ | intro hg | omega | exact True.intro)
  all_goals clear hk k
  refine AW.retF (ow := []) (muts := []) ?_ (fun h => And.intro (.inr rfl) h)
  simp [go_sem, Tryz.results92, mkL_len]

set_option maxHeartbeats 600000 in
set_option linter.unusedSimpArgs false in
set_option maxRecDepth 100000 in
/-- laws.heldJournal -/
theorem dc_laws_heldJournal_nn  (k : Int) (hk : 0 ≤ k ∧ k ≤ 4611686018427387904) : DC Tryz.prog 94 [.agg [.isl 1 [], .isl 1 []], .int .i64 k] (.int .i64 (k)) [] := by
  refine DC.intro tiOk Tryz.func94 rfl rfl rfl rfl rfl rfl rfl rfl [] ?_
  refine AW.reg tiOk (fun _ => []) [1, 2] ?_
  intro k hk; simp -dsimp [go_sem, -decide_eq_true_eq, -decide_eq_false_iff_not]
  repeat' (first | refine And.intro ?_ ?_ | refine hk _ ?_ | intro hg | omega | exact True.intro)
  all_goals clear hk k
  refine AW.reg tiOk (fun _ => []) [1, 2] ?_
  intro k hk; simp -dsimp (maxSteps := 2000000) [go_sem, -decide_eq_true_eq, -decide_eq_false_iff_not]
  repeat' (first | refine And.intro ?_ ?_ | refine hk _ ?_ | intro hg | (refine CallK.intro (dc_laws_heldByteS _ _ (by constructor <;> omega)) ?_; simp -dsimp (maxSteps := 2000000) [go_sem, -decide_eq_true_eq, -decide_eq_false_iff_not]) | (refine CallK.intro (dc_laws_heldByteS_nil _) ?_; simp -dsimp (maxSteps := 2000000) [go_sem, -decide_eq_true_eq, -decide_eq_false_iff_not]) | omega | exact True.intro)
  all_goals clear hk k
  refine AW.seq ?_
  refine AW.reg tiOk (fun _ => []) [1, 2, 10] ?_
  intro k hk; simp -dsimp [go_sem, -decide_eq_true_eq, -decide_eq_false_iff_not]
  repeat' (first | refine And.intro ?_ ?_ | refine hk _ ?_ | intro hg | omega | exact True.intro)
  all_goals clear hk k
  refine AW.cond rfl ?_ ?_
  · intro hc; try simp at hc
    all_goals try (exfalso; omega; done)
    all_goals (
      refine AW.reg tiOk (fun _ => []) [4] ?_
      intro k hk; simp -dsimp [go_sem, -decide_eq_true_eq, -decide_eq_false_iff_not]
      repeat' (first | refine And.intro ?_ ?_ | refine hk _ ?_ | intro hg | omega | exact True.intro)
      all_goals clear hk k
      refine AW.retF (ow := []) (muts := []) ?_ (fun h => And.intro (.inr rfl) h)
      simp [go_sem, Tryz.results94])
  · intro hc; try simp at hc
    all_goals try (exfalso; omega; done)
    all_goals (
      refine AW.skipN (fun _ h => h) ?_
      refine AW.reg tiOk (fun _ => []) [1] ?_
      intro k hk; simp -dsimp (maxSteps := 2000000) [go_sem, -decide_eq_true_eq, -decide_eq_false_iff_not]
      repeat' (first | refine And.intro ?_ ?_ | refine hk _ ?_ | intro hg | (refine CallK.intro (dc_laws_heldByteS _ _ (by constructor <;> omega)) ?_; simp -dsimp (maxSteps := 2000000) [go_sem, -decide_eq_true_eq, -decide_eq_false_iff_not]) | (refine CallK.intro (dc_laws_heldByteS_nil _) ?_; simp -dsimp (maxSteps := 2000000) [go_sem, -decide_eq_true_eq, -decide_eq_false_iff_not]) | omega | exact True.intro)
      all_goals clear hk k
      refine AW.seq ?_
      refine AW.reg tiOk (fun _ => []) [1, 16] ?_
      intro k hk; simp -dsimp [go_sem, -decide_eq_true_eq, -decide_eq_false_iff_not]
      repeat' (first | refine And.intro ?_ ?_ | refine hk _ ?_ | intro hg | omega | exact True.intro)
      all_goals clear hk k
      refine AW.cond rfl ?_ ?_
      · intro hc; try simp at hc
        all_goals try (exfalso; omega; done)
        all_goals (
          refine AW.reg tiOk (fun _ => []) [4] ?_
          intro k hk; simp -dsimp [go_sem, -decide_eq_true_eq, -decide_eq_false_iff_not]
          repeat' (first | refine And.intro ?_ ?_ | refine hk _ ?_ | intro hg | omega | exact True.intro)
          all_goals clear hk k
          refine AW.retF (ow := []) (muts := []) ?_ (fun h => And.intro (.inr rfl) h)
          simp [go_sem, Tryz.results94])
      · intro hc; try simp at hc
        all_goals try (exfalso; omega; done)
        all_goals (
          refine AW.skipN (fun _ h => h) ?_
          refine AW.reg tiOk (fun _ => []) [4] ?_
          intro k hk; simp -dsimp [go_sem, -decide_eq_true_eq, -decide_eq_false_iff_not]
          repeat' (first | refine And.intro ?_ ?_ | refine hk _ ?_ | intro hg | omega | exact True.intro)
          all_goals clear hk k
          refine AW.retF (ow := []) (muts := []) ?_ (fun h => And.intro (.inr rfl) h)
          simp [go_sem, Tryz.results94]))

end Go.AM

/-! ### Pt5 -/
set_option linter.unusedVariables false
set_option linter.unusedSimpArgs false
namespace Go.AM
theorem gwr (c r v n : Int) (l : List TProc) (h : l.length ≤ 9223372036854775807 ∧ ∀ e ∈ l, e.gok) : (⟨c, r, v, ⟨⟨⟨l, [], n⟩, []⟩, ⟨[], []⟩⟩⟩ : TWorldResult).gok := by
  simp only [TWorldResult.gok, TWorld.gok, TDesk.gok, TEngine.gok, TJournal.gok]
  refine ⟨⟨⟨h, ?_⟩, ?_⟩, ?_⟩ <;> simp
end Go.AM

/-! ### Qb -/
set_option linter.unusedVariables false
set_option linter.unusedSimpArgs false
namespace Go.AM
open Go.Proofs

set_option maxHeartbeats 600000 in
set_option linter.unusedSimpArgs false in
set_option maxRecDepth 100000 in
/-- laws.markClaimS -/
theorem dc_laws_markClaimS_nil (k : Int) : DC Tryz.prog 77 [.isl 3 [], .int .i64 k] (.int .i64 k) [] := by
  refine DC.intro tiOk Tryz.func77 rfl rfl rfl rfl rfl rfl rfl rfl [] ?_
  refine AW.reg tiOk (fun _ => []) [0, 1] ?_
  intro k hk; simp -dsimp [go_sem, -decide_eq_true_eq, -decide_eq_false_iff_not]
  repeat' (first | refine And.intro ?_ ?_ | refine hk _ ?_ | intro hg | omega | exact True.intro)
  all_goals clear hk k
  refine AW.seq ?_
  refine AW.reg tiOk (fun _ => []) [0, 1, 5] ?_
  intro k hk; simp -dsimp [go_sem, -decide_eq_true_eq, -decide_eq_false_iff_not]
  repeat' (first | refine And.intro ?_ ?_ | refine hk _ ?_ | intro hg | omega | exact True.intro)
  all_goals clear hk k
  refine AW.block ?_
  -- live at the loop's head: [0, 1, 5]
  refine AW.loopI (fun _ : Nat => ⟨34, [(0, .isl 3 []), (1, .int .i64 k), (5, .int .i64 0)], []⟩) (fun _ => True) (fun _ => 0) (0) (trivial) (Less.of rfl (by simp [go_sem]) (by simp [go_sem])) ?_
  rintro i _
  refine AW.seq ?_
  refine AW.reg tiOk (fun _ => []) [0, 1, 5, 9] ?_
  intro k hk; simp -dsimp [go_sem, -decide_eq_true_eq, -decide_eq_false_iff_not]
  repeat' (first | refine And.intro ?_ ?_ | refine hk _ ?_ | intro hg | omega | exact True.intro)
  all_goals clear hk k
  refine AW.cond rfl ?_ ?_
  · intro hc; try simp at hc
    all_goals try (exfalso; first | omega | (simp at hc; done); done)
    all_goals (
      refine AW.skipN (fun _ h => h) ?_
      refine AW.seq ?_
      refine AW.block ?_
      refine AW.reg tiOk (fun _ => []) [0, 1, 5] ?_
      intro k hk; simp -dsimp [go_sem, -decide_eq_true_eq, -decide_eq_false_iff_not]
      repeat' (first | refine And.intro ?_ ?_ | refine hk _ ?_ | intro hg | omega | exact True.intro)
      all_goals clear hk k
      refine AW.reg tiOk (fun _ => []) [0, 1, 5] ?_
      intro k hk; simp -dsimp [go_sem, -decide_eq_true_eq, -decide_eq_false_iff_not]
      repeat' (first | refine And.intro ?_ ?_ | refine hk _ ?_ | intro hg | omega | exact True.intro)
      all_goals clear hk k
      refine AW.reg tiOk (fun _ => []) [0, 1, 5] ?_
      intro k hk; simp -dsimp [go_sem, -decide_eq_true_eq, -decide_eq_false_iff_not]
      repeat' (first | refine And.intro ?_ ?_ | refine hk _ ?_ | intro hg | omega | exact True.intro)
      all_goals clear hk k
      refine AW.reg tiOk (fun _ => []) [0, 1, 5] ?_
      intro k hk; simp -dsimp [go_sem, -decide_eq_true_eq, -decide_eq_false_iff_not]
      repeat' (first | refine And.intro ?_ ?_ | refine hk _ ?_ | intro hg | omega | exact True.intro)
      all_goals clear hk k
      refine AW.reg tiOk (fun _ => []) [0, 1, 5] ?_
      intro k hk; simp -dsimp [go_sem, -decide_eq_true_eq, -decide_eq_false_iff_not]
      repeat' (first | refine And.intro ?_ ?_ | refine hk _ ?_ | intro hg | omega | exact True.intro)
      all_goals clear hk k
      refine AW.regN tiOk (fun _ => []) [0, 1, 5] (fun _ h => h) ?_
      intro k hk; simp -dsimp [go_sem, -decide_eq_true_eq, -decide_eq_false_iff_not]
      repeat' (first | refine And.intro ?_ ?_ | refine hk _ ?_ | intro hg | omega | exact True.intro)
      all_goals clear hk k
      refine AW.regK tiOk (fun _ => []) ?_
      intro k hk; simp -dsimp [go_sem, -decide_eq_true_eq, -decide_eq_false_iff_not]
      repeat' (first | refine And.intro ?_ ?_ | refine hk _ ?_ | intro hg | omega | exact True.intro)
      all_goals clear hk k
      show ∃ _, _
      exact absurd hc (by simp))
  · intro hc; try simp at hc
    all_goals try (exfalso; first | omega | (simp at hc; done); done)
    all_goals (
      refine AW.exitN (fun _ h => h) ?_
      refine AW.reg tiOk (fun _ => []) [4] ?_
      intro k hk; simp -dsimp [go_sem, -decide_eq_true_eq, -decide_eq_false_iff_not]
      repeat' (first | refine And.intro ?_ ?_ | refine hk _ ?_ | intro hg | omega | exact True.intro)
      all_goals clear hk k
      refine AW.retF (ow := []) (muts := []) ?_ (fun h => And.intro (.inr rfl) h)
      simp [go_sem, Tryz.results77])

set_option maxHeartbeats 600000 in
set_option linter.unusedSimpArgs false in
set_option maxRecDepth 100000 in
/-- laws.heldClaimS -/
theorem dc_laws_heldClaimS_nil (k : Int) : DC Tryz.prog 78 [.isl 3 [], .int .i64 k] (.int .i64 k) [] := by
  refine DC.intro tiOk Tryz.func78 rfl rfl rfl rfl rfl rfl rfl rfl [] ?_
  refine AW.reg tiOk (fun _ => []) [0, 1] ?_
  intro k hk; simp -dsimp [go_sem, -decide_eq_true_eq, -decide_eq_false_iff_not]
  repeat' (first | refine And.intro ?_ ?_ | refine hk _ ?_ | intro hg | omega | exact True.intro)
  all_goals clear hk k
  refine AW.seq ?_
  refine AW.reg tiOk (fun _ => []) [0, 1, 5] ?_
  intro k hk; simp -dsimp [go_sem, -decide_eq_true_eq, -decide_eq_false_iff_not]
  repeat' (first | refine And.intro ?_ ?_ | refine hk _ ?_ | intro hg | omega | exact True.intro)
  all_goals clear hk k
  refine AW.block ?_
  -- live at the loop's head: [0, 1, 5]
  refine AW.loopI (fun _ : Nat => ⟨40, [(0, .isl 3 []), (1, .int .i64 k), (5, .int .i64 0)], []⟩) (fun _ => True) (fun _ => 0) (0) (trivial) (Less.of rfl (by simp [go_sem]) (by simp [go_sem])) ?_
  rintro i _
  refine AW.seq ?_
  refine AW.reg tiOk (fun _ => []) [0, 1, 5, 9] ?_
  intro k hk; simp -dsimp [go_sem, -decide_eq_true_eq, -decide_eq_false_iff_not]
  repeat' (first | refine And.intro ?_ ?_ | refine hk _ ?_ | intro hg | omega | exact True.intro)
  all_goals clear hk k
  refine AW.cond rfl ?_ ?_
  · intro hc; try simp at hc
    all_goals try (exfalso; first | omega | (simp at hc; done); done)
    all_goals (
      refine AW.skipN (fun _ h => h) ?_
      refine AW.seq ?_
      refine AW.block ?_
      refine AW.seq ?_
      refine AW.reg tiOk (fun _ => []) [0, 1, 5, 18] ?_
      intro k hk; simp -dsimp (maxSteps := 2000000) [go_sem, -decide_eq_true_eq, -decide_eq_false_iff_not]
      repeat' (first | refine And.intro ?_ ?_ | refine hk _ ?_ | intro hg | omega | exact True.intro)
      all_goals clear hk k
      refine AW.cond rfl ?_ ?_
      · intro hc; try simp at hc
        all_goals try (exfalso; first | omega | (simp at hc; done); done)
        all_goals (
          refine AW.reg tiOk (fun _ => []) [4] ?_
          intro k hk; simp -dsimp [go_sem, -decide_eq_true_eq, -decide_eq_false_iff_not]
          repeat' (first | refine And.intro ?_ ?_ | refine hk _ ?_ | intro hg | omega | exact True.intro)
          all_goals clear hk k
          refine AW.retF (ow := []) (muts := []) ?_ (fun h => And.intro (.inr rfl) h)
          simp [go_sem, Tryz.results78])
      · intro hc; try simp at hc
        all_goals try (exfalso; first | omega | (simp at hc; done); done)
        all_goals (
          refine AW.skipN (fun _ h => h) ?_
          refine AW.reg tiOk (fun _ => []) [0, 1, 5] ?_
          intro k hk; simp -dsimp [go_sem, -decide_eq_true_eq, -decide_eq_false_iff_not]
          repeat' (first | refine And.intro ?_ ?_ | refine hk _ ?_ | intro hg | omega | exact True.intro)
          all_goals clear hk k
          refine AW.seq ?_
          refine AW.reg tiOk (fun _ => []) [0, 1, 5, 27] ?_
          intro k hk; simp -dsimp (maxSteps := 2000000) [go_sem, -decide_eq_true_eq, -decide_eq_false_iff_not]
          repeat' (first | refine And.intro ?_ ?_ | refine hk _ ?_ | intro hg | omega | exact True.intro)
          all_goals clear hk k
          refine AW.cond rfl ?_ ?_
          · intro hc; try simp at hc
            all_goals try (exfalso; first | omega | (simp at hc; done); done)
            all_goals (
              refine AW.reg tiOk (fun _ => []) [4] ?_
              intro k hk; simp -dsimp [go_sem, -decide_eq_true_eq, -decide_eq_false_iff_not]
              repeat' (first | refine And.intro ?_ ?_ | refine hk _ ?_ | intro hg | omega | exact True.intro)
              all_goals clear hk k
              refine AW.retF (ow := []) (muts := []) ?_ (fun h => And.intro (.inr rfl) h)
              simp [go_sem, Tryz.results78])
          · intro hc; try simp at hc
            all_goals try (exfalso; first | omega | (simp at hc; done); done)
            all_goals (
              refine AW.skipN (fun _ h => h) ?_
              refine AW.reg tiOk (fun _ => []) [0, 1, 5] ?_
              intro k hk; simp -dsimp [go_sem, -decide_eq_true_eq, -decide_eq_false_iff_not]
              repeat' (first | refine And.intro ?_ ?_ | refine hk _ ?_ | intro hg | omega | exact True.intro)
              all_goals clear hk k
              refine AW.seq ?_
              refine AW.reg tiOk (fun _ => []) [0, 1, 5, 36] ?_
              intro k hk; simp -dsimp (maxSteps := 2000000) [go_sem, -decide_eq_true_eq, -decide_eq_false_iff_not]
              repeat' (first | refine And.intro ?_ ?_ | refine hk _ ?_ | intro hg | omega | exact True.intro)
              all_goals clear hk k
              refine AW.cond rfl ?_ ?_
              · intro hc; try simp at hc
                all_goals try (exfalso; first | omega | (simp at hc; done); done)
                all_goals (
                  refine AW.reg tiOk (fun _ => []) [4] ?_
                  intro k hk; simp -dsimp [go_sem, -decide_eq_true_eq, -decide_eq_false_iff_not]
                  repeat' (first | refine And.intro ?_ ?_ | refine hk _ ?_ | intro hg | omega | exact True.intro)
                  all_goals clear hk k
                  refine AW.retF (ow := []) (muts := []) ?_ (fun h => And.intro (.inr rfl) h)
                  simp [go_sem, Tryz.results78])
              · intro hc; try simp at hc
                all_goals try (exfalso; first | omega | (simp at hc; done); done)
                all_goals (
                  refine AW.skipN (fun _ h => h) ?_
                  refine AW.regN tiOk (fun _ => []) [0, 1, 5] (fun _ h => h) ?_
                  intro k hk; simp -dsimp [go_sem, -decide_eq_true_eq, -decide_eq_false_iff_not]
                  repeat' (first | refine And.intro ?_ ?_ | refine hk _ ?_ | intro hg | omega | exact True.intro)
                  all_goals clear hk k
                  refine AW.regK tiOk (fun _ => []) ?_
                  intro k hk; simp -dsimp [go_sem, -decide_eq_true_eq, -decide_eq_false_iff_not]
                  repeat' (first | refine And.intro ?_ ?_ | refine hk _ ?_ | intro hg | omega | exact True.intro)
                  all_goals clear hk k
                  show ∃ _, _
                  exact absurd hc (by simp)))))
  · intro hc; try simp at hc
    all_goals try (exfalso; first | omega | (simp at hc; done); done)
    all_goals (
      refine AW.exitN (fun _ h => h) ?_
      refine AW.reg tiOk (fun _ => []) [4] ?_
      intro k hk; simp -dsimp [go_sem, -decide_eq_true_eq, -decide_eq_false_iff_not]
      repeat' (first | refine And.intro ?_ ?_ | refine hk _ ?_ | intro hg | omega | exact True.intro)
      all_goals clear hk k
      refine AW.retF (ow := []) (muts := []) ?_ (fun h => And.intro (.inr rfl) h)
      simp [go_sem, Tryz.results78])

set_option maxHeartbeats 600000 in
set_option linter.unusedSimpArgs false in
set_option maxRecDepth 100000 in
/-- laws.markDesk -/
theorem dc_laws_markDesk_p (l : List TProc) (n k : Int) (hll : l.length ≤ 1048576) (hk : 0 ≤ k ∧ k + (mkPr l : Int) ≤ 4611686018427387904) : DC Tryz.prog 34 [.agg [.osl 1 (l.map TProc.oc), .isl 6 [], .int .i64 n, .isl 3 []], .int .i64 k] (.int .i64 (k + (mkPr l : Int))) [(0, .agg [.osl 1 ((mPr k l).map TProc.oc), .isl 6 [], .int .i64 n, .isl 3 []])] := by
  refine DC.intro tiOk Tryz.func34 rfl rfl rfl rfl rfl rfl rfl (by simp [noW, noWo]) [] ?_
  refine AW.reg tiOk (fun _ => []) [0, 1, 2] ?_
  intro k hk; simp -dsimp [go_sem, -decide_eq_true_eq, -decide_eq_false_iff_not, mPr_len]
  repeat' (first | refine And.intro ?_ ?_ | refine hk _ ?_ | intro hg | omega | exact True.intro)
  all_goals clear hk k
  refine AW.reg tiOk (fun _ => [0]) [0, 1, 2] ?_
  intro k hk; simp -dsimp (maxSteps := 2000000) [go_sem, -decide_eq_true_eq, -decide_eq_false_iff_not, mPr_len]
  repeat' (first | refine And.intro ?_ ?_ | refine hk _ ?_ | intro hg | (refine CallK.intro (dc_laws_markEngine_p l _ _ hll (by constructor <;> omega)) ?_; simp -dsimp (maxSteps := 2000000) [go_sem, -decide_eq_true_eq, -decide_eq_false_iff_not, mPr_len]) | omega | exact True.intro)
  all_goals clear hk k
  refine AW.reg tiOk (fun _ => []) [0, 1] ?_
  intro k hk; simp -dsimp (maxSteps := 2000000) [go_sem, -decide_eq_true_eq, -decide_eq_false_iff_not, mPr_len]
  repeat' (first | refine And.intro ?_ ?_ | refine hk _ ?_ | intro hg | (refine CallK.intro (dc_laws_markClaimS_nil _) ?_; simp -dsimp (maxSteps := 2000000) [go_sem, -decide_eq_true_eq, -decide_eq_false_iff_not, mPr_len]) | omega | exact True.intro)
  all_goals clear hk k
  refine AW.reg tiOk (fun _ => []) [0, 4] ?_
  intro k hk; simp -dsimp [go_sem, -decide_eq_true_eq, -decide_eq_false_iff_not, mPr_len]
  repeat' (first | refine And.intro ?_ ?_ | refine hk _ ?_ | intro hg | omega | exact True.intro)
  all_goals clear hk k
  refine AW.retF (ow := []) (muts := [(0, .agg [.osl 1 ((mPr k l).map TProc.oc), .isl 6 [], .int .i64 n, .isl 3 []])]) ?_ (fun h => And.intro (.inr rfl) h)
  simp [go_sem, Tryz.results34, mPr_len]

set_option maxHeartbeats 600000 in
set_option linter.unusedSimpArgs false in
set_option maxRecDepth 100000 in
/-- laws.markDesk -/
theorem dc_laws_markDesk_n (n k : Int) (hk : 0 ≤ k ∧ k ≤ 4611686018427387904) : DC Tryz.prog 34 [.agg [.isl 1 [], .isl 6 [], .int .i64 n, .isl 3 []], .int .i64 k] (.int .i64 k) [] := by
  refine DC.intro tiOk Tryz.func34 rfl rfl rfl rfl rfl rfl rfl rfl [] ?_
  refine AW.reg tiOk (fun _ => []) [1, 2] ?_
  intro k hk; simp -dsimp [go_sem, -decide_eq_true_eq, -decide_eq_false_iff_not]
  repeat' (first | refine And.intro ?_ ?_ | refine hk _ ?_ | intro hg | omega | exact True.intro)
  all_goals clear hk k
  refine AW.reg tiOk (fun _ => []) [1, 2] ?_
  intro k hk; simp -dsimp (maxSteps := 2000000) [go_sem, -decide_eq_true_eq, -decide_eq_false_iff_not]
  repeat' (first | refine And.intro ?_ ?_ | refine hk _ ?_ | intro hg | (refine CallK.intro (dc_laws_markEngine_n _ _ (by omega)) ?_; simp -dsimp (maxSteps := 2000000) [go_sem, -decide_eq_true_eq, -decide_eq_false_iff_not]) | omega | exact True.intro)
  all_goals clear hk k
  refine AW.reg tiOk (fun _ => []) [1] ?_
  intro k hk; simp -dsimp (maxSteps := 2000000) [go_sem, -decide_eq_true_eq, -decide_eq_false_iff_not]
  repeat' (first | refine And.intro ?_ ?_ | refine hk _ ?_ | intro hg | (refine CallK.intro (dc_laws_markClaimS_nil _) ?_; simp -dsimp (maxSteps := 2000000) [go_sem, -decide_eq_true_eq, -decide_eq_false_iff_not]) | omega | exact True.intro)
  all_goals clear hk k
  refine AW.reg tiOk (fun _ => []) [4] ?_
  intro k hk; simp -dsimp [go_sem, -decide_eq_true_eq, -decide_eq_false_iff_not]
  repeat' (first | refine And.intro ?_ ?_ | refine hk _ ?_ | intro hg | omega | exact True.intro)
  all_goals clear hk k
  refine AW.retF (ow := []) (muts := []) ?_ (fun h => And.intro (.inr rfl) h)
  simp [go_sem, Tryz.results34]

set_option maxHeartbeats 600000 in
set_option linter.unusedSimpArgs false in
set_option maxRecDepth 100000 in
/-- laws.heldDesk -/
theorem dc_laws_heldDesk_p (l : List TProc) (n k : Int) (hll : l.length ≤ 1048576) (hk : 0 ≤ k ∧ k + (mkPr l : Int) ≤ 4611686018427387904) : DC Tryz.prog 93 [.agg [.isl 1 ((mPr k l).map TProc.ro), .isl 6 [], .int .i64 n, .isl 3 []], .int .i64 k] (.int .i64 (k + (mkPr l : Int))) [] := by
  refine DC.intro tiOk Tryz.func93 rfl rfl rfl rfl rfl rfl rfl rfl [] ?_
  refine AW.reg tiOk (fun _ => []) [1, 2] ?_
  intro k hk; simp -dsimp [go_sem, -decide_eq_true_eq, -decide_eq_false_iff_not]
  repeat' (first | refine And.intro ?_ ?_ | refine hk _ ?_ | intro hg | omega | exact True.intro)
  all_goals clear hk k
  refine AW.reg tiOk (fun _ => []) [1, 2] ?_
  intro k hk; simp -dsimp (maxSteps := 2000000) [go_sem, -decide_eq_true_eq, -decide_eq_false_iff_not]
  repeat' (first | refine And.intro ?_ ?_ | refine hk _ ?_ | intro hg | (refine CallK.intro (dc_laws_heldEngine_p l _ _ hll (by constructor <;> omega)) ?_; simp -dsimp (maxSteps := 2000000) [go_sem, -decide_eq_true_eq, -decide_eq_false_iff_not]) | omega | exact True.intro)
  all_goals clear hk k
  refine AW.seq ?_
  refine AW.reg tiOk (fun _ => []) [1, 2, 10] ?_
  intro k hk; simp -dsimp [go_sem, -decide_eq_true_eq, -decide_eq_false_iff_not]
  repeat' (first | refine And.intro ?_ ?_ | refine hk _ ?_ | intro hg | omega | exact True.intro)
  all_goals clear hk k
  refine AW.cond rfl ?_ ?_
  · intro hc; try simp at hc
    all_goals try (exfalso; omega; done)
    all_goals (
      refine AW.reg tiOk (fun _ => []) [4] ?_
      intro k hk; simp -dsimp [go_sem, -decide_eq_true_eq, -decide_eq_false_iff_not]
      repeat' (first | refine And.intro ?_ ?_ | refine hk _ ?_ | intro hg | omega | exact True.intro)
      all_goals clear hk k
      refine AW.retF (ow := []) (muts := []) ?_ (fun h => And.intro (.inr rfl) h)
      simp [go_sem, Tryz.results93])
  · intro hc; try simp at hc
    all_goals try (exfalso; omega; done)
    all_goals (
      refine AW.skipN (fun _ h => h) ?_
      refine AW.reg tiOk (fun _ => []) [1] ?_
      intro k hk; simp -dsimp (maxSteps := 2000000) [go_sem, -decide_eq_true_eq, -decide_eq_false_iff_not]
      repeat' (first | refine And.intro ?_ ?_ | refine hk _ ?_ | intro hg | (refine CallK.intro (dc_laws_heldClaimS_nil _) ?_; simp -dsimp (maxSteps := 2000000) [go_sem, -decide_eq_true_eq, -decide_eq_false_iff_not]) | omega | exact True.intro)
      all_goals clear hk k
      refine AW.seq ?_
      refine AW.reg tiOk (fun _ => []) [1, 16] ?_
      intro k hk; simp -dsimp [go_sem, -decide_eq_true_eq, -decide_eq_false_iff_not]
      repeat' (first | refine And.intro ?_ ?_ | refine hk _ ?_ | intro hg | omega | exact True.intro)
      all_goals clear hk k
      refine AW.cond rfl ?_ ?_
      · intro hc; try simp at hc
        all_goals try (exfalso; omega; done)
        all_goals (
          refine AW.reg tiOk (fun _ => []) [4] ?_
          intro k hk; simp -dsimp [go_sem, -decide_eq_true_eq, -decide_eq_false_iff_not]
          repeat' (first | refine And.intro ?_ ?_ | refine hk _ ?_ | intro hg | omega | exact True.intro)
          all_goals clear hk k
          refine AW.retF (ow := []) (muts := []) ?_ (fun h => And.intro (.inr rfl) h)
          simp [go_sem, Tryz.results93])
      · intro hc; try simp at hc
        all_goals try (exfalso; omega; done)
        all_goals (
          refine AW.skipN (fun _ h => h) ?_
          refine AW.reg tiOk (fun _ => []) [4] ?_
          intro k hk; simp -dsimp [go_sem, -decide_eq_true_eq, -decide_eq_false_iff_not]
          repeat' (first | refine And.intro ?_ ?_ | refine hk _ ?_ | intro hg | omega | exact True.intro)
          all_goals clear hk k
          refine AW.retF (ow := []) (muts := []) ?_ (fun h => And.intro (.inr rfl) h)
          simp [go_sem, Tryz.results93]))

set_option maxHeartbeats 600000 in
set_option linter.unusedSimpArgs false in
set_option maxRecDepth 100000 in
/-- laws.heldDesk -/
theorem dc_laws_heldDesk_n (n k : Int) (hk : 0 ≤ k ∧ k ≤ 4611686018427387904) : DC Tryz.prog 93 [.agg [.isl 1 [], .isl 6 [], .int .i64 n, .isl 3 []], .int .i64 k] (.int .i64 k) [] := by
  refine DC.intro tiOk Tryz.func93 rfl rfl rfl rfl rfl rfl rfl rfl [] ?_
  refine AW.reg tiOk (fun _ => []) [1, 2] ?_
  intro k hk; simp -dsimp [go_sem, -decide_eq_true_eq, -decide_eq_false_iff_not]
  repeat' (first | refine And.intro ?_ ?_ | refine hk _ ?_ | intro hg | omega | exact True.intro)
  all_goals clear hk k
  refine AW.reg tiOk (fun _ => []) [1, 2] ?_
  intro k hk; simp -dsimp (maxSteps := 2000000) [go_sem, -decide_eq_true_eq, -decide_eq_false_iff_not]
  repeat' (first | refine And.intro ?_ ?_ | refine hk _ ?_ | intro hg | (refine CallK.intro (dc_laws_heldEngine_n _ _ (by omega)) ?_; simp -dsimp (maxSteps := 2000000) [go_sem, -decide_eq_true_eq, -decide_eq_false_iff_not]) | omega | exact True.intro)
  all_goals clear hk k
  refine AW.seq ?_
  refine AW.reg tiOk (fun _ => []) [1, 2, 10] ?_
  intro k hk; simp -dsimp [go_sem, -decide_eq_true_eq, -decide_eq_false_iff_not]
  repeat' (first | refine And.intro ?_ ?_ | refine hk _ ?_ | intro hg | omega | exact True.intro)
  all_goals clear hk k
  refine AW.cond rfl ?_ ?_
  · intro hc; try simp at hc
    all_goals try (exfalso; omega; done)
    all_goals (
      refine AW.reg tiOk (fun _ => []) [4] ?_
      intro k hk; simp -dsimp [go_sem, -decide_eq_true_eq, -decide_eq_false_iff_not]
      repeat' (first | refine And.intro ?_ ?_ | refine hk _ ?_ | intro hg | omega | exact True.intro)
      all_goals clear hk k
      refine AW.retF (ow := []) (muts := []) ?_ (fun h => And.intro (.inr rfl) h)
      simp [go_sem, Tryz.results93])
  · intro hc; try simp at hc
    all_goals try (exfalso; omega; done)
    all_goals (
      refine AW.skipN (fun _ h => h) ?_
      refine AW.reg tiOk (fun _ => []) [1] ?_
      intro k hk; simp -dsimp (maxSteps := 2000000) [go_sem, -decide_eq_true_eq, -decide_eq_false_iff_not]
      repeat' (first | refine And.intro ?_ ?_ | refine hk _ ?_ | intro hg | (refine CallK.intro (dc_laws_heldClaimS_nil _) ?_; simp -dsimp (maxSteps := 2000000) [go_sem, -decide_eq_true_eq, -decide_eq_false_iff_not]) | omega | exact True.intro)
      all_goals clear hk k
      refine AW.seq ?_
      refine AW.reg tiOk (fun _ => []) [1, 16] ?_
      intro k hk; simp -dsimp [go_sem, -decide_eq_true_eq, -decide_eq_false_iff_not]
      repeat' (first | refine And.intro ?_ ?_ | refine hk _ ?_ | intro hg | omega | exact True.intro)
      all_goals clear hk k
      refine AW.cond rfl ?_ ?_
      · intro hc; try simp at hc
        all_goals try (exfalso; omega; done)
        all_goals (
          refine AW.reg tiOk (fun _ => []) [4] ?_
          intro k hk; simp -dsimp [go_sem, -decide_eq_true_eq, -decide_eq_false_iff_not]
          repeat' (first | refine And.intro ?_ ?_ | refine hk _ ?_ | intro hg | omega | exact True.intro)
          all_goals clear hk k
          refine AW.retF (ow := []) (muts := []) ?_ (fun h => And.intro (.inr rfl) h)
          simp [go_sem, Tryz.results93])
      · intro hc; try simp at hc
        all_goals try (exfalso; omega; done)
        all_goals (
          refine AW.skipN (fun _ h => h) ?_
          refine AW.reg tiOk (fun _ => []) [4] ?_
          intro k hk; simp -dsimp [go_sem, -decide_eq_true_eq, -decide_eq_false_iff_not]
          repeat' (first | refine And.intro ?_ ?_ | refine hk _ ?_ | intro hg | omega | exact True.intro)
          all_goals clear hk k
          refine AW.retF (ow := []) (muts := []) ?_ (fun h => And.intro (.inr rfl) h)
          simp [go_sem, Tryz.results93]))

set_option maxHeartbeats 600000 in
set_option linter.unusedSimpArgs false in
set_option maxRecDepth 100000 in
/-- laws.markWorld -/
theorem dc_laws_markWorld_p (l : List TProc) (n k : Int) (hll : l.length ≤ 1048576) (hk : 0 ≤ k ∧ k + (mkPr l : Int) ≤ 4611686018427387904) : DC Tryz.prog 47 [.agg [.osl 1 (l.map TProc.oc), .isl 6 [], .int .i64 n, .isl 3 [], .isl 1 [], .isl 1 []], .int .i64 k] (.int .i64 (k + (mkPr l : Int))) [(0, .agg [.osl 1 ((mPr k l).map TProc.oc), .isl 6 [], .int .i64 n, .isl 3 [], .isl 1 [], .isl 1 []])] := by
  refine DC.intro tiOk Tryz.func47 rfl rfl rfl rfl rfl rfl rfl (by simp [noW, noWo]) [] ?_
  refine AW.reg tiOk (fun _ => []) [0, 1, 2] ?_
  intro k hk; simp -dsimp [go_sem, -decide_eq_true_eq, -decide_eq_false_iff_not, mPr_len]
  repeat' (first | refine And.intro ?_ ?_ | refine hk _ ?_ | intro hg | omega | exact True.intro)
  all_goals clear hk k
  refine AW.reg tiOk (fun _ => [0]) [0, 1, 2] ?_
  intro k hk; simp -dsimp (maxSteps := 2000000) [go_sem, -decide_eq_true_eq, -decide_eq_false_iff_not, mPr_len]
  repeat' (first | refine And.intro ?_ ?_ | refine hk _ ?_ | intro hg | (refine CallK.intro (dc_laws_markDesk_p l _ _ hll (by constructor <;> omega)) ?_; simp -dsimp (maxSteps := 2000000) [go_sem, -decide_eq_true_eq, -decide_eq_false_iff_not, mPr_len]) | omega | exact True.intro)
  all_goals clear hk k
  refine AW.reg tiOk (fun _ => []) [0, 1] ?_
  intro k hk; simp -dsimp (maxSteps := 2000000) [go_sem, -decide_eq_true_eq, -decide_eq_false_iff_not, mPr_len]
  repeat' (first | refine And.intro ?_ ?_ | refine hk _ ?_ | intro hg | (refine CallK.intro (dc_laws_markJournal_nn _ (by constructor <;> omega)) ?_; simp -dsimp (maxSteps := 2000000) [go_sem, -decide_eq_true_eq, -decide_eq_false_iff_not, mPr_len]) | omega | exact True.intro)
  all_goals clear hk k
  refine AW.reg tiOk (fun _ => []) [0, 4] ?_
  intro k hk; simp -dsimp [go_sem, -decide_eq_true_eq, -decide_eq_false_iff_not, mPr_len]
  repeat' (first | refine And.intro ?_ ?_ | refine hk _ ?_ | intro hg | omega | exact True.intro)
  all_goals clear hk k
  refine AW.retF (ow := []) (muts := [(0, .agg [.osl 1 ((mPr k l).map TProc.oc), .isl 6 [], .int .i64 n, .isl 3 [], .isl 1 [], .isl 1 []])]) ?_ (fun h => And.intro (.inr rfl) h)
  simp [go_sem, Tryz.results47, mPr_len]

set_option maxHeartbeats 600000 in
set_option linter.unusedSimpArgs false in
set_option maxRecDepth 100000 in
/-- laws.markWorld -/
theorem dc_laws_markWorld_n (n k : Int) (hk : 0 ≤ k ∧ k ≤ 4611686018427387904) : DC Tryz.prog 47 [.agg [.isl 1 [], .isl 6 [], .int .i64 n, .isl 3 [], .isl 1 [], .isl 1 []], .int .i64 k] (.int .i64 k) [] := by
  refine DC.intro tiOk Tryz.func47 rfl rfl rfl rfl rfl rfl rfl rfl [] ?_
  refine AW.reg tiOk (fun _ => []) [1, 2] ?_
  intro k hk; simp -dsimp [go_sem, -decide_eq_true_eq, -decide_eq_false_iff_not]
  repeat' (first | refine And.intro ?_ ?_ | refine hk _ ?_ | intro hg | omega | exact True.intro)
  all_goals clear hk k
  refine AW.reg tiOk (fun _ => []) [1, 2] ?_
  intro k hk; simp -dsimp (maxSteps := 2000000) [go_sem, -decide_eq_true_eq, -decide_eq_false_iff_not]
  repeat' (first | refine And.intro ?_ ?_ | refine hk _ ?_ | intro hg | (refine CallK.intro (dc_laws_markDesk_n _ _ (by constructor <;> omega)) ?_; simp -dsimp (maxSteps := 2000000) [go_sem, -decide_eq_true_eq, -decide_eq_false_iff_not]) | omega | exact True.intro)
  all_goals clear hk k
  refine AW.reg tiOk (fun _ => []) [1] ?_
  intro k hk; simp -dsimp (maxSteps := 2000000) [go_sem, -decide_eq_true_eq, -decide_eq_false_iff_not]
  repeat' (first | refine And.intro ?_ ?_ | refine hk _ ?_ | intro hg | (refine CallK.intro (dc_laws_markJournal_nn _ (by constructor <;> omega)) ?_; simp -dsimp (maxSteps := 2000000) [go_sem, -decide_eq_true_eq, -decide_eq_false_iff_not]) | omega | exact True.intro)
  all_goals clear hk k
  refine AW.reg tiOk (fun _ => []) [4] ?_
  intro k hk; simp -dsimp [go_sem, -decide_eq_true_eq, -decide_eq_false_iff_not]
  repeat' (first | refine And.intro ?_ ?_ | refine hk _ ?_ | intro hg | omega | exact True.intro)
  all_goals clear hk k
  refine AW.retF (ow := []) (muts := []) ?_ (fun h => And.intro (.inr rfl) h)
  simp [go_sem, Tryz.results47]

set_option maxHeartbeats 600000 in
set_option linter.unusedSimpArgs false in
set_option maxRecDepth 100000 in
/-- laws.heldWorld -/
theorem dc_laws_heldWorld_p (l : List TProc) (n k : Int) (hll : l.length ≤ 1048576) (hk : 0 ≤ k ∧ k + (mkPr l : Int) ≤ 4611686018427387904) : DC Tryz.prog 48 [.agg [.isl 1 ((mPr k l).map TProc.ro), .isl 6 [], .int .i64 n, .isl 3 [], .isl 1 [], .isl 1 []], .int .i64 k] (.int .i64 (k + (mkPr l : Int))) [] := by
  refine DC.intro tiOk Tryz.func48 rfl rfl rfl rfl rfl rfl rfl rfl [] ?_
  refine AW.reg tiOk (fun _ => []) [1, 2] ?_
  intro k hk; simp -dsimp [go_sem, -decide_eq_true_eq, -decide_eq_false_iff_not]
  repeat' (first | refine And.intro ?_ ?_ | refine hk _ ?_ | intro hg | omega | exact True.intro)
  all_goals clear hk k
  refine AW.reg tiOk (fun _ => []) [1, 2] ?_
  intro k hk; simp -dsimp (maxSteps := 2000000) [go_sem, -decide_eq_true_eq, -decide_eq_false_iff_not]
  repeat' (first | refine And.intro ?_ ?_ | refine hk _ ?_ | intro hg | (refine CallK.intro (dc_laws_heldDesk_p l _ _ hll (by constructor <;> omega)) ?_; simp -dsimp (maxSteps := 2000000) [go_sem, -decide_eq_true_eq, -decide_eq_false_iff_not]) | omega | exact True.intro)
  all_goals clear hk k
  refine AW.seq ?_
  refine AW.reg tiOk (fun _ => []) [1, 2, 10] ?_
  intro k hk; simp -dsimp [go_sem, -decide_eq_true_eq, -decide_eq_false_iff_not]
  repeat' (first | refine And.intro ?_ ?_ | refine hk _ ?_ | intro hg | omega | exact True.intro)
  all_goals clear hk k
  refine AW.cond rfl ?_ ?_
  · intro hc; try simp at hc
    all_goals try (exfalso; omega; done)
    all_goals (
      refine AW.reg tiOk (fun _ => []) [4] ?_
      intro k hk; simp -dsimp [go_sem, -decide_eq_true_eq, -decide_eq_false_iff_not]
      repeat' (first | refine And.intro ?_ ?_ | refine hk _ ?_ | intro hg | omega | exact True.intro)
      all_goals clear hk k
      refine AW.retF (ow := []) (muts := []) ?_ (fun h => And.intro (.inr rfl) h)
      simp [go_sem, Tryz.results48])
  · intro hc; try simp at hc
    all_goals try (exfalso; omega; done)
    all_goals (
      refine AW.skipN (fun _ h => h) ?_
      refine AW.reg tiOk (fun _ => []) [1] ?_
      intro k hk; simp -dsimp (maxSteps := 2000000) [go_sem, -decide_eq_true_eq, -decide_eq_false_iff_not]
      repeat' (first | refine And.intro ?_ ?_ | refine hk _ ?_ | intro hg | (refine CallK.intro (dc_laws_heldJournal_nn _ (by constructor <;> omega)) ?_; simp -dsimp (maxSteps := 2000000) [go_sem, -decide_eq_true_eq, -decide_eq_false_iff_not]) | omega | exact True.intro)
      all_goals clear hk k
      refine AW.seq ?_
      refine AW.reg tiOk (fun _ => []) [1, 16] ?_
      intro k hk; simp -dsimp [go_sem, -decide_eq_true_eq, -decide_eq_false_iff_not]
      repeat' (first | refine And.intro ?_ ?_ | refine hk _ ?_ | intro hg | omega | exact True.intro)
      all_goals clear hk k
      refine AW.cond rfl ?_ ?_
      · intro hc; try simp at hc
        all_goals try (exfalso; omega; done)
        all_goals (
          refine AW.reg tiOk (fun _ => []) [4] ?_
          intro k hk; simp -dsimp [go_sem, -decide_eq_true_eq, -decide_eq_false_iff_not]
          repeat' (first | refine And.intro ?_ ?_ | refine hk _ ?_ | intro hg | omega | exact True.intro)
          all_goals clear hk k
          refine AW.retF (ow := []) (muts := []) ?_ (fun h => And.intro (.inr rfl) h)
          simp [go_sem, Tryz.results48])
      · intro hc; try simp at hc
        all_goals try (exfalso; omega; done)
        all_goals (
          refine AW.skipN (fun _ h => h) ?_
          refine AW.reg tiOk (fun _ => []) [4] ?_
          intro k hk; simp -dsimp [go_sem, -decide_eq_true_eq, -decide_eq_false_iff_not]
          repeat' (first | refine And.intro ?_ ?_ | refine hk _ ?_ | intro hg | omega | exact True.intro)
          all_goals clear hk k
          refine AW.retF (ow := []) (muts := []) ?_ (fun h => And.intro (.inr rfl) h)
          simp [go_sem, Tryz.results48]))

set_option maxHeartbeats 600000 in
set_option linter.unusedSimpArgs false in
set_option maxRecDepth 100000 in
/-- laws.heldWorld -/
theorem dc_laws_heldWorld_n (n k : Int) (hk : 0 ≤ k ∧ k ≤ 4611686018427387904) : DC Tryz.prog 48 [.agg [.isl 1 [], .isl 6 [], .int .i64 n, .isl 3 [], .isl 1 [], .isl 1 []], .int .i64 k] (.int .i64 k) [] := by
  refine DC.intro tiOk Tryz.func48 rfl rfl rfl rfl rfl rfl rfl rfl [] ?_
  refine AW.reg tiOk (fun _ => []) [1, 2] ?_
  intro k hk; simp -dsimp [go_sem, -decide_eq_true_eq, -decide_eq_false_iff_not]
  repeat' (first | refine And.intro ?_ ?_ | refine hk _ ?_ | intro hg | omega | exact True.intro)
  all_goals clear hk k
  refine AW.reg tiOk (fun _ => []) [1, 2] ?_
  intro k hk; simp -dsimp (maxSteps := 2000000) [go_sem, -decide_eq_true_eq, -decide_eq_false_iff_not]
  repeat' (first | refine And.intro ?_ ?_ | refine hk _ ?_ | intro hg | (refine CallK.intro (dc_laws_heldDesk_n _ _ (by constructor <;> omega)) ?_; simp -dsimp (maxSteps := 2000000) [go_sem, -decide_eq_true_eq, -decide_eq_false_iff_not]) | omega | exact True.intro)
  all_goals clear hk k
  refine AW.seq ?_
  refine AW.reg tiOk (fun _ => []) [1, 2, 10] ?_
  intro k hk; simp -dsimp [go_sem, -decide_eq_true_eq, -decide_eq_false_iff_not]
  repeat' (first | refine And.intro ?_ ?_ | refine hk _ ?_ | intro hg | omega | exact True.intro)
  all_goals clear hk k
  refine AW.cond rfl ?_ ?_
  · intro hc; try simp at hc
    all_goals try (exfalso; omega; done)
    all_goals (
      refine AW.reg tiOk (fun _ => []) [4] ?_
      intro k hk; simp -dsimp [go_sem, -decide_eq_true_eq, -decide_eq_false_iff_not]
      repeat' (first | refine And.intro ?_ ?_ | refine hk _ ?_ | intro hg | omega | exact True.intro)
      all_goals clear hk k
      refine AW.retF (ow := []) (muts := []) ?_ (fun h => And.intro (.inr rfl) h)
      simp [go_sem, Tryz.results48])
  · intro hc; try simp at hc
    all_goals try (exfalso; omega; done)
    all_goals (
      refine AW.skipN (fun _ h => h) ?_
      refine AW.reg tiOk (fun _ => []) [1] ?_
      intro k hk; simp -dsimp (maxSteps := 2000000) [go_sem, -decide_eq_true_eq, -decide_eq_false_iff_not]
      repeat' (first | refine And.intro ?_ ?_ | refine hk _ ?_ | intro hg | (refine CallK.intro (dc_laws_heldJournal_nn _ (by constructor <;> omega)) ?_; simp -dsimp (maxSteps := 2000000) [go_sem, -decide_eq_true_eq, -decide_eq_false_iff_not]) | omega | exact True.intro)
      all_goals clear hk k
      refine AW.seq ?_
      refine AW.reg tiOk (fun _ => []) [1, 16] ?_
      intro k hk; simp -dsimp [go_sem, -decide_eq_true_eq, -decide_eq_false_iff_not]
      repeat' (first | refine And.intro ?_ ?_ | refine hk _ ?_ | intro hg | omega | exact True.intro)
      all_goals clear hk k
      refine AW.cond rfl ?_ ?_
      · intro hc; try simp at hc
        all_goals try (exfalso; omega; done)
        all_goals (
          refine AW.reg tiOk (fun _ => []) [4] ?_
          intro k hk; simp -dsimp [go_sem, -decide_eq_true_eq, -decide_eq_false_iff_not]
          repeat' (first | refine And.intro ?_ ?_ | refine hk _ ?_ | intro hg | omega | exact True.intro)
          all_goals clear hk k
          refine AW.retF (ow := []) (muts := []) ?_ (fun h => And.intro (.inr rfl) h)
          simp [go_sem, Tryz.results48])
      · intro hc; try simp at hc
        all_goals try (exfalso; omega; done)
        all_goals (
          refine AW.skipN (fun _ h => h) ?_
          refine AW.reg tiOk (fun _ => []) [4] ?_
          intro k hk; simp -dsimp [go_sem, -decide_eq_true_eq, -decide_eq_false_iff_not]
          repeat' (first | refine And.intro ?_ ?_ | refine hk _ ?_ | intro hg | omega | exact True.intro)
          all_goals clear hk k
          refine AW.retF (ow := []) (muts := []) ?_ (fun h => And.intro (.inr rfl) h)
          simp [go_sem, Tryz.results48]))

set_option maxHeartbeats 600000 in
set_option linter.unusedSimpArgs false in
set_option maxRecDepth 100000 in
/-- laws.markWorldResult -/
theorem dc_laws_markWorldResult_p (l : List TProc) (c r v : Int) (n k : Int) (hll : l.length ≤ 1048576) (hk : 0 ≤ k ∧ k + (mkPr l : Int) ≤ 4611686018427387904) : DC Tryz.prog 15 [.agg [.int .i64 c, .int .i64 r, .int .i64 v, .osl 1 (l.map TProc.oc), .isl 6 [], .int .i64 n, .isl 3 [], .isl 1 [], .isl 1 []], .int .i64 k] (.int .i64 (k + (mkPr l : Int))) [(0, .agg [.int .i64 c, .int .i64 r, .int .i64 v, .osl 1 ((mPr k l).map TProc.oc), .isl 6 [], .int .i64 n, .isl 3 [], .isl 1 [], .isl 1 []])] := by
  refine DC.intro tiOk Tryz.func15 rfl rfl rfl rfl rfl rfl rfl (by simp [noW, noWo]) [] ?_
  refine AW.reg tiOk (fun _ => []) [0, 1, 2] ?_
  intro k hk; simp -dsimp [go_sem, -decide_eq_true_eq, -decide_eq_false_iff_not, mPr_len]
  repeat' (first | refine And.intro ?_ ?_ | refine hk _ ?_ | intro hg | omega | exact True.intro)
  all_goals clear hk k
  refine AW.reg tiOk (fun _ => [0]) [0, 1] ?_
  intro k hk; simp -dsimp (maxSteps := 2000000) [go_sem, -decide_eq_true_eq, -decide_eq_false_iff_not, mPr_len]
  repeat' (first | refine And.intro ?_ ?_ | refine hk _ ?_ | intro hg | (refine CallK.intro (dc_laws_markWorld_p l _ _ hll (by constructor <;> omega)) ?_; simp -dsimp (maxSteps := 2000000) [go_sem, -decide_eq_true_eq, -decide_eq_false_iff_not, mPr_len]) | omega | exact True.intro)
  all_goals clear hk k
  refine AW.reg tiOk (fun _ => []) [0, 4] ?_
  intro k hk; simp -dsimp [go_sem, -decide_eq_true_eq, -decide_eq_false_iff_not, mPr_len]
  repeat' (first | refine And.intro ?_ ?_ | refine hk _ ?_ | intro hg | omega | exact True.intro)
  all_goals clear hk k
  refine AW.retF (ow := []) (muts := [(0, .agg [.int .i64 c, .int .i64 r, .int .i64 v, .osl 1 ((mPr k l).map TProc.oc), .isl 6 [], .int .i64 n, .isl 3 [], .isl 1 [], .isl 1 []])]) ?_ (fun h => And.intro (.inr rfl) h)
  simp [go_sem, Tryz.results15, mPr_len]

set_option maxHeartbeats 600000 in
set_option linter.unusedSimpArgs false in
set_option maxRecDepth 100000 in
/-- laws.markWorldResult -/
theorem dc_laws_markWorldResult_n (c r v : Int) (n k : Int) (hk : 0 ≤ k ∧ k ≤ 4611686018427387904) : DC Tryz.prog 15 [.agg [.int .i64 c, .int .i64 r, .int .i64 v, .isl 1 [], .isl 6 [], .int .i64 n, .isl 3 [], .isl 1 [], .isl 1 []], .int .i64 k] (.int .i64 k) [] := by
  refine DC.intro tiOk Tryz.func15 rfl rfl rfl rfl rfl rfl rfl rfl [] ?_
  refine AW.reg tiOk (fun _ => []) [1, 2] ?_
  intro k hk; simp -dsimp [go_sem, -decide_eq_true_eq, -decide_eq_false_iff_not]
  repeat' (first | refine And.intro ?_ ?_ | refine hk _ ?_ | intro hg | omega | exact True.intro)
  all_goals clear hk k
  refine AW.reg tiOk (fun _ => []) [1] ?_
  intro k hk; simp -dsimp (maxSteps := 2000000) [go_sem, -decide_eq_true_eq, -decide_eq_false_iff_not]
  repeat' (first | refine And.intro ?_ ?_ | refine hk _ ?_ | intro hg | (refine CallK.intro (dc_laws_markWorld_n _ _ (by constructor <;> omega)) ?_; simp -dsimp (maxSteps := 2000000) [go_sem, -decide_eq_true_eq, -decide_eq_false_iff_not]) | omega | exact True.intro)
  all_goals clear hk k
  refine AW.reg tiOk (fun _ => []) [4] ?_
  intro k hk; simp -dsimp [go_sem, -decide_eq_true_eq, -decide_eq_false_iff_not]
  repeat' (first | refine And.intro ?_ ?_ | refine hk _ ?_ | intro hg | omega | exact True.intro)
  all_goals clear hk k
  refine AW.retF (ow := []) (muts := []) ?_ (fun h => And.intro (.inr rfl) h)
  simp [go_sem, Tryz.results15]

set_option maxHeartbeats 600000 in
set_option linter.unusedSimpArgs false in
set_option maxRecDepth 100000 in
/-- laws.heldWorldResult -/
theorem dc_laws_heldWorldResult_p (l : List TProc) (c r v : Int) (n k : Int) (hll : l.length ≤ 1048576) (hk : 0 ≤ k ∧ k + (mkPr l : Int) ≤ 4611686018427387904) : DC Tryz.prog 16 [.agg [.int .i64 c, .int .i64 r, .int .i64 v, .isl 1 ((mPr k l).map TProc.ro), .isl 6 [], .int .i64 n, .isl 3 [], .isl 1 [], .isl 1 []], .int .i64 k] (.int .i64 (k + (mkPr l : Int))) [] := by
  refine DC.intro tiOk Tryz.func16 rfl rfl rfl rfl rfl rfl rfl rfl [] ?_
  refine AW.reg tiOk (fun _ => []) [1, 2] ?_
  intro k hk; simp -dsimp [go_sem, -decide_eq_true_eq, -decide_eq_false_iff_not]
  repeat' (first | refine And.intro ?_ ?_ | refine hk _ ?_ | intro hg | omega | exact True.intro)
  all_goals clear hk k
  refine AW.reg tiOk (fun _ => []) [1] ?_
  intro k hk; simp -dsimp (maxSteps := 2000000) [go_sem, -decide_eq_true_eq, -decide_eq_false_iff_not]
  repeat' (first | refine And.intro ?_ ?_ | refine hk _ ?_ | intro hg | (refine CallK.intro (dc_laws_heldWorld_p l _ _ hll (by constructor <;> omega)) ?_; simp -dsimp (maxSteps := 2000000) [go_sem, -decide_eq_true_eq, -decide_eq_false_iff_not]) | omega | exact True.intro)
  all_goals clear hk k
  refine AW.seq ?_
  refine AW.reg tiOk (fun _ => []) [1, 10] ?_
  intro k hk; simp -dsimp [go_sem, -decide_eq_true_eq, -decide_eq_false_iff_not]
  repeat' (first | refine And.intro ?_ ?_ | refine hk _ ?_ | intro hg | omega | exact True.intro)
  all_goals clear hk k
  refine AW.cond rfl ?_ ?_
  · intro hc; try simp at hc
    all_goals try (exfalso; omega; done)
    all_goals (
      refine AW.reg tiOk (fun _ => []) [4] ?_
      intro k hk; simp -dsimp [go_sem, -decide_eq_true_eq, -decide_eq_false_iff_not]
      repeat' (first | refine And.intro ?_ ?_ | refine hk _ ?_ | intro hg | omega | exact True.intro)
      all_goals clear hk k
      refine AW.retF (ow := []) (muts := []) ?_ (fun h => And.intro (.inr rfl) h)
      simp [go_sem, Tryz.results16])
  · intro hc; try simp at hc
    all_goals try (exfalso; omega; done)
    all_goals (
      refine AW.skipN (fun _ h => h) ?_
      refine AW.reg tiOk (fun _ => []) [4] ?_
      intro k hk; simp -dsimp [go_sem, -decide_eq_true_eq, -decide_eq_false_iff_not]
      repeat' (first | refine And.intro ?_ ?_ | refine hk _ ?_ | intro hg | omega | exact True.intro)
      all_goals clear hk k
      refine AW.retF (ow := []) (muts := []) ?_ (fun h => And.intro (.inr rfl) h)
      simp [go_sem, Tryz.results16])

set_option maxHeartbeats 600000 in
set_option linter.unusedSimpArgs false in
set_option maxRecDepth 100000 in
/-- laws.heldWorldResult -/
theorem dc_laws_heldWorldResult_n (c r v : Int) (n k : Int) (hk : 0 ≤ k ∧ k ≤ 4611686018427387904) : DC Tryz.prog 16 [.agg [.int .i64 c, .int .i64 r, .int .i64 v, .isl 1 [], .isl 6 [], .int .i64 n, .isl 3 [], .isl 1 [], .isl 1 []], .int .i64 k] (.int .i64 k) [] := by
  refine DC.intro tiOk Tryz.func16 rfl rfl rfl rfl rfl rfl rfl rfl [] ?_
  refine AW.reg tiOk (fun _ => []) [1, 2] ?_
  intro k hk; simp -dsimp [go_sem, -decide_eq_true_eq, -decide_eq_false_iff_not]
  repeat' (first | refine And.intro ?_ ?_ | refine hk _ ?_ | intro hg | omega | exact True.intro)
  all_goals clear hk k
  refine AW.reg tiOk (fun _ => []) [1] ?_
  intro k hk; simp -dsimp (maxSteps := 2000000) [go_sem, -decide_eq_true_eq, -decide_eq_false_iff_not]
  repeat' (first | refine And.intro ?_ ?_ | refine hk _ ?_ | intro hg | (refine CallK.intro (dc_laws_heldWorld_n _ _ (by constructor <;> omega)) ?_; simp -dsimp (maxSteps := 2000000) [go_sem, -decide_eq_true_eq, -decide_eq_false_iff_not]) | omega | exact True.intro)
  all_goals clear hk k
  refine AW.seq ?_
  refine AW.reg tiOk (fun _ => []) [1, 10] ?_
  intro k hk; simp -dsimp [go_sem, -decide_eq_true_eq, -decide_eq_false_iff_not]
  repeat' (first | refine And.intro ?_ ?_ | refine hk _ ?_ | intro hg | omega | exact True.intro)
  all_goals clear hk k
  refine AW.cond rfl ?_ ?_
  · intro hc; try simp at hc
    all_goals try (exfalso; omega; done)
    all_goals (
      refine AW.reg tiOk (fun _ => []) [4] ?_
      intro k hk; simp -dsimp [go_sem, -decide_eq_true_eq, -decide_eq_false_iff_not]
      repeat' (first | refine And.intro ?_ ?_ | refine hk _ ?_ | intro hg | omega | exact True.intro)
      all_goals clear hk k
      refine AW.retF (ow := []) (muts := []) ?_ (fun h => And.intro (.inr rfl) h)
      simp [go_sem, Tryz.results16])
  · intro hc; try simp at hc
    all_goals try (exfalso; omega; done)
    all_goals (
      refine AW.skipN (fun _ h => h) ?_
      refine AW.reg tiOk (fun _ => []) [4] ?_
      intro k hk; simp -dsimp [go_sem, -decide_eq_true_eq, -decide_eq_false_iff_not]
      repeat' (first | refine And.intro ?_ ?_ | refine hk _ ?_ | intro hg | omega | exact True.intro)
      all_goals clear hk k
      refine AW.retF (ow := []) (muts := []) ?_ (fun h => And.intro (.inr rfl) h)
      simp [go_sem, Tryz.results16])

end Go.AM

/-! ### Q2 -/
set_option linter.unusedVariables false
set_option linter.unusedSimpArgs false
namespace Go.AM
open Go.Proofs

set_option maxHeartbeats 600000 in
set_option linter.unusedSimpArgs false in
set_option maxRecDepth 100000 in
/-- slices.Clone[[]impl.Node,impl.Node] -/
theorem dc_CloneN_n  : DC Tryz.prog 147 [.nils] (.isl 4 []) [] := by
  refine DC.intro tiOk Tryz.func147 rfl rfl rfl rfl rfl rfl rfl rfl [] ?_
  refine AW.reg tiOk (fun _ => []) [0] ?_
  intro k hk; simp -dsimp [go_sem, -decide_eq_true_eq, -decide_eq_false_iff_not]
  repeat' (first | refine And.intro ?_ ?_ | refine hk _ ?_ | intro hg | omega | exact True.intro)
  all_goals clear hk k
  refine AW.seq ?_
  refine AW.reg tiOk (fun _ => []) [0, 4] ?_
  intro k hk; simp -dsimp [go_sem, -decide_eq_true_eq, -decide_eq_false_iff_not]
  repeat' (first | refine And.intro ?_ ?_ | refine hk _ ?_ | intro hg | omega | exact True.intro)
  all_goals clear hk k
  refine AW.cond rfl ?_ ?_
  · intro hc; try simp at hc
    all_goals try (exfalso; simp at hc; done)
    all_goals (
      refine AW.reg tiOk (fun _ => []) [2] ?_
      intro k hk; simp -dsimp [go_sem, -decide_eq_true_eq, -decide_eq_false_iff_not]
      repeat' (first | refine And.intro ?_ ?_ | refine hk _ ?_ | intro hg | omega | exact True.intro)
      all_goals clear hk k
      refine AW.retF (ow := []) (muts := []) ?_ (fun h => And.intro (.inr rfl) h)
      simp [go_sem, Tryz.results147])
  · intro hc; try simp at hc
    all_goals try (exfalso; simp at hc; done)
    all_goals (
      refine AW.skipN (fun _ h => h) ?_
      refine AW.reg tiOk (fun _ => []) [2] ?_
      intro k hk; simp -dsimp [go_sem, -decide_eq_true_eq, -decide_eq_false_iff_not]
      repeat' (first | refine And.intro ?_ ?_ | refine hk _ ?_ | intro hg | omega | exact True.intro)
      all_goals clear hk k
      refine AW.retF (ow := []) (muts := []) ?_ (fun h => And.intro (.inr rfl) h)
      simp [go_sem, Tryz.results147])

set_option maxHeartbeats 600000 in
set_option linter.unusedSimpArgs false in
set_option maxRecDepth 100000 in
/-- slices.Clone[[]impl.Node,impl.Node] -/
theorem dc_CloneN_e  : DC Tryz.prog 147 [.nel] (.isl 4 []) [] := by
  refine DC.intro tiOk Tryz.func147 rfl rfl rfl rfl rfl rfl rfl rfl [1000] ?_
  refine AW.reg tiOk (fun _ => []) [0] ?_
  intro k hk; simp -dsimp [go_sem, -decide_eq_true_eq, -decide_eq_false_iff_not]
  repeat' (first | refine And.intro ?_ ?_ | refine hk _ ?_ | intro hg | omega | exact True.intro)
  all_goals clear hk k
  refine AW.seq ?_
  refine AW.reg tiOk (fun _ => []) [0, 4] ?_
  intro k hk; simp -dsimp [go_sem, -decide_eq_true_eq, -decide_eq_false_iff_not]
  repeat' (first | refine And.intro ?_ ?_ | refine hk _ ?_ | intro hg | omega | exact True.intro)
  all_goals clear hk k
  refine AW.cond rfl ?_ ?_
  · intro hc; try simp at hc
    all_goals try (exfalso; simp at hc; done)
    all_goals (
      refine AW.reg tiOk (fun _ => []) [2] ?_
      intro k hk; simp -dsimp [go_sem, -decide_eq_true_eq, -decide_eq_false_iff_not]
      repeat' (first | refine And.intro ?_ ?_ | refine hk _ ?_ | intro hg | omega | exact True.intro)
      all_goals clear hk k
      refine AW.retF (ow := [1000]) (muts := []) ?_ (fun h => And.intro (.inr rfl) h)
      simp [go_sem, Tryz.results147])
  · intro hc; try simp at hc
    all_goals try (exfalso; simp at hc; done)
    all_goals (
      refine AW.skipN (fun _ h => h) ?_
      refine AW.slotLe (x := ?x_1) 0 (.isl 4 []) ?h1_1 ?h2_1 ?kk_1
      (case h1_1 => exact rfl)
      (case h2_1 => simp [go_sem])
      refine AW.reg tiOk (fun _ => []) [2] ?_
      intro k hk; simp -dsimp [go_sem, -decide_eq_true_eq, -decide_eq_false_iff_not]
      repeat' (first | refine And.intro ?_ ?_ | refine hk _ ?_ | intro hg | omega | exact True.intro)
      all_goals clear hk k
      refine AW.retF (ow := [1000]) (muts := []) ?_ (fun h => And.intro (.inr rfl) h)
      simp [go_sem, Tryz.results147])
theorem dc_CloneN_nil : DC Tryz.prog 147 [.isl 4 []] (.isl 4 []) [] := DC.empty dc_CloneN_n dc_CloneN_e

set_option maxHeartbeats 600000 in
set_option linter.unusedSimpArgs false in
set_option maxRecDepth 100000 in
/-- slices.Clone[[]impl.Node,impl.Node] -/
theorem dc_CloneN_c (x : TNode) (r : List TNode) (hb : r.length + 1 ≤ 1048576) : DC Tryz.prog 147 [.isl 4 ((x :: r).map TNode.ro)] (.osl 4 ((x :: r).map TNode.ro)) [] := by
  refine DC.intro tiOk Tryz.func147 rfl rfl rfl rfl rfl rfl rfl rfl [1000] ?_
  refine AW.reg tiOk (fun _ => []) [0] ?_
  intro k hk; simp -dsimp [go_sem, -decide_eq_true_eq, -decide_eq_false_iff_not]
  repeat' (first | refine And.intro ?_ ?_ | refine hk _ ?_ | intro hg | omega | exact True.intro)
  all_goals clear hk k
  refine AW.seq ?_
  refine AW.reg tiOk (fun _ => []) [0, 4] ?_
  intro k hk; simp -dsimp [go_sem, -decide_eq_true_eq, -decide_eq_false_iff_not]
  repeat' (first | refine And.intro ?_ ?_ | refine hk _ ?_ | intro hg | omega | exact True.intro)
  all_goals clear hk k
  refine AW.cond rfl ?_ ?_
  · intro hc; try simp at hc
    all_goals try (exfalso; simp at hc; done)
    all_goals (
      refine AW.reg tiOk (fun _ => []) [2] ?_
      intro k hk; simp -dsimp [go_sem, -decide_eq_true_eq, -decide_eq_false_iff_not]
      repeat' (first | refine And.intro ?_ ?_ | refine hk _ ?_ | intro hg | omega | exact True.intro)
      all_goals clear hk k
      refine AW.retF (ow := [1000]) (muts := []) ?_ (fun h => And.intro (.inr rfl) h)
      simp [go_sem, Tryz.results147])
  · intro hc; try simp at hc
    all_goals try (exfalso; simp at hc; done)
    all_goals (
      refine AW.skipN (fun _ h => h) ?_
      refine AW.reg tiOk (fun _ => []) [2] ?_
      intro k hk; simp -dsimp [go_sem, -decide_eq_true_eq, -decide_eq_false_iff_not]
      repeat' (first | refine And.intro ?_ ?_ | refine hk _ ?_ | intro hg | omega | exact True.intro)
      all_goals clear hk k
      refine AW.retF (ow := [1000]) (muts := []) ?_ (fun h => And.intro (.inr rfl) h)
      simp [go_sem, Tryz.results147])
theorem dc_CloneN (l : List TNode) (hb : l.length ≤ 1048576) : DC Tryz.prog 147 [.isl 4 (l.map TNode.ro)] (owc 4 (l.map TNode.ro)) [] := by
  cases l with
  | nil => exact dc_CloneN_nil
  | cons x r => exact dc_CloneN_c x r hb

end Go.AM

