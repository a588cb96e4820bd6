/- Joined texts: Pe Pf Pg Ph Pi Pso Db2 Dc2 Pdt Po Pp Pr Pt2 De Dg Dh. -/
import Derived.Test.YtijoeghjkklaaaaB1
import Derived.Test.YtijoeghjkklaaaaB2
import Derived.Test.YtijoeghjkklaaaaB3
import Derived.Test.YtijoeghjkklaaaaB4
import Derived.Test.YtijoeghjkklaaaaB5
import Derived.Test.YtijoeghjkklaaaaB6
set_option linter.unusedVariables false
set_option linter.unusedSimpArgs false
namespace Go.AM
attribute [go_sem] renS AV.ren renL
theorem sc_first {f : Nat → Int} {n : Nat} (i j : Nat) (hj : j ≤ i) (hi : i < n) (h0 : ∀ k, j ≤ k → k < i → f k = 0) (hne : f i ≠ 0) : sc f n j = f i := by
 have key : ∀ m j, i - j = m → j ≤ i → (∀ k, j ≤ k → k < i → f k = 0) → sc f n j = f i := by
  intro m
  induction m with
  | zero =>
   intro j h1 h2 _
   obtain rfl : j = i := by omega
   exact sc_hit hi hne
  | succ m ih =>
   intro j h1 h2 h3
   rw [sc_go (by omega) (h3 j (Nat.le_refl _) (by omega))]
   exact ih (j + 1) (by omega) (by omega) fun k h4 h5 => h3 k (by omega) h5
 exact key _ j rfl hj h0
theorem sc_none {f : Nat → Int} {n : Nat} (h : ∀ k, k < n → f k = 0) : sc f n 0 = 0 := by
 have key : ∀ m i, n - i = m → sc f n i = 0 := by
  intro m
  induction m with
  | zero => intro i hi; exact sc_end (by omega)
  | succ m ih => intro i hi; rw [sc_go (by omega) (h i (by omega))]; exact ih _ (by omega)
 exact key _ 0 rfl
theorem upto {f : Nat → Int} {i : Nat} (h : ∀ k, k < i → f k = 0) (h0 : f i = 0) : ∀ k, k < i + 1 → f k = 0 := by
 intro k hk
 rcases Nat.eq_or_lt_of_le (Nat.le_of_lt_succ hk) with rfl | hk
 ·exact h0
 ·exact h k hk
theorem nA_at {e : List TNode} {i : Nat} {x : TNode} (h : e[i]? = some x) : nA e i = x := by simp [nA, List.getD, h]
theorem nodeAt_at {e : List TNode} {i : Nat} {x : TNode} (h : e[i]? = some x) : nodeAt e i = nodeF x i := by rw [nodeAt, nA_at h]
theorem exprF_len {e : List TNode} (h : inR e.length 1 16 = false) : exprF e = 2 := by rw [exprF, if_pos h]
theorem exprF_len' {e : List TNode} (h : e.length < 1 ∨ 16 < e.length) : exprF e = 2 := exprF_len (inR_not.2 (by omega))
theorem exprF_node {e : List TNode} {i : Nat} (hR : inR e.length 1 16 = true) (hi : i < e.length) (h : ∀ k, k < i → nodeAt e k = 0) (hne : nodeAt e i ≠ 0) : exprF e = nodeAt e i := by
 have hs := sc_first i 0 (Nat.zero_le _) hi (fun k _ hk => h k hk) hne
 rw [exprF, if_neg (by rw [hR]; decide), hs, if_pos hne]
theorem exprF_end {e : List TNode} (hR : inR e.length 1 16 = true) (h : ∀ k, k < e.length → nodeAt e k = 0) : exprF e = if wrongU e e.length = true ∨ szA e (e.length - 1) ≠ e.length then 1 else 0 := by
 rw [exprF, if_neg (by rw [hR]; decide), sc_none h, if_neg (by decide)]
theorem sizesL_at {e : List TNode} {i j : Nat} (h : j < i) : (sizesL e i)[j]? = some (szA e j) := by
 have h1 := sizesL_get e j i h
 have h2 : j < (sizesL e i).length := by rw [sizesL_len]; exact h
 rw [List.getElem?_eq_getElem h2]
 simp only [List.getD, List.getElem?_eq_getElem h2, Option.getD_some] at h1
 rw [h1]
theorem sizesL_succ (e : List TNode) (i : Nat) : sizesL e (i + 1) = sizesL e i ++ [szA e i] := by
 rw [szA_eq]; rfl
theorem szA_at {e : List TNode} {i : Nat} {x : TNode} (h : e[i]? = some x) (hp : nodeF x i = 0) : szA e i = if x.kind = 10 then 1 + szA e x.left.toNat else if isTwoB x.kind then 1 + (szA e x.left.toNat + szA e x.right.toNat) else 1 := by
 have hq := nodeF_parts hp
 rw [szA_eq]
 unfold sizeOf1
 simp only [nA_at h]
 split
 ·rename_i h10
  rw [sizesL_get e _ i (hq.1 h10).2]
 ·split
  ·rename_i h2
   rw [sizesL_get e _ i (hq.2.1 h2).2.1, sizesL_get e _ i (hq.2.1 h2).2.2.2]; omega
  ·rfl
theorem wrongU_at {e : List TNode} {i : Nat} {x : TNode} (h : e[i]? = some x) : wrongU e (i + 1) = (wrongU e i || if x.kind = 10 then decide (x.left ≠ (i : Int) - 1)
  else if isTwoB x.kind then decide (x.right ≠ (i : Int) - 1) || decide (x.left ≠ (i : Int) - 1 - szA e x.right.toNat) else false) := by
 rw [wrongU_step]
 unfold wrong1
 simp only [nA_at h]
theorem not_two {k : Int} (h1 : ¬ isTwoB k = true) (h2 : k ≠ 10) (h3 : 1 ≤ k) (h4 : k ≤ 10) : k ≤ 2 := by
 have : isTwoB k = false := by simpa using h1
 rw [isTwoB, inR_not] at this; omega
theorem left_of {x : TNode} {i : Nat} (h : nodeF x i = 0) (h2 : 2 < x.kind) : 0 ≤ x.left ∧ x.left.toNat < i := by
 have hq := nodeF_parts h
 by_cases h10 : x.kind = 10
 ·exact hq.1 h10
 ·by_cases h3 : isTwoB x.kind = true
  ·exact ⟨(hq.2.1 h3).1, (hq.2.1 h3).2.1⟩
  ·have := not_two h3 h10 hq.2.2.1 hq.2.2.2.1; omega
theorem upto_at {l : List Nat} {i y : Nat} (h : ∀ k, k < i → l[k]? = some k) (hy : l[i]? = some y) (e : y = i) : ∀ k, k < i + 1 → l[k]? = some k := by
 intro k hk
 rcases Nat.eq_or_lt_of_le (Nat.le_of_lt_succ hk) with rfl | hk
 ·rw [hy, e]
 ·exact h k hk
def typesL (e : List TNode) (i : Nat) : List Int := (List.range i).map fun j => ownT (nA e j).kind
theorem typesL_len (e : List TNode) (i : Nat) : (typesL e i).length = i := by simp [typesL]
theorem typesL_at {e : List TNode} {i j : Nat} (h : j < i) : (typesL e i)[j]? = some (ownT (nA e j).kind) := by simp [typesL, h]
theorem typesL_succ (e : List TNode) (i : Nat) : typesL e (i + 1) = typesL e i ++ [ownT (nA e i).kind] := by simp [typesL, List.range_succ]
theorem exprF_zero {e : List TNode} (h : exprF e = 0) : inR e.length 1 16 = true ∧ PartsOk e e.length := by
 unfold exprF at h
 split at h
 ·cases h
 split at h
 ·exact absurd h (by assumption)
 ·rename_i h1 h2
  exact ⟨by simpa using h1, sc_all (by simpa using h2)⟩
theorem typC_f {e : List TNode} (h : exprF e ≠ 0) : typC e = exprF e ∧ typV e = 0 := by
 have h1 : typC e = exprF e := by rw [typC, if_pos h]
 exact ⟨h1, by rw [typV, h1, if_pos h]⟩
theorem typC_b {e : List TNode} (h : exprF e = 0) (hu : typU e e.length = true) : typC e = 7 ∧ typV e = 0 := by
 have h1 : typC e = 7 := by rw [typC, if_neg (by simp [h]), if_pos hu]
 exact ⟨h1, by rw [typV, h1, if_pos (by decide)]⟩
theorem typC_k {e : List TNode} (h : exprF e = 0) (hu : typU e e.length = false) : typC e = 0 ∧ typV e = ownT (nA e (e.length - 1)).kind := by
 have h1 : typC e = 0 := by rw [typC, if_neg (by simp [h]), if_neg (by simp [hu])]
 exact ⟨h1, by rw [typV, h1, if_neg (by decide)]⟩
theorem typU_hit {e : List TNode} {i : Nat} (hi : i < e.length) (h : typBad e i = true) : typU e e.length = true := typU_mono (show i + 1 ≤ e.length by omega) (by rw [typU_step, h]; simp)
theorem typU_go {e : List TNode} {i : Nat} (hu : typU e i = false) (h : typBad e i = false) : typU e (i + 1) = false := by rw [typU_step, hu, h]; rfl
def N1 (n : Nat) : List AV := [.int .i64 (n : Int)]
@[go_sem] theorem N1_eq (n : Nat) : N1 n = [.int .i64 (n : Int)] := rfl
@[go_sem] theorem N1_un (x : Nat) : (N1 x).map unown = N1 x := rfl
@[go_sem high] theorem N1_unL (l : List _) : unownLL (l.map N1) = l.map N1 := unownLL_map N1_un l
@[go_sem high] theorem N1_unM (l : List _) : (l.map N1).map (List.map unown) = l.map N1 := mapun N1_un l
@[go_sem] theorem N1_ownd (x) : owndL (N1 x) = true := by simp [N1, go_sem]
@[go_sem high] theorem N1_owndL (l : List _) : owndLL (l.map N1) = true := owndLL_map N1_ownd l
@[go_sem] theorem N1_ids (x) : idsL (N1 x) = [] := by simp [N1, go_sem]
@[go_sem high] theorem N1_idsL (l : List _) : (l.map N1).flatMap idsL = [] := flatids N1_ids l
theorem N1_tree (a) : ∀ x ∈ N1 a, x.tree = true := by simp [N1, go_sem]
@[go_sem high] theorem N1_treeL (l : List _) : (∀ c ∈ l.map N1, ∀ x ∈ c, AV.tree x = true) ↔ True := maptree N1_tree l
@[go_sem ↓ high] theorem tree_appE (a b : List (List AV)) : (∀ c ∈ a ++ b, ∀ x ∈ c, AV.tree x = true) ↔ (∀ c ∈ a, ∀ x ∈ c, AV.tree x = true) ∧ (∀ c ∈ b, ∀ x ∈ c, AV.tree x = true) := List.forall_mem_append
attribute [go_sem ↓ high] N1_treeL I1_treeL
theorem walkC_len {e : List TNode} : ∀ (f i : Nat) (out : List Nat), (walkC e f i out).length ≤ max out.length (17 + f) := by
 intro f
 induction f with
 | zero => intro i out; simp only [walkC]; omega
 | succ f ih =>
  intro i out
  simp only [walkC]
  split
  ·omega
  ·simp only [List.length_append, List.length_cons, List.length_nil]
   have h1 : (if 2 < (nA e i).kind then walkC e f (nA e i).left.toNat out else out).length ≤ 17 + f := by
    split
    ·have := ih (nA e i).left.toNat out; omega
    ·omega
   generalize (if 2 < (nA e i).kind then walkC e f (nA e i).left.toNat out else out) = o1 at *
   split
   ·have := ih (nA e i).right.toNat o1; omega
   ·omega
theorem wkF_len {e : List TNode} {i : Nat} {out : List Nat} (h : out.length ≤ 40) (hi : i < 17) : (wkF e i out).length ≤ 40 := by
 have := walkC_len (e := e) (i + 1) i out
 unfold wkF; omega
theorem wk_ne_len {l : List Nat} {n : Nat} (h : l.length ≠ n) : l ≠ List.range n := by rintro rfl; simp at h
theorem wk_ne_at {l : List Nat} {n i y : Nat} (h : l[i]? = some y) (hy : y ≠ i) : l ≠ List.range n := by
 rintro rfl
 obtain ⟨h1, h2⟩ := List.getElem?_eq_some_iff.1 h
 simp at h2; omega
theorem wk_eq {l : List Nat} {n : Nat} (hl : l.length = n) (h : ∀ k, k < l.length → l[k]? = some k) : l = List.range n := by
 apply List.ext_getElem?
 intro k
 by_cases hk : k < l.length
 ·rw [h k hk, List.getElem?_range (by omega)]
 ·rw [List.getElem?_eq_none (by omega), List.getElem?_eq_none (by simp; omega)]
theorem exprF_wk {e : List TNode} (hR : inR e.length 1 16 = true) (h : ∀ k, k < e.length → nodeAt e k = 0) : exprF e = if wkF e (e.length - 1) [] = List.range e.length then 0 else 1 := by
 have hl := inR_iff.1 hR
 rw [exprF_end hR h]
 have hw := wk_iff (e := e) (n := e.length) h (by omega) (by omega)
 by_cases h1 : wkF e (e.length - 1) [] = List.range e.length
 ·have h2 := hw.1 h1
  rw [if_pos h1, if_neg (by rintro (h3 | h3) <;> simp_all)]
 ·rw [if_neg h1, if_pos]
  by_cases h3 : wrongU e e.length = true
  ·exact Or.inl h3
  ·exact Or.inr fun h4 => h1 (hw.2 ⟨by simpa using h3, h4⟩)
end Go.AM
namespace Go.AM
theorem nS_at {p : List TStep} {i : Nat} {x : TStep} (h : p[i]? = some x) : nS p i = x := by simp [nS, List.getD, h]
@[go_sem high] theorem nlc_snoc (es : Nat) (l : List (List AV)) (c : List AV) : nlc es (l ++ [c]) = .osl es (l ++ [c]) := nlc_ne (by simp)
theorem nlc_map {α : Type} {f : α → List AV} {l : List α} (h : l ≠ []) (es : Nat) : nlc es (l.map f) = .osl es (l.map f) := nlc_ne (by simpa using h)
def nxtL (l : List Int) (par : Int) : List Int := if parF l par = 0 then l ++ [par] else l
def nxtD (l d : List Int) (par : Int) : List Int := if parF l par = 0 then d ++ [if 0 ≤ par then d.getD par.toNat 0 + 1 else 1] else d
def depsOf (l : List Int) : List Int := (List.range l.length).map fun (k : Nat) => dep l k
theorem depsOf_len (l : List Int) : (depsOf l).length = l.length := by simp [depsOf]
theorem depsOf_at {l : List Int} {k : Nat} (h : k < l.length) : (depsOf l)[k]? = some (dep l k) := by simp [depsOf, h]
theorem depsOf_get {l : List Int} {k : Nat} (h : k < l.length) : (depsOf l).getD k 0 = dep l k := by rw [List.getD, depsOf_at h]; rfl
theorem getD_last (l : List Int) (x : Int) : (l ++ [x]).getD l.length 0 = x := by simp [List.getD]
theorem dep_new {l : List Int} (hl : ParOk l) {par : Int} (h1 : -1 ≤ par) (h2 : par < l.length) : dep (l ++ [par]) l.length = if 0 ≤ par then dep l par + 1 else 1 := by
 rw [dep_eq (hl.snoc h1 h2) (Int.natCast_nonneg _) (by simp; omega), Int.toNat_natCast, getD_last]
 split
 ·rw [dep_snoc hl (par.toNat + 1) par (by omega) h2 h1 h2]; omega
 ·rw [dep_neg (by omega)]; rfl
theorem nxtD_deps {l : List Int} (hl : ParOk l) {par : Int} (h : parF l par = 0) : nxtD l (depsOf l) par = depsOf (l ++ [par]) := by
 obtain ⟨h1, h2, _⟩ := parF_ok h
 have hn := dep_new hl h1 h2
 rw [nxtD, if_pos h]
 conv => rhs; unfold depsOf
 rw [List.length_append, List.length_singleton, List.range_succ, List.map_append]
 congr 1
 ·unfold depsOf
  apply List.map_congr_left
  intro k hk
  rw [List.mem_range] at hk
  exact (dep_snoc hl (k + 1) k (by omega) (by omega) h1 h2).symm
 ·rw [List.map_singleton, hn]
  congr 1
  split
  ·rw [depsOf_get (by omega)]
   rw [show ((par.toNat : Nat) : Int) = par by omega]
  ·rfl
theorem nxtD_app {l : List Int} (hl : ParOk l) {par : Int} (h : parF l par = 0) : nxtD l (depsOf l) par = depsOf l ++ [dep (l ++ [par]) l.length] := by
 obtain ⟨h1, h2, _⟩ := parF_ok h
 rw [nxtD, if_pos h, dep_new hl h1 h2]
 congr 2
 split
 ·rw [depsOf_get (by omega), show ((par.toNat : Nat) : Int) = par by omega]
 ·rfl
theorem nxtL_app {l : List Int} {par : Int} (h : parF l par = 0) : nxtL l par = l ++ [par] := if_pos h
@[go_sem] theorem unownLL_append (a b : List (List AV)) : unownLL (a ++ b) = unownLL a ++ unownLL b := by simp [unownLL_eq]
theorem stepF_good {l : List Int} {s : TStep} (h1 : inR s.kind 1 8 = true) (h2 : alien s = false) (h3 : parF l s.par = 0) : stepF l s = if 7 < dep (l ++ [s.par]) l.length then 2 else if s.kind = 2 then nameF s.name else if s.arg < lowA s.kind ∨ highA s.kind < s.arg then 3 else if s.kind = 7 then exprF s.expr else 0 := by
 have := inR_iff.1 h1
 unfold stepF
 rw [if_neg (by rw [h2]; simp; omega), if_neg (by simp [h3])]
theorem dep_small {l : List Int} (hl : ParOk l) {a : Int} (h : a < l.length) : 0 ≤ dep l a ∧ dep l a ≤ l.length := by
 have := dep_bd hl (a + 1).toNat.succ a (by omega) h
 by_cases h0 : 0 ≤ a
 ·have := this.2 h0; omega
 ·rw [dep_neg (by omega)]; omega
theorem parF_not3 {l : List Int} {par : Int} (h0 : 0 < l.length) (h : ¬ parF l par = 3) : 0 ≤ par ∧ par < l.length := by
 unfold parF at h
 split at h
 ·exact absurd rfl h
 ·omega
theorem kidU_not {p : List TStep} {a : Int} {i : Nat} {x : TStep} (hx : p[i]? = some x) (h : ¬ (0 < i ∧ x.par = a)) : kidU p a (i + 1) = kidU p a i := by
 rw [kidU_step, nS_at hx, if_neg h, List.append_nil]
theorem kidU_yes {p : List TStep} {a : Int} {i : Nat} {x : TStep} (hx : p[i]? = some x) (h : 0 < i ∧ x.par = a) : kidU p a (i + 1) = kidU p a i ++ [(i : Int)] := by
 rw [kidU_step, nS_at hx, if_pos h]
theorem kids_len (p : List TStep) (a : Int) : (kids p a).length ≤ p.length := kidU_len p a p.length
theorem kids_end {p : List TStep} {a : Int} {i : Nat} (h : i = p.length) : kidU p a i = kids p a := by rw [h]; rfl
theorem last_at {l : List Int} (h : l ≠ []) : l[l.length - 1]? = some (lastI l) := by
 have : l.length - 1 < l.length := by have := List.length_pos_iff.2 h; omega
 rw [lastI, List.getD, List.getElem?_eq_getElem this]; rfl
structure StepsOk (p : List TStep) : Prop where
 len : 1 ≤ p.length ∧ p.length ≤ 24
 one : ∀ i, i < p.length → oneF p i = 0
theorem StepsOk.par {p : List TStep} (h : StepsOk p) : ParOk (pars p) := by
 have := ones_ok p.length (Nat.le_refl _) h.one
 rwa [List.take_of_length_le (by rw [pars_len]; exact Nat.le_refl _)] at this
theorem StepsOk.par0 {p : List TStep} (h : StepsOk p) : (nS p 0).par = -1 := by
 have h1 := parF_ok (stepF_par (h.one 0 (by have := h.len; omega)))
 simp at h1; omega
theorem StepsOk.parI {p : List TStep} (h : StepsOk p) {i : Nat} (h0 : 0 < i) (hi : i < p.length) : 0 ≤ (nS p i).par ∧ (nS p i).par < i := by
 have h1 := parF_ok (stepF_par (h.one i hi))
 have hl : ((pars p).take i).length = i := by rw [List.length_take, pars_len]; omega
 rw [hl] at h1
 exact ⟨h1.2.2 h0, h1.2.1⟩
theorem StepsOk.kids_ne {p : List TStep} (h : StepsOk p) {i : Nat} (h0 : 0 < i) (hi : i < p.length) : kids p (nS p i).par ≠ [] := by
 intro e
 have : (i : Int) ∈ kids p (nS p i).par := kids_mem.2 ⟨i, rfl, h0, hi, rfl⟩
 rw [e] at this; cases this
theorem procF_len {p : List TStep} (h : inR p.length 1 24 = false) : procF p = 2 := by rw [procF, if_pos h]
theorem procF_len' {p : List TStep} (h : p.length < 1 ∨ 24 < p.length) : procF p = 2 := procF_len (inR_not.2 (by omega))
theorem procF_one {p : List TStep} {i : Nat} (hR : inR p.length 1 24 = true) (hi : i < p.length) (h : ∀ k, k < i → oneF p k = 0) (hne : oneF p i ≠ 0) : procF p = oneF p i := by
 have hs := sc_first i 0 (Nat.zero_le _) hi (fun k _ hk => h k hk) hne
 rw [procF, if_neg (by rw [hR]; decide), hs, if_pos hne]
theorem procF_shape {p : List TStep} {i : Nat} (hR : inR p.length 1 24 = true) (h1 : ∀ k, k < p.length → oneF p k = 0) (hi : i < p.length) (h : ∀ k, k < i → shapeF p k = 0) (hne : shapeF p i ≠ 0) : procF p = shapeF p i := by
 have hs := sc_first i 0 (Nat.zero_le _) hi (fun k _ hk => h k hk) hne
 rw [procF, if_neg (by rw [hR]; decide), sc_none h1, if_neg (by decide), hs, if_pos hne]
theorem procF_ty {p : List TStep} {i : Nat} (hR : inR p.length 1 24 = true) (h1 : ∀ k, k < p.length → oneF p k = 0) (h2 : ∀ k, k < p.length → shapeF p k = 0) (hi : i < p.length) (h : ∀ k, k < i → tyF p k = 0) (hne : tyF p i ≠ 0) : procF p = tyF p i := by
 have hs := sc_first i 0 (Nat.zero_le _) hi (fun k _ hk => h k hk) hne
 rw [procF, if_neg (by rw [hR]; decide), sc_none h1, if_neg (by decide), sc_none h2, if_neg (by decide), hs]
theorem procF_ok {p : List TStep} (hR : inR p.length 1 24 = true) (h1 : ∀ k, k < p.length → oneF p k = 0) (h2 : ∀ k, k < p.length → shapeF p k = 0) (h3 : ∀ k, k < p.length → tyF p k = 0) : procF p = 0 := by
 rw [procF, if_neg (by rw [hR]; decide), sc_none h1, if_neg (by decide), sc_none h2, if_neg (by decide), sc_none h3]
theorem shape_sc {p : List TStep} {i : Nat} (hi : i < p.length) (h : ∀ k, k < i → shapeF p k = 0) (hne : shapeF p i ≠ 0) : sc (shapeF p) p.length 0 = shapeF p i := sc_first i 0 (Nat.zero_le _) hi (fun k _ hk => h k hk) hne
theorem procF_shape' {p : List TStep} (hR : inR p.length 1 24 = true) (h1 : ∀ k, k < p.length → oneF p k = 0) (hne : sc (shapeF p) p.length 0 ≠ 0) : procF p = sc (shapeF p) p.length 0 := by
 rw [procF, if_neg (by rw [hR]; decide), sc_none h1, if_neg (by decide), if_pos hne]
theorem oneF_at {p : List TStep} {i : Nat} {x : TStep} (h : p[i]? = some x) : oneF p i = stepF ((pars p).take i) x := by rw [oneF, nS_at h]
theorem take_len {p : List TStep} {i : Nat} (h : i ≤ p.length) : ((pars p).take i).length = i := by rw [List.length_take, pars_len]; omega
theorem take_next {p : List TStep} {i : Nat} {x : TStep} (h : p[i]? = some x) : (pars p).take (i + 1) = (pars p).take i ++ [x.par] := by
 rw [pars_take (at_lt h), nS_at h]
def parsT (p : List TStep) (i : Nat) : List Int := (pars p).take i
theorem parsT_zero (p : List TStep) : parsT p 0 = [] := by simp [parsT]
theorem parsT_len {p : List TStep} {i : Nat} (h : i ≤ p.length) : (parsT p i).length = i := take_len h
theorem parsT_next {p : List TStep} {i : Nat} {x : TStep} (h : p[i]? = some x) : parsT p (i + 1) = parsT p i ++ [x.par] := take_next h
theorem oneF_T {p : List TStep} {i : Nat} {x : TStep} (h : p[i]? = some x) : oneF p i = stepF (parsT p i) x := oneF_at h
theorem ones_T {p : List TStep} {i : Nat} (hi : i ≤ p.length) (h : ∀ k, k < i → oneF p k = 0) : ParOk (parsT p i) := ones_ok i hi h
theorem tyF_at {p : List TStep} {i : Nat} {x : TStep} (h : p[i]? = some x) : tyF p i = if typF x.cond 2 ≠ 0 then typF x.cond 2 else typF x.expr 1 := by rw [tyF, nS_at h]
theorem pars_at {p : List TStep} {i : Nat} {x : TStep} (h : p[i]? = some x) {m : Nat} (hm : i < m) : ((pars p).take m).getD i 0 = x.par := by
 simp [pars, List.getD, List.getElem?_take, hm, h]
end Go.AM
namespace Go.AM
theorem kids_bd {p : List TStep} {a k : Int} (h : k ∈ kids p a) : 0 ≤ k ∧ k.toNat < p.length := by
 obtain ⟨m, rfl, h1, h2, h3⟩ := kids_mem.1 h
 exact ⟨by omega, by omega⟩
theorem ProcOk.steps {p : List TStep} (h : ProcOk p) : StepsOk p := ⟨h.len, h.one⟩
end Go.AM
namespace Go.AM
@[go_sem high] theorem I1_compR : (fun x => List.map unown x) ∘ I1 = I1 := rfl
@[go_sem high] theorem TNode_compR : (fun x => List.map unown x) ∘ TNode.ro = TNode.ro := by funext x; simp [TNode_ro_un]
end Go.AM
namespace Go.AM
def cmpI (a b : Int) : Int := if a < b then -1 else if b < a then 1 else 0
end Go.AM
namespace Go.AM
section
variable {α : Type} (key : α → Int)
def srt (l : List α) : List α := l.foldl (putK key) []
variable {key}
theorem srt_ord (l : List α) : Ord key (srt key l) := (puts_ord l [] List.Pairwise.nil).1
theorem srt_of (l : List α) (k : Int) : ofK key k (srt key l) = ofK key k l := by rw [srt, (puts_ord l [] List.Pairwise.nil).2]; rfl
theorem srt_one {l m : List α} (h : Ord key m) (hk : ∀ k, ofK key k m = ofK key k l) : m = srt key l := stable_puts h hk
theorem srt_self {l : List α} (h : Ord key l) : srt key l = l := (srt_one h fun _ => rfl).symm
theorem srt_snoc (l : List α) (x : α) : srt key (l ++ [x]) = putK key (srt key l) x := by simp [srt, List.foldl_append]
theorem put_perm (l : List α) (x : α) : (putK key l x).Perm (x :: l) := by
 have h : (x :: (l.takeWhile (fun y => decide (key y ≤ key x)) ++ l.dropWhile (fun y => decide (key y ≤ key x)))).Perm (x :: l) := by rw [List.takeWhile_append_dropWhile]
 exact (List.perm_middle).trans h
theorem puts_perm : ∀ (l acc : List α), (l.foldl (putK key) acc).Perm (acc ++ l)
 | [], acc => by simp
 | x :: r, acc => by
  refine (puts_perm r (putK key acc x)).trans ?_
  refine ((put_perm acc x).append_right r).trans ?_
  exact (List.perm_middle (l₁ := acc) (l₂ := r) (a := x)).symm
theorem srt_perm (l : List α) : (srt key l).Perm l := by simpa [srt] using puts_perm (key := key) l []
theorem srt_len (l : List α) : (srt key l).length = l.length := (srt_perm l).length_eq
theorem put_map {β : Type} (g : β → α) (l : List β) (x : β) : putK key (l.map g) (g x) = (putK (fun b => key (g b)) l x).map g := by
 unfold putK
 rw [List.takeWhile_map, List.dropWhile_map, List.map_append, List.map_cons]
 rfl
theorem srt_map {β : Type} (g : β → α) (l : List β) : srt key (l.map g) = (srt (fun b => key (g b)) l).map g := by
 have h : ∀ (l acc : List β), (l.map g).foldl (putK key) (acc.map g) = (l.foldl (putK fun b => key (g b)) acc).map g := by
  intro l
  induction l with
  | nil => intro acc; rfl
  | cons x l ih => intro acc; simp only [List.map_cons, List.foldl_cons]; rw [put_map, ih]
 exact h l []
theorem ord_nil : Ord key ([] : List α) := List.Pairwise.nil
theorem ord_sing (x : α) : Ord key [x] := List.pairwise_singleton _ x
theorem put_mid {U W : List α} {x : α} (h : Ord key (U ++ W)) (h1 : ∀ y ∈ U, key y ≤ key x) (h2 : ∀ y ∈ W, key x < key y) : putK key (U ++ W) x = U ++ x :: W := by
 obtain ⟨a, b, c⟩ := ord_app.1 h
 refine ord_one _ _ (put_ord h x) ?_ fun k => ?_
 ·refine ord_app.2 ⟨a, List.pairwise_cons.2 ⟨fun y hy => by have := h2 y hy; omega, b⟩, fun u hu v hv => ?_⟩
  rcases List.mem_cons.1 hv with e | e
  ·rw [e]; exact h1 u hu
  ·exact c u hu v e
 ·rw [put_of h, ofK_append, ofK_append, ofK_cons]
  split
  ·rename_i hk
   have hd : ofK key k W = [] := by
    unfold ofK
    rw [List.filter_eq_nil_iff]
    intro y hy
    have := h2 y hy
    simp; omega
   rw [hd]; simp
  ·simp
theorem snocc (U : List α) : U = [] ∨ ∃ U' y, U = U' ++ [y] := by
 rcases List.eq_nil_or_concat U with h | ⟨U', y, h⟩
 ·exact Or.inl h
 ·exact Or.inr ⟨U', y, by simpa using h⟩
theorem ord_last {U : List α} {y : α} (h : Ord key (U ++ [y])) : ∀ z ∈ U ++ [y], key z ≤ key y := by
 intro z hz
 obtain ⟨_, _, c⟩ := ord_app.1 h
 rcases List.mem_append.1 hz with e | e
 ·exact c z e y (List.mem_singleton.2 rfl)
 ·rw [List.mem_singleton.1 e]; exact Int.le_refl _
theorem srt_head {B1 B2 : List α} {x : α} (h : Ord key (B1 ++ B2)) (h1 : ∀ y ∈ B1, key y < key x) (h2 : ∀ y ∈ B2, key x ≤ key y) : srt key ([x] ++ (B1 ++ B2)) = B1 ++ x :: B2 := by
 obtain ⟨a, b, c⟩ := ord_app.1 h
 refine (srt_one ?_ fun k => ?_).symm
 ·refine ord_app.2 ⟨a, List.pairwise_cons.2 ⟨h2, b⟩, fun u hu v hv => ?_⟩
  rcases List.mem_cons.1 hv with e | e
  ·rw [e]; have := h1 u hu; omega
  ·exact c u hu v e
 ·have := rot_in (key := key) (p := []) (a := [x]) (b := B1) (q := B2) (by intro z hz y hy; rw [List.mem_singleton.1 hz]; exact h1 y hy) k
  simpa using this
theorem srt_tail {A1 A2 : List α} {y : α} (h : Ord key (A1 ++ A2)) (h1 : ∀ x ∈ A1, key x ≤ key y) (h2 : ∀ x ∈ A2, key y < key x) : srt key (A1 ++ A2 ++ [y]) = A1 ++ y :: A2 := by
 rw [srt_snoc, srt_self h, put_mid h h1 h2]
theorem srt_half {A1 A2 B1 B2 : List α} (hA : Ord key (A1 ++ A2)) (hB : Ord key (B1 ++ B2)) (h1 : ∀ x ∈ A1, ∀ y ∈ B2, key x ≤ key y) (h2 : ∀ x ∈ A2, ∀ y ∈ B1, key y < key x) :
  srt key (A1 ++ A2 ++ (B1 ++ B2)) = srt key (A1 ++ B1) ++ srt key (A2 ++ B2) := by
 obtain ⟨a1, a2, a3⟩ := ord_app.1 hA
 obtain ⟨b1, b2, b3⟩ := ord_app.1 hB
 refine (srt_one ?_ fun k => ?_).symm
 ·refine ord_app.2 ⟨srt_ord _, srt_ord _, fun u hu v hv => ?_⟩
  rcases List.mem_append.1 ((srt_perm _).mem_iff.1 hu) with e | e <;> rcases List.mem_append.1 ((srt_perm _).mem_iff.1 hv) with e2 | e2
  ·exact a3 u e v e2
  ·exact h1 u e v e2
  ·have := h2 v e2 u e; omega
  ·exact b3 u e v e2
 ·rw [ofK_append, srt_of, srt_of, ← ofK_append]
  have := rot_in (key := key) (p := A1) (a := A2) (b := B1) (q := B2) (fun x hx y hy => h2 x hx y hy) k
  simpa using this
end
theorem sw_adj {α : Type} (R1 R2 : List α) (y x : α) : ((R1 ++ y :: x :: R2).set (R1.length + 1) y).set R1.length x = R1 ++ x :: y :: R2 := by
 rw [List.set_append, if_neg (by omega)]
 simp [List.set_append]
theorem sw_adj2 {α : Type} (R1 R2 : List α) (y x : α) : ((R1 ++ y :: x :: R2).set R1.length x).set (R1.length + 1) y = R1 ++ x :: y :: R2 := by
 simp [List.set_append]
theorem at_mid1 {α : Type} (R1 R2 : List α) (y x : α) : (R1 ++ y :: x :: R2)[R1.length + 1]? = some x := by
 rw [List.getElem?_append_right (by omega)]; simp
theorem sw_far {α : Type} (R1 R2 R3 : List α) (x z : α) : ((R1 ++ x :: R2 ++ z :: R3).set R1.length z).set (R1.length + 1 + R2.length) x = R1 ++ z :: R2 ++ x :: R3 := by
 have e : R1.length + 1 + R2.length = (R1 ++ z :: R2).length := by simp; omega
 rw [e]
 have h1 : (R1 ++ x :: R2 ++ z :: R3).set R1.length z = R1 ++ z :: R2 ++ z :: R3 := by simp [List.set_append]
 rw [h1, List.set_append, if_neg (by omega)]
 simp
theorem at_far {α : Type} (R1 R2 R3 : List α) (x z : α) : (R1 ++ x :: R2 ++ z :: R3)[R1.length + 1 + R2.length]? = some z := by
 have e : R1.length + 1 + R2.length = (R1 ++ x :: R2).length := by simp; omega
 rw [e]; simp
def swR {α : Type} (P X Y Z Q : List α) (i : Nat) : List α := P ++ (Z.take i ++ X.drop i) ++ Y ++ (X.take i ++ Z.drop i) ++ Q
theorem swR_zero {α : Type} (P X Y Z Q : List α) : swR P X Y Z Q 0 = P ++ X ++ Y ++ Z ++ Q := by simp [swR]
theorem swR_end {α : Type} (P X Y Z Q : List α) (h : Z.length = X.length) : swR P X Y Z Q X.length = P ++ Z ++ Y ++ X ++ Q := by
 unfold swR
 rw [List.take_of_length_le (by omega), List.drop_of_length_le (Nat.le_refl _), List.take_length, List.drop_of_length_le (l := Z) (by omega)]; simp
theorem swR_len {α : Type} (P X Y Z Q : List α) (i : Nat) (h : Z.length = X.length) (hi : i ≤ X.length) : (swR P X Y Z Q i).length = P.length + X.length + Y.length + X.length + Q.length := by
 unfold swR; simp; omega
theorem swR_form {α : Type} {P X Y Z Q : List α} {i : Nat} {x z : α} (hx : X[i]? = some x) (hz : Z[i]? = some z) :
  swR P X Y Z Q i = (P ++ Z.take i) ++ x :: (X.drop (i + 1) ++ Y ++ X.take i) ++ z :: (Z.drop (i + 1) ++ Q) ∧
  swR P X Y Z Q (i + 1) = (P ++ Z.take i) ++ z :: (X.drop (i + 1) ++ Y ++ X.take i) ++ x :: (Z.drop (i + 1) ++ Q) := by
 obtain ⟨h1, e1⟩ := List.getElem?_eq_some_iff.1 hx
 obtain ⟨h2, e2⟩ := List.getElem?_eq_some_iff.1 hz
 have d1 : X.drop i = x :: X.drop (i + 1) := by rw [List.drop_eq_getElem_cons h1, e1]
 have d2 : Z.drop i = z :: Z.drop (i + 1) := by rw [List.drop_eq_getElem_cons h2, e2]
 have t1 : X.take (i + 1) = X.take i ++ [x] := by rw [List.take_add_one, hx]; rfl
 have t2 : Z.take (i + 1) = Z.take i ++ [z] := by rw [List.take_add_one, hz]; rfl
 unfold swR
 rw [d1, d2, t1, t2]
 simp
theorem swR_step {α : Type} {P X Y Z Q : List α} {i : Nat} {x z : α} (hx : X[i]? = some x) (hz : Z[i]? = some z) {s t : Nat} (hs : s = P.length + i) (ht : t = P.length + X.length + Y.length + i) :
  (swR P X Y Z Q i)[s]? = some x ∧ (swR P X Y Z Q i)[t]? = some z ∧ ((swR P X Y Z Q i).set s z).set t x = swR P X Y Z Q (i + 1) := by
 obtain ⟨f1, f2⟩ := swR_form (P := P) (Y := Y) (Q := Q) hx hz
 obtain ⟨h1, e1⟩ := List.getElem?_eq_some_iff.1 hx
 obtain ⟨h2, e2⟩ := List.getElem?_eq_some_iff.1 hz
 have l1 : (P ++ Z.take i).length = s := by rw [List.length_append, List.length_take]; omega
 have l2 : (P ++ Z.take i).length + 1 + (X.drop (i + 1) ++ Y ++ X.take i).length = t := by simp; omega
 rw [f1, f2]
 have a1 := at_far (P ++ Z.take i) (X.drop (i + 1) ++ Y ++ X.take i) (Z.drop (i + 1) ++ Q) x z
 have a2 := sw_far (P ++ Z.take i) (X.drop (i + 1) ++ Y ++ X.take i) (Z.drop (i + 1) ++ Q) x z
 rw [l2] at a1 a2
 rw [l1] at a2
 refine ⟨?_, a1, a2⟩
 rw [← l1]
 simp
theorem adj_step {α : Type} {C R1 R2 : List α} {y x : α} {s t : Nat} (hC : C = R1 ++ y :: x :: R2) (hs : s = R1.length) (ht : t = R1.length + 1) :
  C[s]? = some y ∧ C[t]? = some x ∧ (C.set t y).set s x = R1 ++ x :: y :: R2 ∧ (C.set s x).set t y = R1 ++ x :: y :: R2 := by
 subst hC hs ht
 exact ⟨by simp, at_mid1 R1 R2 y x, sw_adj R1 R2 y x, sw_adj2 R1 R2 y x⟩
theorem sw_rows {C D : List VF} {s t : Nat} {x z : VF} (h : (C.set s z).set t x = D) : ((C.map VF.row).set s [.int .i64 z.src, .int .i64 z.to, .val z.v]).set t [.int .i64 x.src, .int .i64 x.to, .val x.v] = D.map VF.row := by
 rw [← h, List.map_set, List.map_set]; rfl
theorem gel {α : Type} {l : List α} {i : Nat} {x : α} (h : l[i]? = some x) : ∀ h2, l[i]'h2 = x := fun h2 => by rw [List.getElem?_eq_getElem h2] at h; exact Option.some.inj h
theorem cmpI_neg (a b : Int) : cmpI a b < 0 ↔ a < b := by unfold cmpI; split <;> (try split) <;> first | (simp_all; done) | (simp_all; omega)
theorem ins_zero (A : List VF) : srt VF.src (A.take 1) ++ A.drop 1 = A := by
 cases A with
 | nil => rfl
 | cons x r => rw [srt_self]; rfl; exact ord_sing x
theorem ins_form {A Q : List VF} {n : Nat} {x : VF} (hx : A[n]? = some x) (P : List VF) : P ++ (srt VF.src (A.take n) ++ A.drop n) ++ Q = P ++ srt VF.src (A.take n) ++ x :: (A.drop (n + 1) ++ Q) := by
 obtain ⟨h1, e1⟩ := List.getElem?_eq_some_iff.1 hx
 rw [List.drop_eq_getElem_cons h1, e1]; simp
theorem ins_look {C P U W R : List VF} {x : VF} {a j : Nat} (hC : C = P ++ U ++ x :: (W ++ R)) (ha : a = P.length) (hj : j = P.length + U.length) (hl : C.length ≤ 1048576) :
  (∃ U' y i1, U = U' ++ [y] ∧ a < j ∧ i1 + 1 = j ∧ C[i1]? = some y ∧ C[j]? = some x ∧ (C.set j y).set i1 x = P ++ U' ++ x :: (y :: W ++ R) ∧ IntKind.wrap .i64 ((j : Int) - 1) = ((i1 : Nat) : Int) ∧ (∀ h, C[i1]'h = y) ∧ (∀ h, C[j]'h = x) ∧ i1 < C.length ∧ j < C.length ∧ j ≠ i1) ∨
  (U = [] ∧ ¬ a < j ∧ ∃ (U' : List VF) (y : VF) (i1 : Nat), True ∧ True ∧ True ∧ True ∧ True ∧ True ∧ True ∧ True ∧ True ∧ True) := by
 rcases snocc U with rfl | ⟨U', y, rfl⟩
 ·right
  refine ⟨rfl, by simp at hj; omega, [], x, 0, ?_⟩
  simp
 ·left
  have hlen : C.length = P.length + U'.length + 1 + 1 + (W.length + R.length) := by rw [hC]; simp; omega
  have hC2 : C = (P ++ U') ++ y :: x :: (W ++ R) := by rw [hC]; simp
  simp only [List.length_append, List.length_singleton] at hj
  obtain ⟨g1, g2, g3, _⟩ := adj_step hC2 (s := P.length + U'.length) (t := j) (by simp) (by simp; omega)
  refine ⟨U', y, P.length + U'.length, rfl, by omega, by omega, g1, g2, by rw [g3]; simp, ?_, gel g1, gel g2, by omega, by omega, by omega⟩
  rw [wrap64 (by omega) (by omega)]; omega
theorem ins_out {P U W A Q : List VF} {x : VF} {n : Nat} (hx : A[n]? = some x) (hS : srt VF.src (A.take n) = U ++ W) (h1 : ∀ y ∈ U, y.src ≤ x.src) (h2 : ∀ y ∈ W, x.src < y.src) :
  P ++ U ++ x :: (W ++ (A.drop (n + 1) ++ Q)) = P ++ (srt VF.src (A.take (n + 1)) ++ A.drop (n + 1)) ++ Q := by
 have e : A.take (n + 1) = A.take n ++ [x] := by rw [List.take_add_one, hx]; rfl
 have ho : Ord VF.src (U ++ W) := by rw [← hS]; exact srt_ord _
 rw [e, srt_snoc, hS, put_mid ho h1 h2]; simp
theorem ins_le {U : List VF} {x : VF} (h : Ord VF.src U) (hc : ∀ U' y, U = U' ++ [y] → y.src ≤ x.src) : ∀ y ∈ U, y.src ≤ x.src := by
 rcases snocc U with rfl | ⟨U', y, rfl⟩
 ·intro y hy; cases hy
 ·intro z hz
  have := ord_last h z hz
  have := hc U' y rfl
  omega
end Go.AM
set_option maxHeartbeats 600000
set_option maxRecDepth 100000
namespace Go.AM
open Go.Proofs
set_option maxHeartbeats 4000000 in
theorem dc_spec_l3Draw_i (c : List UInt8) (hcl : c.length ≤ 1048576) (a : Int) (ha : 0 ≤ a ∧ a ≤ 5000000) : DC Try.prog 39 [.op [.isl 1 (c.map B1), .int .i64 a], .int .i64 1] (.osl 4 ((drE c 1 a).1.map TNode.ro)) [(0, .op [.isl 1 (c.map B1), .int .i64 (drE c 1 a).2])] := by
 have hb := nx_bd c (n := 3) ha.1
 have hb2 := hb.2 (by omega)
 have hdl := drE_len c 1 a
 obtain ⟨R, hR⟩ : ∃ Z, drE c 1 a = Z := ⟨_, rfl⟩
 rw [hR] at hdl
 have hcA : nx c a 3 = 2 → DC Try.prog 62 [.op [.isl 1 (c.map B1), .int .i64 (a + 1)], .nils, .int .i64 1, .int .i64 2] (.osl 4 (R.1.map TNode.ro)) [(0, .op [.isl 1 (c.map B1), .int .i64 R.2])] := fun h => by have h2 := dc_mkI c hcl 2 (by omega) (a + 1) [] .nils (Or.inr ⟨rfl, rfl⟩) (by omega) (by omega) (by simp); have h3 : drE c 1 a = mkI c 2 (a + 1) 0 := (by simp [drE, h]); rw [List.nil_append, List.length_nil, ← h3, hR] at h2; exact h2
 have hcB : nx c a 3 ≠ 2 → DC Try.prog 62 [.op [.isl 1 (c.map B1), .int .i64 (a + 1)], .nils, .int .i64 1, .int .i64 1] (.osl 4 (R.1.map TNode.ro)) [(0, .op [.isl 1 (c.map B1), .int .i64 R.2])] := fun h => by have h2 := dc_mkI c hcl 1 (by omega) (a + 1) [] .nils (Or.inr ⟨rfl, rfl⟩) (by omega) (by omega) (by simp); have h3 : drE c 1 a = mkI c 1 (a + 1) 0 := (by rcases (show nx c a 3 = 0 ∨ nx c a 3 = 1 by omega) with h4 | h4 <;> simp [drE, h4]); rw [List.nil_append, List.length_nil, ← h3, hR] at h2; exact h2
 refine DC.intro tiOk Try.func39 rfl rfl rfl rfl rfl rfl rfl (by simp [noW, noWo]) [1000] ?_
 refine rgA [0,1] ?_
 rcases (show nx c a 3 = 0 ∨ nx c a 3 = 1 ∨ nx c a 3 = 2 by omega) with h6 | h6 | h6
 all_goals (
 refine AW.reg tiOk (fun i => if i = 4 then [0, 1] else if i = 5 then [0] else []) [0,1,5] ?_
 intro k hk; simp -dsimp (maxSteps := 2000000) [go_sem, -decide_eq_true_eq, -decide_eq_false_iff_not, h6]
 repeat' first | apply And.intro | refine hk _ ?_ | intro hg | ((first | refine CallK.intro (dc_spec_l1Pick_o c hcl a (by omega) [1, 1, 2] (by simp)) ?_ | refine CallK.intro (hcA (by omega)) ?_ | refine CallK.intro (hcB (by omega)) ?_); simp -dsimp (maxSteps := 2000000) [go_sem, -decide_eq_true_eq, -decide_eq_false_iff_not, h6]) | omega | exact True.intro
 all_goals clear hk k
 refine AW.seq ?_
 refine AW.block ?_
 refine AW.loopI (fun _ : Nat => ⟨19, [(0, .ptr 1900 2 0 0), (1, .int .i64 1), (5, .sl 1011 4 0 R.1.length)], [(1900, some ⟨2, [[.isl 1 (c.map B1), .int .i64 R.2]]⟩), (1011, some ⟨4, R.1.map TNode.ro⟩)]⟩) (fun _ => True) (fun _ => 0) (0) (trivial) (Less.of rfl (by simp [go_sem]) (by simp [go_sem])) ?_
 rintro i _
 refine AW.seq ?_
 refine rgA [0,1,5,14] ?_
 refine AW.cond rfl ?_ ?_
 ·intro hc; try simp at hc
  all_goals try (exfalso; omega; done)
  all_goals (
 exfalso; omega
 refine AW.skipN (fun _ h => h) ?_
 refine AW.block ?_
 skip)
 ·intro hc; try simp at hc
  all_goals try (exfalso; omega; done)
  all_goals (
 refine AW.exitN (fun _ h => h) ?_
 refine rgA [0,4] ?_
 refine rt ?_
 simp [go_sem, *, Try.results39]))
set_option maxHeartbeats 4000000 in
theorem dc_spec_l3Draw_b (c : List UInt8) (hcl : c.length ≤ 1048576) (a : Int) (ha : 0 ≤ a ∧ a ≤ 5000000) : DC Try.prog 39 [.op [.isl 1 (c.map B1), .int .i64 a], .int .i64 2] (.osl 4 ((drE c 2 a).1.map TNode.ro)) [(0, .op [.isl 1 (c.map B1), .int .i64 (drE c 2 a).2])] := by
 have hb := nx_bd c (n := 3) ha.1
 have hb2 := hb.2 (by omega)
 have hdl := drE_len c 2 a
 obtain ⟨R, hR⟩ : ∃ Z, drE c 2 a = Z := ⟨_, rfl⟩
 rw [hR] at hdl
 have hcA : nx c a 3 = 2 → DC Try.prog 62 [.op [.isl 1 (c.map B1), .int .i64 (a + 1)], .nils, .int .i64 2, .int .i64 2] (.osl 4 (R.1.map TNode.ro)) [(0, .op [.isl 1 (c.map B1), .int .i64 R.2])] := fun h => by have h2 := dc_spec_l3Make_b2 c hcl (a + 1) [] .nils (Or.inr ⟨rfl, rfl⟩) (by omega) (by omega) (by simp); have h3 : drE c 2 a = mkB c 2 (a + 1) 0 := (by simp [drE, h]); rw [List.nil_append, List.length_nil, ← h3, hR] at h2; exact h2
 have hcB : nx c a 3 ≠ 2 → DC Try.prog 62 [.op [.isl 1 (c.map B1), .int .i64 (a + 1)], .nils, .int .i64 2, .int .i64 1] (.osl 4 (R.1.map TNode.ro)) [(0, .op [.isl 1 (c.map B1), .int .i64 R.2])] := fun h => by have h2 := dc_spec_l3Make_b1 c hcl (a + 1) [] .nils (Or.inr ⟨rfl, rfl⟩) (by omega) (by omega) (by simp); have h3 : drE c 2 a = mkB c 1 (a + 1) 0 := (by rcases (show nx c a 3 = 0 ∨ nx c a 3 = 1 by omega) with h4 | h4 <;> simp [drE, h4]); rw [List.nil_append, List.length_nil, ← h3, hR] at h2; exact h2
 refine DC.intro tiOk Try.func39 rfl rfl rfl rfl rfl rfl rfl (by simp [noW, noWo]) [1000] ?_
 refine rgA [0,1] ?_
 rcases (show nx c a 3 = 0 ∨ nx c a 3 = 1 ∨ nx c a 3 = 2 by omega) with h6 | h6 | h6
 all_goals (
 refine AW.reg tiOk (fun i => if i = 4 then [0, 1] else if i = 5 then [0] else []) [0,1,5] ?_
 intro k hk; simp -dsimp (maxSteps := 2000000) [go_sem, -decide_eq_true_eq, -decide_eq_false_iff_not, h6]
 repeat' first | apply And.intro | refine hk _ ?_ | intro hg | ((first | refine CallK.intro (dc_spec_l1Pick_o c hcl a (by omega) [1, 1, 2] (by simp)) ?_ | refine CallK.intro (hcA (by omega)) ?_ | refine CallK.intro (hcB (by omega)) ?_); simp -dsimp (maxSteps := 2000000) [go_sem, -decide_eq_true_eq, -decide_eq_false_iff_not, h6]) | omega | exact True.intro
 all_goals clear hk k
 refine AW.seq ?_
 refine AW.block ?_
 refine AW.loopI (fun _ : Nat => ⟨19, [(0, .ptr 1900 2 0 0), (1, .int .i64 2), (5, .sl 1011 4 0 R.1.length)], [(1900, some ⟨2, [[.isl 1 (c.map B1), .int .i64 R.2]]⟩), (1011, some ⟨4, R.1.map TNode.ro⟩)]⟩) (fun _ => True) (fun _ => 0) (0) (trivial) (Less.of rfl (by simp [go_sem]) (by simp [go_sem])) ?_
 rintro i _
 refine AW.seq ?_
 refine rgA [0,1,5,14] ?_
 refine AW.cond rfl ?_ ?_
 ·intro hc; try simp at hc
  all_goals try (exfalso; omega; done)
  all_goals (
 exfalso; omega
 refine AW.skipN (fun _ h => h) ?_
 refine AW.block ?_
 skip)
 ·intro hc; try simp at hc
  all_goals try (exfalso; omega; done)
  all_goals (
 refine AW.exitN (fun _ h => h) ?_
 refine rgA [0,4] ?_
 refine rt ?_
 simp [go_sem, *, Try.results39]))
theorem tree_setA {A : List (List AV)} {r : List AV} {i : Nat} (hA : ∀ c ∈ A, ∀ x ∈ c, AV.tree x = true) (hr : ∀ x ∈ r, AV.tree x = true) : ∀ c ∈ A.set i r, ∀ x ∈ c, AV.tree x = true := by
 intro c hc x hx
 rcases List.mem_or_eq_of_mem_set hc with h | h
 · exact hA c h x hx
 · rw [h] at hx; exact hr x hx
theorem dc_l3Draw (c : List UInt8) (hcl : c.length ≤ 1048576) (t a : Int) (ht : t = 1 ∨ t = 2) (ha : 0 ≤ a ∧ a ≤ 5000000) : DC Try.prog 39 [.op [.isl 1 (c.map B1), .int .i64 a], .int .i64 t] (.osl 4 ((drE c t a).1.map TNode.ro)) [(0, .op [.isl 1 (c.map B1), .int .i64 (drE c t a).2])] := by
 rcases ht with rfl | rfl
 · exact dc_spec_l3Draw_i c hcl a ha
 · exact dc_spec_l3Draw_b c hcl a ha
end Go.AM
namespace Go.AM
open Go.Proofs
set_option maxHeartbeats 8000000 in
theorem dc_spec_l3Bent (c : List UInt8) (hcl : c.length ≤ 1048576) (a : Int) (ha : 0 ≤ a ∧ a ≤ 4000000) : DC Try.prog 23 [.op [.isl 1 (c.map B1), .int .i64 a]] (.osl 4 ((be3 c a).1.map TNode.ro)) [(0, .op [.isl 1 (c.map B1), .int .i64 (be3 c a).2])] := by
 have hb := nx_bd c (n := 2) ha.1
 have hb2 := hb.2 (by omega)
 have hwk : IntKind.wrap .i64 (1 + nx c a 2) = 1 + nx c a 2 := wrap64 (by omega) (by omega)
 have hdr := dc_l3Draw c hcl (1 + nx c a 2) (a + 1) (by omega) (by omega)
 have hdl := drE_len c (1 + nx c a 2) (a + 1)
 obtain ⟨R, hR⟩ : ∃ Z, drE c (1 + nx c a 2) (a + 1) = Z := ⟨_, rfl⟩
 rw [hR] at hdl hdr
 have hbi := nx_bd c (a := R.2) (n := (R.1.length : Nat)) (by omega)
 have hbj := hbi.2 (by omega)
 obtain ⟨x, hx⟩ := at_some (l := R.1) (i := (nx c R.2 (R.1.length : Nat)).toNat) (by omega)
 have hx3 := gel hx
 have hs1 : R.2 + 1 + 1 = R.2 + 2 := by omega
 have hs2 : R.2 + 2 + 1 = R.2 + 3 := by omega
 have htk : (R.1.map TNode.ro).take R.1.length = R.1.map TNode.ro := List.take_of_length_le (by rw [List.length_map]; exact Nat.le_refl _)
 refine DC.intro tiOk Try.func23 rfl rfl rfl rfl rfl rfl rfl (by simp [noW, noWo]) [1000] ?_
 refine rg [0] ?_
 intro k hk; simp -dsimp [go_sem, -decide_eq_true_eq, -decide_eq_false_iff_not, hwk, hs1, hs2, htk, hbi.1, hbj]
 repeat' first | apply And.intro | refine hk _ ?_ | intro hg | omega | exact True.intro | omega | fail
 all_goals clear hk k
 refine AW.reg tiOk (fun i => if i = 2 then [0] else if i = 4 then [0] else []) [0,3] ?_
 intro k hk; simp -dsimp (maxSteps := 2000000) [go_sem, -decide_eq_true_eq, -decide_eq_false_iff_not, hwk, hs1, hs2, htk, hbi.1, hbj]
 repeat' first | apply And.intro | refine hk _ ?_ | intro hg | ((first | refine CallK.intro (dc_spec_l1Next c hcl a (by omega) 2 (by omega)) ?_ | refine CallK.intro (dc_spec_l1Next c hcl R.2 (by omega) (R.1.length : Nat) (by omega)) ?_ | refine CallK.intro (dc_spec_l1Next c hcl (R.2 + 1) (by omega) 12 (by omega)) ?_ | refine CallK.intro (hdr) ?_); simp -dsimp (maxSteps := 2000000) [go_sem, -decide_eq_true_eq, -decide_eq_false_iff_not, hwk, hs1, hs2, htk, hbi.1, hbj]) | omega | exact True.intro | omega | fail
 all_goals clear hk k
 refine AW.reg tiOk (fun i => if i = 3 then [0] else []) [0,3,4] ?_
 intro k hk; simp -dsimp (maxSteps := 2000000) [go_sem, -decide_eq_true_eq, -decide_eq_false_iff_not, hwk, hs1, hs2, htk, hbi.1, hbj]
 repeat' first | apply And.intro | refine hk _ ?_ | intro hg | ((first | refine CallK.intro (dc_spec_l1Next c hcl a (by omega) 2 (by omega)) ?_ | refine CallK.intro (dc_spec_l1Next c hcl R.2 (by omega) (R.1.length : Nat) (by omega)) ?_ | refine CallK.intro (dc_spec_l1Next c hcl (R.2 + 1) (by omega) 12 (by omega)) ?_); simp -dsimp (maxSteps := 2000000) [go_sem, -decide_eq_true_eq, -decide_eq_false_iff_not, hwk, hs1, hs2, htk, hbi.1, hbj]) | omega | exact True.intro | omega | fail
 all_goals clear hk k
 refine AW.seq ?_
 refine AW.reg tiOk (fun _ => [0]) [0,3,4,15] ?_
 intro k hk; simp -dsimp (maxSteps := 2000000) [go_sem, -decide_eq_true_eq, -decide_eq_false_iff_not, hwk, hs1, hs2, htk, hbi.1, hbj]
 repeat' first | apply And.intro | refine hk _ ?_ | intro hg | ((first | refine CallK.intro (dc_spec_l1Next c hcl a (by omega) 2 (by omega)) ?_ | refine CallK.intro (dc_spec_l1Next c hcl R.2 (by omega) (R.1.length : Nat) (by omega)) ?_ | refine CallK.intro (dc_spec_l1Next c hcl (R.2 + 1) (by omega) 12 (by omega)) ?_); simp -dsimp (maxSteps := 2000000) [go_sem, -decide_eq_true_eq, -decide_eq_false_iff_not, hwk, hs1, hs2, htk, hbi.1, hbj]) | omega | exact True.intro | omega | fail
 all_goals clear hk k
 refine AW.block ?_
 refine rg [0,3,4,15,16] ?_
 intro k hk; simp -dsimp [go_sem, -decide_eq_true_eq, -decide_eq_false_iff_not, hwk, hs1, hs2, htk, hbi.1, hbj]
 repeat' first | apply And.intro | refine hk _ ?_ | intro hg | omega | exact True.intro | omega | fail
 all_goals clear hk k
 refine AW.cond rfl ?_ ?_
 ·intro hc; try simp at hc
  all_goals (
 refine AW.regN tiOk (fun i => if i = 4 then [0, 1] else []) [0,3] (fun _ h => h) ?_
 intro k hk; simp -dsimp (maxSteps := 2000000) [go_sem, -decide_eq_true_eq, -decide_eq_false_iff_not, hwk, hs1, hs2, htk, hbi.1, hbj, hx, hx3]
 repeat' first | apply And.intro | refine hk _ ?_ | intro hg | (refine CallK.intro (dc_spec_l1Pick_o c hcl (R.2 + 2) (by omega) [0, 11, 1, 9, 10] (by simp)) ?_; simp -dsimp (maxSteps := 2000000) [go_sem, -decide_eq_true_eq, -decide_eq_false_iff_not, hwk, hs1, hs2, htk, hbi.1, hbj, hx, hx3]) | omega | exact True.intro | omega | fail
 all_goals clear hk k
 refine rg [0,2] ?_
 intro k hk; simp -dsimp [go_sem, -decide_eq_true_eq, -decide_eq_false_iff_not, hwk, hs1, hs2, htk, hbi.1, hbj]
 repeat' first | apply And.intro | refine hk _ ?_ | intro hg | omega | exact True.intro | omega | fail
 all_goals clear hk k
 refine rt ?_
 first | (simp [go_sem, *, Try.results23, be3, nd0]; done) | (simp [go_sem, *, Try.results23, be3, nd0]; exact tree_setA (by simp [go_sem]) (by simp [go_sem])))
 ·intro hc; try simp at hc
  all_goals (
 refine rg [0,3,4,15,25] ?_
 intro k hk; simp -dsimp [go_sem, -decide_eq_true_eq, -decide_eq_false_iff_not, hwk, hs1, hs2, htk, hbi.1, hbj]
 repeat' first | apply And.intro | refine hk _ ?_ | intro hg | omega | exact True.intro | omega | fail
 all_goals clear hk k
 refine AW.cond rfl ?_ ?_
 ·intro hc; try simp at hc
  all_goals (
 refine AW.regN tiOk (fun i => if i = 4 then [0, 1] else []) [0,3] (fun _ h => h) ?_
 intro k hk; simp -dsimp (maxSteps := 2000000) [go_sem, -decide_eq_true_eq, -decide_eq_false_iff_not, hwk, hs1, hs2, htk, hbi.1, hbj, hx, hx3]
 repeat' first | apply And.intro | refine hk _ ?_ | intro hg | (refine CallK.intro (dc_spec_l1Pick_o c hcl (R.2 + 2) (by omega) [-1, 4, 10000] (by simp)) ?_; simp -dsimp (maxSteps := 2000000) [go_sem, -decide_eq_true_eq, -decide_eq_false_iff_not, hwk, hs1, hs2, htk, hbi.1, hbj, hx, hx3]) | omega | exact True.intro | omega | fail
 all_goals clear hk k
 refine rg [0,2] ?_
 intro k hk; simp -dsimp [go_sem, -decide_eq_true_eq, -decide_eq_false_iff_not, hwk, hs1, hs2, htk, hbi.1, hbj]
 repeat' first | apply And.intro | refine hk _ ?_ | intro hg | omega | exact True.intro | omega | fail
 all_goals clear hk k
 refine rt ?_
 first | (simp [go_sem, *, Try.results23, be3, nd0]; done) | (simp [go_sem, *, Try.results23, be3, nd0]; exact tree_setA (by simp [go_sem]) (by simp [go_sem])))
 ·intro hc; try simp at hc
  all_goals (
 refine rg [0,3,4,15,34] ?_
 intro k hk; simp -dsimp [go_sem, -decide_eq_true_eq, -decide_eq_false_iff_not, hwk, hs1, hs2, htk, hbi.1, hbj]
 repeat' first | apply And.intro | refine hk _ ?_ | intro hg | omega | exact True.intro | omega | fail
 all_goals clear hk k
 refine AW.cond rfl ?_ ?_
 ·intro hc; try simp at hc
  all_goals (
 refine AW.regN tiOk (fun i => if i = 4 then [0, 1] else []) [0,3] (fun _ h => h) ?_
 intro k hk; simp -dsimp (maxSteps := 2000000) [go_sem, -decide_eq_true_eq, -decide_eq_false_iff_not, hwk, hs1, hs2, htk, hbi.1, hbj, hx, hx3]
 repeat' first | apply And.intro | refine hk _ ?_ | intro hg | (refine CallK.intro (dc_spec_l1Pick_o c hcl (R.2 + 2) (by omega) [0, 1, 9, -1] (by simp)) ?_; simp -dsimp (maxSteps := 2000000) [go_sem, -decide_eq_true_eq, -decide_eq_false_iff_not, hwk, hs1, hs2, htk, hbi.1, hbj, hx, hx3]) | omega | exact True.intro | omega | fail
 all_goals clear hk k
 refine rg [0,2] ?_
 intro k hk; simp -dsimp [go_sem, -decide_eq_true_eq, -decide_eq_false_iff_not, hwk, hs1, hs2, htk, hbi.1, hbj]
 repeat' first | apply And.intro | refine hk _ ?_ | intro hg | omega | exact True.intro | omega | fail
 all_goals clear hk k
 refine rt ?_
 first | (simp [go_sem, *, Try.results23, be3, nd0]; done) | (simp [go_sem, *, Try.results23, be3, nd0]; exact tree_setA (by simp [go_sem]) (by simp [go_sem])))
 ·intro hc; try simp at hc
  all_goals (
 refine rg [0,3,4,15,43] ?_
 intro k hk; simp -dsimp [go_sem, -decide_eq_true_eq, -decide_eq_false_iff_not, hwk, hs1, hs2, htk, hbi.1, hbj]
 repeat' first | apply And.intro | refine hk _ ?_ | intro hg | omega | exact True.intro | omega | fail
 all_goals clear hk k
 refine AW.cond rfl ?_ ?_
 ·intro hc; try simp at hc
  all_goals (
 refine AW.regN tiOk (fun i => if i = 4 then [0, 1] else []) [0,3] (fun _ h => h) ?_
 intro k hk; simp -dsimp (maxSteps := 2000000) [go_sem, -decide_eq_true_eq, -decide_eq_false_iff_not, hwk, hs1, hs2, htk, hbi.1, hbj, hx, hx3]
 repeat' first | apply And.intro | refine hk _ ?_ | intro hg | (refine CallK.intro (dc_spec_l1Pick_o c hcl (R.2 + 2) (by omega) [0, 1, 9] (by simp)) ?_; simp -dsimp (maxSteps := 2000000) [go_sem, -decide_eq_true_eq, -decide_eq_false_iff_not, hwk, hs1, hs2, htk, hbi.1, hbj, hx, hx3]) | omega | exact True.intro | omega | fail
 all_goals clear hk k
 refine rg [0,2] ?_
 intro k hk; simp -dsimp [go_sem, -decide_eq_true_eq, -decide_eq_false_iff_not, hwk, hs1, hs2, htk, hbi.1, hbj]
 repeat' first | apply And.intro | refine hk _ ?_ | intro hg | omega | exact True.intro | omega | fail
 all_goals clear hk k
 refine rt ?_
 first | (simp [go_sem, *, Try.results23, be3, nd0]; done) | (simp [go_sem, *, Try.results23, be3, nd0]; exact tree_setA (by simp [go_sem]) (by simp [go_sem])))
 ·intro hc; try simp at hc
  all_goals (
 refine rg [0,3,15,52] ?_
 intro k hk; simp -dsimp [go_sem, -decide_eq_true_eq, -decide_eq_false_iff_not, hwk, hs1, hs2, htk, hbi.1, hbj]
 repeat' first | apply And.intro | refine hk _ ?_ | intro hg | omega | exact True.intro | omega | fail
 all_goals clear hk k
 refine AW.cond rfl ?_ ?_
 ·intro hc; try simp at hc
  all_goals (
 refine rgN [0,3] (fun _ h => h) ?_
 intro k hk; simp -dsimp [go_sem, -decide_eq_true_eq, -decide_eq_false_iff_not, hwk, hs1, hs2, htk, hbi.1, hbj]
 repeat' first | apply And.intro | refine hk _ ?_ | intro hg | omega | exact True.intro | omega | fail
 all_goals clear hk k
 refine rg [0,2] ?_
 intro k hk; simp -dsimp [go_sem, -decide_eq_true_eq, -decide_eq_false_iff_not, hwk, hs1, hs2, htk, hbi.1, hbj]
 repeat' first | apply And.intro | refine hk _ ?_ | intro hg | omega | exact True.intro | omega | fail
 all_goals clear hk k
 refine rt ?_
 first | (simp [go_sem, *, Try.results23, be3, nd0]; done) | (simp [go_sem, *, Try.results23, be3, nd0]; exact tree_setA (by simp [go_sem]) (by simp [go_sem])))
 ·intro hc; try simp at hc
  all_goals (
 refine rg [0,3,55] ?_
 intro k hk; simp -dsimp [go_sem, -decide_eq_true_eq, -decide_eq_false_iff_not, hwk, hs1, hs2, htk, hbi.1, hbj]
 repeat' first | apply And.intro | refine hk _ ?_ | intro hg | omega | exact True.intro | omega | fail
 all_goals clear hk k
 refine AW.cond rfl ?_ ?_
 ·intro hc; try simp at hc
  all_goals (
 refine rgN [0,3] (fun _ h => h) ?_
 intro k hk; simp -dsimp [go_sem, -decide_eq_true_eq, -decide_eq_false_iff_not, hwk, hs1, hs2, htk, hbi.1, hbj]
 repeat' first | apply And.intro | refine hk _ ?_ | intro hg | omega | exact True.intro | omega | fail
 all_goals clear hk k
 refine rg [0,2] ?_
 intro k hk; simp -dsimp [go_sem, -decide_eq_true_eq, -decide_eq_false_iff_not, hwk, hs1, hs2, htk, hbi.1, hbj]
 repeat' first | apply And.intro | refine hk _ ?_ | intro hg | omega | exact True.intro | omega | fail
 all_goals clear hk k
 refine rt ?_
 first | (simp [go_sem, *, Try.results23, be3, nd0]; done) | (simp [go_sem, *, Try.results23, be3, nd0]; exact tree_setA (by simp [go_sem]) (by simp [go_sem])))
 ·intro hc; try simp at hc
  all_goals (
 refine AW.skipN (fun _ h => h) ?_
 refine rg [0,2] ?_
 intro k hk; simp -dsimp [go_sem, -decide_eq_true_eq, -decide_eq_false_iff_not, hwk, hs1, hs2, htk, hbi.1, hbj]
 repeat' first | apply And.intro | refine hk _ ?_ | intro hg | omega | exact True.intro | omega | fail
 all_goals clear hk k
 refine rt ?_
 first | (simp [go_sem, *, Try.results23, be3, nd0]; done) | (simp [go_sem, *, Try.results23, be3, nd0]; exact tree_setA (by simp [go_sem]) (by simp [go_sem]))))))))
end Go.AM
namespace Go.AM
def mkR (c : List UInt8) : Nat → Int → Int → List TStep → List TStep × Int
 | 0, _, a, p => (p, a)
 | d + 1, par, a, p => mk4 c d par a p
theorem ki4_leaf (c : List UInt8) (par : Int) {a : Int} (ha : 0 ≤ a) : (ki4 c false par a).1 = 2 ∨ (ki4 c false par a).1 = 5 ∨ (ki4 c false par a).1 = 6 ∨ (ki4 c false par a).1 = 7 := by
 have h := nx_bd c (n := 6) ha
 have h2 := h.2 (by omega)
 unfold ki4
 rcases (show nx c a 6 = 0 ∨ nx c a 6 = 1 ∨ nx c a 6 = 2 ∨ nx c a 6 = 3 ∨ nx c a 6 = 4 ∨ nx c a 6 = 5 by omega) with h6 | h6 | h6 | h6 | h6 | h6 <;> simp [h6]
theorem mk4_eq (c : List UInt8) (d : Nat) (par : Int) {a : Int} (ha : 0 ≤ a) (p : List TStep) {K : Int × Int} {X : TStep × Int} {N : Nat × Int} (hK : ki4 c (decide (0 < d ∧ p.length < 14)) par a = K) (hX : st4 c K.1 par K.2 = X) (hN : kd4 c K.1 X.2 = N) :
  mk4 c d par a p = lp4 c (fun a q => mkR c d (p.length : Int) a q) (decide (K.1 = 3)) N.1 N.2 (p ++ [X.1]) := by
 cases d with
 | zero =>
  have e : ki4 c false par a = K := by rw [← hK]; simp
  have hl := ki4_leaf c par ha
  rw [e] at hl
  have hn0 : N.1 = 0 := by
   rw [← hN]; unfold kd4
   rcases hl with h | h | h | h <;> simp [h]
  have h1 : mk4 c 0 par a p = (p ++ [X.1], N.2) := by
   simp only [mk4, e, hX, hN]
  rw [h1, hn0]; rfl
 | succ d =>
  have e : ki4 c (decide (p.length < 14)) par a = K := by rw [← hK]; simp
  simp only [mk4, e, hX, hN]; rfl
theorem lp4_zero (c : List UInt8) (f : Int → List TStep → List TStep × Int) (x : Bool) (a : Int) (p : List TStep) : lp4 c f x 0 a p = (p, a) := rfl
theorem lp4_a {c : List UInt8} {f : Int → List TStep → List TStep × Int} {x : Bool} {n : Nat} {a : Int} {p : List TStep} {Q : List TStep × Int} {R : List TNode × Int} (hx : x = true ∧ 0 < n) (hQ : f a p = Q) (hR : drE c 2 Q.2 = R) : lp4 c f x (n + 1) a p = lp4 c f x n R.2 (setC Q.1 p.length R.1) := by
 simp only [lp4, hQ, hR, if_pos hx]
theorem lp4_b {c : List UInt8} {f : Int → List TStep → List TStep × Int} {x : Bool} {n : Nat} {a : Int} {p : List TStep} {Q : List TStep × Int} (hx : ¬ (x = true ∧ 0 < n)) (hQ : f a p = Q) : lp4 c f x (n + 1) a p = lp4 c f x n Q.2 Q.1 := by
 simp only [lp4, hQ, if_neg hx]
theorem setC_len (p : List TStep) (i : Nat) (e : List TNode) : (setC p i e).length = p.length := List.length_set
theorem setC_at {p : List TStep} {i : Nat} {y : TStep} (h : p[i]? = some y) (e : List TNode) : setC p i e = p.set i { y with cond := e } := by
 unfold setC; rw [List.getD_eq_getElem?_getD, h]; rfl
theorem setC_sm {p : List TStep} (h : ∀ s ∈ p, Sm s) {i : Nat} {e : List TNode} (he : e.length ≤ 17) : ∀ s ∈ setC p i e, Sm s := by
 refine sm_set h _ ?_
 have h6 : Sm (p.getD i default) := sm_getD h _ ⟨by decide, by decide, by decide⟩
 exact ⟨h6.1, he, h6.2.2⟩
def Lp (c : List UInt8) (d : Nat) (par : Int) (x : Bool) (W : List TStep × Int) (n : Nat) (A : Int) (P : List TStep) : Prop :=
 lp4 c (fun a q => mkR c d par a q) x n A P = W ∧ 0 ≤ A ∧ (∀ s ∈ P, Sm s) ∧ (n = 0 ∨ (0 < d ∧ A + n * (A4 (d - 1) + 100) ≤ 4000000 ∧ P.length + n * L4 (d - 1) ≤ 1000))
theorem Lp.kid {c : List UInt8} {d : Nat} {par : Int} {x : Bool} {W : List TStep × Int} {n : Nat} {A : Int} {P : List TStep} (h : Lp c d par x W (n + 1) A P) :
  ∃ e, d = e + 1 ∧ 0 ≤ A ∧ A + A4 e + 100 ≤ 4000000 ∧ P.length + L4 e ≤ 1000 ∧ (∀ s ∈ P, Sm s) ∧ ∀ Q, mk4 c e par A P = Q → P.length + 1 ≤ Q.1.length ∧ Q.1.length ≤ P.length + L4 e ∧ A ≤ Q.2 ∧ Q.2 ≤ A + A4 e ∧
   (∀ R, drE c 2 Q.2 = R → x = true ∧ 0 < n → Lp c d par x W n R.2 (setC Q.1 P.length R.1)) ∧ (¬ (x = true ∧ 0 < n) → Lp c d par x W n Q.2 Q.1) := by
 obtain ⟨h1, h2, h3, h4⟩ := h
 rcases h4 with h4 | ⟨h4, h5, h6⟩
 ·omega
 obtain ⟨e, rfl⟩ : ∃ e, d = e + 1 := ⟨d - 1, by omega⟩
 simp only [Nat.add_sub_cancel] at h5 h6
 have hL : (n + 1) * L4 e = n * L4 e + L4 e := Nat.succ_mul n _
 have hA : ((n + 1 : Nat) : Int) * (A4 e + 100) = (n : Int) * (A4 e + 100) + (A4 e + 100) := by push_cast; rw [Int.add_mul]; omega
 have hAp := A4_pos e
 have hAn : 0 ≤ (n : Int) * (A4 e + 100) := Int.mul_nonneg (by omega) (by omega)
 rw [hL] at h6
 rw [hA] at h5
 refine ⟨e, rfl, h2, by omega, by omega, h3, fun Q hQ => ?_⟩
 obtain ⟨b1, b2, b3, b4, b5⟩ := mk4_bd c e par A P h2 h3
 rw [hQ] at b1 b2 b3 b4 b5
 have hQ2 : (fun a q => mkR c (e + 1) par a q) A P = Q := hQ
 refine ⟨b1, b2, b3, b4, fun R hR hx => ?_, fun hx => ?_⟩
 ·have hd := drE_len c 2 Q.2
  rw [hR] at hd
  refine ⟨by rw [← lp4_a hx hQ2 hR]; exact h1, by omega, setC_sm b5 (by omega), ?_⟩
  right
  simp only [Nat.add_sub_cancel]
  rw [setC_len]
  exact ⟨by omega, by omega, by omega⟩
 ·refine ⟨by rw [← lp4_b hx hQ2]; exact h1, by omega, b5, ?_⟩
  right
  simp only [Nat.add_sub_cancel]
  exact ⟨by omega, by omega, by omega⟩
theorem Lp.first {c : List UInt8} {d : Nat} {par a : Int} {p : List TStep} {K : Int × Int} {X : TStep × Int} {N : Nat × Int} (ha : 0 ≤ a) (hp : ∀ s ∈ p, Sm s) (hb : a + A4 d ≤ 4000000) (hb2 : p.length + L4 d ≤ 1000) (hK : ki4 c (decide (0 < d ∧ p.length < 14)) par a = K) (hX : st4 c K.1 par K.2 = X) (hN : kd4 c K.1 X.2 = N) :
  Lp c d (p.length : Int) (decide (K.1 = 3)) (mk4 c d par a p) N.1 N.2 (p ++ [X.1]) ∧ a ≤ K.2 ∧ K.2 ≤ a + 3 ∧ K.2 ≤ X.2 ∧ X.2 ≤ a + 104 ∧ N.1 ≤ 3 ∧ Sm X.1 ∧ (N.1 = 0 ∨ 0 < d) := by
 have b1 := ki4_bd c (decide (0 < d ∧ p.length < 14)) par a
 rw [hK] at b1
 have b2 := st4_bd c K.1 par K.2
 rw [hX] at b2
 have b3 := kd4_bd c K.1 (a := X.2) (by omega)
 rw [hN] at b3
 have e := mk4_eq c d par ha p hK hX hN
 have hz : N.1 = 0 ∨ 0 < d := by
  rcases Nat.eq_zero_or_pos d with h0 | h0
  ·left
   subst h0
   have e2 : ki4 c false par a = K := by rw [← hK]; simp
   have hl := ki4_leaf c par ha
   rw [e2] at hl
   rw [← hN]; unfold kd4
   rcases hl with h | h | h | h <;> simp [h]
  ·exact Or.inr h0
 refine ⟨⟨e.symm, by omega, sm_snoc hp b2.1, ?_⟩, by omega, by omega, by omega, by omega, b3.1, b2.1, hz⟩
 rcases hz with h0 | h0
 ·exact Or.inl h0
 ·right
  obtain ⟨f, rfl⟩ : ∃ f, d = f + 1 := ⟨d - 1, by omega⟩
  simp only [Nat.add_sub_cancel, List.length_append, List.length_singleton]
  simp only [A4, L4] at hb hb2
  have hAp := A4_pos f
  have hL : N.1 * L4 f ≤ 3 * L4 f := Nat.mul_le_mul_right _ b3.1
  have hAn : (N.1 : Int) * (A4 f + 100) ≤ 3 * (A4 f + 100) := Int.mul_le_mul_of_nonneg_right (by omega) (by omega)
  exact ⟨by omega, by omega, by omega⟩
theorem rt4_a {c : List UInt8} {m D : Nat} {A : Int} {Q : List TStep × Int} (hD : (2 + nx c A 2).toNat = D) (hQ : mk4 c D (-1) (A + 1) [] = Q) (h : Q.1.length ≤ 24) : rt4 c (m + 1) A = Q := by
 simp only [rt4, hD, hQ, if_pos h]
theorem rt4_b {c : List UInt8} {m D : Nat} {A : Int} {Q : List TStep × Int} (hD : (2 + nx c A 2).toNat = D) (hQ : mk4 c D (-1) (A + 1) [] = Q) (h : ¬ Q.1.length ≤ 24) : rt4 c (m + 1) A = rt4 c m Q.2 := by
 simp only [rt4, hD, hQ, if_neg h]
theorem rt4_z (c : List UInt8) (A : Int) : rt4 c 0 A = ([⟨2, -1, [97], 0, [], []⟩], A) := rfl
end Go.AM
namespace Go.AM
end Go.AM
namespace Go.AM
end Go.AM
namespace Go.AM
theorem ocids (l : List TStep) : (l.map TStep.oc).flatMap idsL = [] := flatids (f := TStep.oc) (by intro x; simp [go_sem]) l
end Go.AM
namespace Go.AM
theorem app_here {es i : Nat} {a : List (List AV)} {c : List AV} (h : a.length = i) : (⟨es, a ++ [c]⟩ : Node).l[i]? = some c := by subst h; simp
def cpS (l : List TStep) (i : Nat) : List (List AV) := (l.take i).map TStep.oc
theorem cpS_ids (l : List TStep) (i : Nat) : (cpS l i).flatMap idsL = [] := ocids _
theorem cpS_no (l : List TStep) (i n : Nat) : (∀ x, x ∈ cpS l i → ¬ n ∈ idsL x) ↔ True := by
 have h := cpS_ids l i
 rw [List.flatMap_eq_nil_iff] at h
 exact ⟨fun _ => True.intro, fun _ x hx => by rw [h x hx]; simp⟩
theorem cpS_zero (l : List TStep) : cpS l 0 = [] := rfl
theorem ccases (l : List TNode) : (owc 4 (l.map TNode.ro) = .isl 4 [] ∧ l.length = 0) ∨ (owc 4 (l.map TNode.ro) = .osl 4 (l.map TNode.ro) ∧ 0 < l.length) := by
 cases l with
 | nil => exact Or.inl ⟨rfl, rfl⟩
 | cons x r => exact Or.inr ⟨rfl, by simp⟩
attribute [go_sem] cpS_ids cpS_no cpS_zero
end Go.AM
namespace Go.AM
open Go.Proofs
set_option maxHeartbeats 16000000 in
theorem dc_spec_l4Make_u (c : List UInt8) (hcl : c.length ≤ 1048576) (d : Nat) (hd : d ≤ 10) (hM : ∀ (e : Nat) (par a : Int) (p : List TStep), d = e + 1 → 0 ≤ a → a + A4 e ≤ 4000000 → p.length + L4 e ≤ 1000 → (∀ s ∈ p, Sm s) → DC Try.prog 38 [.op [.isl 1 (c.map B1), .int .i64 a], .osl 6 (p.map TStep.oc), .int .i64 par, .int .i64 (e : Nat)] (.osl 6 ((mk4 c e par a p).1.map TStep.oc)) [(0, .op [.isl 1 (c.map B1), .int .i64 (mk4 c e par a p).2])]) (par a : Int) (ha : 0 ≤ a ∧ a + A4 d ≤ 4000000) (p : List TStep) (Y : AV) (hY : (Y = .osl 6 (p.map TStep.oc) ∧ ([] : List TStep).length = 0 ∧ ([] : List TStep).length = 0) ∨ (Y = .nils ∧ p = [] ∧ p.length = 0)) (hp : ∀ s ∈ p, Sm s) (hl : p.length + L4 d ≤ 1000) : DC Try.prog 38 [.op [.isl 1 (c.map B1), .int .i64 a], Y, .int .i64 par, .int .i64 (d : Nat)] (.osl 6 ((mk4 c d par a p).1.map TStep.oc)) [(0, .op [.isl 1 (c.map B1), .int .i64 (mk4 c d par a p).2])] := by
 obtain ⟨K, hK⟩ : ∃ Z, ki4 c (decide (0 < d ∧ p.length < 14)) par a = Z := ⟨_, rfl⟩
 obtain ⟨X, hX⟩ : ∃ Z, st4 c K.1 par K.2 = Z := ⟨_, rfl⟩
 obtain ⟨N, hN⟩ : ∃ Z, kd4 c K.1 X.2 = Z := ⟨_, rfl⟩
 obtain ⟨W, hW⟩ : ∃ Z, mk4 c d par a p = Z := ⟨_, rfl⟩
 have hAp := A4_pos d
 obtain ⟨hLp0, b1, b2, b3, b4, b5, b6, b7⟩ := Lp.first (p := p) ha.1 hp ha.2 hl hK hX hN
 rw [hW] at hLp0
 have hLp : Lp c d (p.length : Int) (decide (K.1 = 3)) W N.1 N.2 (p ++ [X.1]) := hLp0
 obtain ⟨P1, hP1⟩ : ∃ Z, Z = p ++ [X.1] := ⟨_, rfl⟩
 rw [← hP1] at hLp
 have hP1l : P1.length = p.length + 1 := by rw [hP1]; simp
 have hk0 : ¬ (0 < d ∧ p.length < 14) → K = ([2, 2, 5, 6, 7, 7].getD (nx c a 6).toNat 0, a + 1) := fun h => by rw [← hK]; simp [ki4, h]
 have hk1 : (0 < d ∧ p.length < 14) → par < 0 → K = ([1, 1, 4, 8].getD (nx c (a + 2) 4).toNat 0, a + 3) := fun h h2 => by rw [← hK]; simp [ki4, h, h2]
 have hk2 : (0 < d ∧ p.length < 14) → ¬ par < 0 → K = ([1, 3, 4, 8, 2, 7].getD (nx c (a + 1) 6).toNat 0, a + 2) := fun h h2 => by rw [← hK]; simp [ki4, h, h2]
 obtain ⟨R1, hR1⟩ : ∃ Z, drE c 1 (K.2 + 1) = Z := ⟨_, rfl⟩
 have hdr1 := dc_spec_l3Draw_i c hcl (K.2 + 1) (by omega)
 have hdl1 := drE_len c 1 (K.2 + 1)
 rw [hR1] at hdr1 hdl1
 have hoc1 : owc 4 (R1.1.map TNode.ro) = .osl 4 (R1.1.map TNode.ro) := owc_ne (by intro e; have h9 := congrArg List.length e; rw [List.length_map, List.length_nil] at h9; omega)
 have hx2 : K.1 = 2 → X = (⟨K.1, par, wdD c K.2, 0, [], []⟩, K.2 + 1) := fun h => by rw [← hX, st4, if_pos h]
 have hx5 : K.1 = 5 → X = (⟨K.1, par, [], nx c K.2 3, [], []⟩, K.2 + 1) := fun h => by rw [← hX, st4, if_neg (by omega), if_pos h]
 have hx6 : K.1 = 6 ∨ K.1 = 8 → X = (⟨K.1, par, [], 1 + nx c K.2 6, [], []⟩, K.2 + 1) := fun h => by rw [← hX, st4, if_neg (by omega), if_neg (by omega), if_pos h]
 have hx7 : K.1 = 7 → X = (⟨K.1, par, [], nx c K.2 3, [], R1.1⟩, R1.2) := fun h => by rw [← hX, st4, if_neg (by omega), if_neg (by omega), if_neg (by omega), if_pos h, hR1]
 have hx0 : ¬ K.1 = 2 ∧ ¬ K.1 = 5 ∧ ¬ K.1 = 6 ∧ ¬ K.1 = 8 ∧ ¬ K.1 = 7 → X = (⟨K.1, par, [], 0, [], []⟩, K.2) := fun h => by rw [← hX, st4, if_neg (by omega), if_neg (by omega), if_neg (by omega), if_neg (by omega)]
 have hxc : X.1.cond = [] := by rw [← hX]; unfold st4; (repeat' split) <;> rfl
 have hxk : X.1.kind = K.1 := by rw [← hX]; unfold st4; (repeat' split) <;> rfl
 have hb3 := (nx_bd c (a := X.2) (n := 3) (by omega)); have hc3 := hb3.2 (by omega)
 have hb2 := (nx_bd c (a := X.2) (n := 2) (by omega)); have hc2 := hb2.2 (by omega)
 have hb6 := (nx_bd c (a := K.2) (n := 6) (by omega)); have hc6 := hb6.2 (by omega)
 have hn1 : K.1 = 1 → ((N.1 : Nat) : Int) = 1 + nx c X.2 3 ∧ N.2 = X.2 + 1 := fun h => by rw [← hN, kd4, if_pos h]; exact ⟨Int.toNat_of_nonneg (by omega), rfl⟩
 have hn3 : K.1 = 3 ∨ K.1 = 4 → ((N.1 : Nat) : Int) = 2 + nx c X.2 2 ∧ N.2 = X.2 + 1 := fun h => by rw [← hN, kd4, if_neg (by omega), if_pos h]; exact ⟨Int.toNat_of_nonneg (by omega), rfl⟩
 have hn8 : K.1 = 8 → ((N.1 : Nat) : Int) = 2 ∧ N.2 = X.2 := fun h => by rw [← hN, kd4, if_neg (by omega), if_neg (by omega), if_pos h]; exact ⟨rfl, rfl⟩
 have hn0 : ¬ K.1 = 1 ∧ ¬ K.1 = 3 ∧ ¬ K.1 = 4 ∧ ¬ K.1 = 8 → ((N.1 : Nat) : Int) = 0 ∧ N.2 = X.2 := fun h => by rw [← hN, kd4, if_neg (by omega), if_neg (by omega), if_neg (by omega)]; exact ⟨rfl, rfl⟩
 have hw1 : IntKind.wrap .i64 (1 + nx c X.2 3) = 1 + nx c X.2 3 := wrap64 (by omega) (by omega)
 have hw2 : IntKind.wrap .i64 (2 + nx c X.2 2) = 2 + nx c X.2 2 := wrap64 (by omega) (by omega)
 have hw6 : IntKind.wrap .i64 (1 + nx c K.2 6) = 1 + nx c K.2 6 := wrap64 (by omega) (by omega)
 have hs1 : a + 1 + 1 = a + 2 := by omega
 have hs2 : a + 2 + 1 = a + 3 := by omega
 have hs3 : a + 3 + 1 = a + 4 := by omega
 have hs4 : a + 1 + 2 = a + 3 := by omega
 have hs5 : a + 1 + 3 = a + 4 := by omega
 have hwl : IntKind.wrap .i64 ((p.length : Nat) : Int) = ((p.length : Nat) : Int) := wrap64 (by omega) (by omega)
 have htk : (p.map TStep.oc).take p.length = p.map TStep.oc := List.take_of_length_le (by rw [List.length_map]; exact Nat.le_refl _)
 rcases hY with ⟨rfl, hp0p, hp0l⟩ | ⟨rfl, hp0p, hp0l⟩
 all_goals (
 refine DC.intro tiOk Try.func38 rfl rfl rfl rfl rfl rfl rfl (by simp [noW, noWo]) [1000] ?_
 refine rg [0,1,2,3] ?_
 intro k hk; simp -dsimp [go_sem, -decide_eq_true_eq, -decide_eq_false_iff_not, hs1, hs2, hs3, hw1, hw2, hw6, hwl, htk]
 repeat' first | apply And.intro | refine hk _ ?_ | intro hg | omega | exact True.intro
 all_goals clear hk k
 refine rg [0,1,2,3,9] ?_
 intro k hk; simp -dsimp [go_sem, -decide_eq_true_eq, -decide_eq_false_iff_not, hs1, hs2, hs3, hw1, hw2, hw6, hwl, htk]
 repeat' first | apply And.intro | refine hk _ ?_ | intro hg | omega | exact True.intro
 all_goals clear hk k
 refine AW.reg tiOk (fun i => if i = 2 then [0, 1] else []) [0,1,2,3,9,10] ?_
 intro k hk; simp -dsimp (maxSteps := 2000000) [go_sem, -decide_eq_true_eq, -decide_eq_false_iff_not, hs1, hs2, hs3, hw1, hw2, hw6, hwl, htk]
 repeat' first | apply And.intro | refine hk _ ?_ | intro hg | (refine CallK.intro (dc_spec_l1Pick_o c hcl a (by omega) [2, 2, 5, 6, 7, 7] (by simp)) ?_; simp -dsimp (maxSteps := 2000000) [go_sem, -decide_eq_true_eq, -decide_eq_false_iff_not, hs1, hs2, hs3, hw1, hw2, hw6, hwl, htk]) | omega | exact True.intro
 all_goals clear hk k
 first | (guard_hyp hp0p : p = []; refine AW.cutG ⟨109, [(0, .ptr 1900 2 0 0), (1, .nils), (3, .int .i64 (d : Nat)), (9, .int .i64 (p.length : Nat)), (10, .int .i64 K.1), (2, .int .i64 par)], [(1900, some ⟨2, [[.isl 1 (c.map B1), .int .i64 K.2]]⟩)]⟩ ?_ ?_) | refine AW.cutG ⟨109, [(0, .ptr 1900 2 0 0), (1, .sl 1901 6 0 p.length), (3, .int .i64 (d : Nat)), (9, .int .i64 (p.length : Nat)), (10, .int .i64 K.1), (2, .int .i64 par)], [(1900, some ⟨2, [[.isl 1 (c.map B1), .int .i64 K.2]]⟩), (1901, some ⟨6, p.map TStep.oc⟩)]⟩ ?_ ?_
 ·skip
  refine rg [0,1,2,3,9,10,25] ?_
  intro k hk; simp +contextual -dsimp [go_sem, -decide_eq_true_eq, -decide_eq_false_iff_not, hs1, hs2, hs3, hw1, hw2, hw6, hwl, htk]
  repeat' first | apply And.intro | refine hk _ ?_ | (intro hg; try simp only [decide_eq_true_eq, decide_eq_false_iff_not] at hg) | omega | exact True.intro
  all_goals clear hk k
  all_goals (
 refine AW.cond rfl ?_ ?_
 ·intro hc; try simp at hc
  all_goals try (exfalso; first | contradiction | omega; done)
  all_goals (
 refine AW.reg tiOk (fun i => if i = 2 then [0, 1] else []) [0,1,2,3,9,10] ?_
 intro k hk; simp -dsimp (maxSteps := 2000000) [go_sem, -decide_eq_true_eq, -decide_eq_false_iff_not, hs1, hs2, hs3, hw1, hw2, hw6, hwl, htk]
 repeat' first | apply And.intro | refine hk _ ?_ | intro hg | (refine CallK.intro (dc_spec_l1Pick_o c hcl (a + 1) (by omega) [1, 3, 4, 8, 2, 7] (by simp)) ?_; simp -dsimp (maxSteps := 2000000) [go_sem, -decide_eq_true_eq, -decide_eq_false_iff_not, hs1, hs2, hs3, hw1, hw2, hw6, hwl, htk]) | omega | exact True.intro
 all_goals clear hk k
 refine rg [0,1,2,3,9,10,30] ?_
 intro k hk; simp -dsimp [go_sem, -decide_eq_true_eq, -decide_eq_false_iff_not, hs1, hs2, hs3, hw1, hw2, hw6, hwl, htk]
 repeat' first | apply And.intro | refine hk _ ?_ | intro hg | omega | exact True.intro
 all_goals clear hk k
 refine AW.cond rfl ?_ ?_
 ·intro hc; try simp at hc
  all_goals try (exfalso; first | contradiction | omega; done)
  all_goals (
 refine AW.regK tiOk (fun i => if i = 2 then [0, 1] else []) ?_
 intro k hk; simp -dsimp (maxSteps := 2000000) [go_sem, -decide_eq_true_eq, -decide_eq_false_iff_not, hs1, hs2, hs3, hw1, hw2, hw6, hwl, htk]
 repeat' first | apply And.intro | refine hk _ ?_ | intro hg | (refine CallK.intro (dc_spec_l1Pick_o c hcl (a + 2) (by omega) [1, 1, 4, 8] (by simp)) ?_; simp -dsimp (maxSteps := 2000000) [go_sem, -decide_eq_true_eq, -decide_eq_false_iff_not, hs1, hs2, hs3, hw1, hw2, hw6, hwl, htk]) | omega | exact True.intro
 all_goals clear hk k
 show Gh _ _
 first | rw [hk0 (by omega)] | rw [hk1 (by omega) (by omega)] | rw [hk2 (by omega) (by omega)]
 refine Gh.done ?_
 show St.Less _ _; exact Less.of rfl (by simp [go_sem, hp0p]) (by simp [go_sem]))
 ·intro hc; try simp at hc
  all_goals try (exfalso; first | contradiction | omega; done)
  all_goals (
 refine AW.skip ?_
 show Gh _ _
 first | rw [hk0 (by omega)] | rw [hk1 (by omega) (by omega)] | rw [hk2 (by omega) (by omega)]
 refine Gh.done ?_
 show St.Less _ _; exact Less.of rfl (by simp [go_sem, hp0p]) (by simp [go_sem])))
 ·intro hc; try simp at hc
  all_goals try (exfalso; first | contradiction | omega; done)
  all_goals (
 refine AW.skip ?_
 show Gh _ _
 first | rw [hk0 (by omega)] | rw [hk1 (by omega) (by omega)] | rw [hk2 (by omega) (by omega)]
 refine Gh.done ?_
 show St.Less _ _; exact Less.of rfl (by simp [go_sem, hp0p]) (by simp [go_sem])))
 ·skip
  refine rg [0,1,3,9,10,11] ?_
  intro k hk; simp -dsimp [go_sem, -decide_eq_true_eq, -decide_eq_false_iff_not, hs1, hs2, hs3, hw1, hw2, hw6, hwl, htk]
  repeat' first | apply And.intro | refine hk _ ?_ | intro hg | omega | exact True.intro
  all_goals clear hk k
  first | (guard_hyp hp0p : p = []; refine AW.cutG ⟨109, [(0, .ptr 1900 2 0 0), (1, .nils), (3, .int .i64 (d : Nat)), (9, .int .i64 (p.length : Nat)), (10, .int .i64 K.1), (11, .ptr 11 6 0 0)], [(1900, some ⟨2, [[.isl 1 (c.map B1), .int .i64 X.2]]⟩), (11, some ⟨6, [[.int .i64 X.1.kind, .int .i64 X.1.par, .str X.1.name, .int .i64 X.1.arg, .isl 4 [], owc 4 (X.1.expr.map TNode.ro)]]⟩)]⟩ ?_ ?_) | refine AW.cutG ⟨109, [(0, .ptr 1900 2 0 0), (1, .sl 1901 6 0 p.length), (3, .int .i64 (d : Nat)), (9, .int .i64 (p.length : Nat)), (10, .int .i64 K.1), (11, .ptr 11 6 0 0)], [(1900, some ⟨2, [[.isl 1 (c.map B1), .int .i64 X.2]]⟩), (1901, some ⟨6, p.map TStep.oc⟩), (11, some ⟨6, [[.int .i64 X.1.kind, .int .i64 X.1.par, .str X.1.name, .int .i64 X.1.arg, .isl 4 [], owc 4 (X.1.expr.map TNode.ro)]]⟩)]⟩ ?_ ?_
  ·skip
   refine rg [0,1,3,9,10,11,37] ?_
   intro k hk; simp -dsimp [go_sem, -decide_eq_true_eq, -decide_eq_false_iff_not, hs1, hs2, hs3, hw1, hw2, hw6, hwl, htk]
   repeat' first | apply And.intro | refine hk _ ?_ | intro hg | omega | exact True.intro
   all_goals clear hk k
   refine AW.block ?_
   refine rg [0,1,3,9,10,11,37,38] ?_
   intro k hk; simp -dsimp [go_sem, -decide_eq_true_eq, -decide_eq_false_iff_not, hs1, hs2, hs3, hw1, hw2, hw6, hwl, htk]
   repeat' first | apply And.intro | refine hk _ ?_ | intro hg | omega | exact True.intro
   all_goals clear hk k
   refine AW.cond rfl ?_ ?_
   ·intro hc; try simp at hc
    all_goals try (exfalso; first | contradiction | omega; done)
    all_goals (
 refine AW.regK tiOk (fun _ => [0]) ?_
 intro k hk; simp -dsimp (maxSteps := 2000000) [go_sem, -decide_eq_true_eq, -decide_eq_false_iff_not, hs1, hs2, hs3, hw1, hw2, hw6, hwl, htk]
 repeat' first | apply And.intro | refine hk _ ?_ | intro hg | (refine CallK.intro (dc_spec_l1Word c hcl K.2 (by omega)) ?_; simp -dsimp (maxSteps := 2000000) [go_sem, -decide_eq_true_eq, -decide_eq_false_iff_not, hs1, hs2, hs3, hw1, hw2, hw6, hwl, htk]) | omega | exact True.intro
 all_goals clear hk k
 show Gh _ _
 first | rw [hx2 (by omega)] | rw [hx5 (by omega)] | rw [hx6 (by omega)] | rw [hx7 (by omega)] | rw [hx0 (by omega)]
 first | refine Gh.fold 11 0 5 1061 rfl rfl rfl rfl (by simp) (by decide) (by simp [go_sem]) ?_ | refine Gh.cellLe 11 0 5 (.isl 4 []) rfl rfl rfl (by simp [go_sem]) ?_
 refine Gh.cellLe 11 0 4 (.isl 4 []) rfl rfl rfl (by simp [go_sem]) ?_
 refine Gh.done ?_
 show St.Less _ _; exact Less.of rfl (by simp [go_sem]) (by simp [go_sem, hoc1]))
   ·intro hc; try simp at hc
    all_goals try (exfalso; first | contradiction | omega; done)
    all_goals (
 refine rg [0,1,3,9,10,11,37,43] ?_
 intro k hk; simp -dsimp [go_sem, -decide_eq_true_eq, -decide_eq_false_iff_not, hs1, hs2, hs3, hw1, hw2, hw6, hwl, htk]
 repeat' first | apply And.intro | refine hk _ ?_ | intro hg | omega | exact True.intro
 all_goals clear hk k
 refine AW.cond rfl ?_ ?_
 ·intro hc; try simp at hc
  all_goals try (exfalso; first | contradiction | omega; done)
  all_goals (
 refine AW.regK tiOk (fun _ => [0]) ?_
 intro k hk; simp -dsimp (maxSteps := 2000000) [go_sem, -decide_eq_true_eq, -decide_eq_false_iff_not, hs1, hs2, hs3, hw1, hw2, hw6, hwl, htk]
 repeat' first | apply And.intro | refine hk _ ?_ | intro hg | (refine CallK.intro (dc_spec_l1Next c hcl K.2 (by omega) 3 (by omega)) ?_; simp -dsimp (maxSteps := 2000000) [go_sem, -decide_eq_true_eq, -decide_eq_false_iff_not, hs1, hs2, hs3, hw1, hw2, hw6, hwl, htk]) | omega | exact True.intro
 all_goals clear hk k
 show Gh _ _
 first | rw [hx2 (by omega)] | rw [hx5 (by omega)] | rw [hx6 (by omega)] | rw [hx7 (by omega)] | rw [hx0 (by omega)]
 first | refine Gh.fold 11 0 5 1061 rfl rfl rfl rfl (by simp) (by decide) (by simp [go_sem]) ?_ | refine Gh.cellLe 11 0 5 (.isl 4 []) rfl rfl rfl (by simp [go_sem]) ?_
 refine Gh.cellLe 11 0 4 (.isl 4 []) rfl rfl rfl (by simp [go_sem]) ?_
 refine Gh.done ?_
 show St.Less _ _; exact Less.of rfl (by simp [go_sem]) (by simp [go_sem, hoc1]))
 ·intro hc; try simp at hc
  all_goals try (exfalso; first | contradiction | omega; done)
  all_goals (
 refine AW.seq ?_
 refine rg [0,1,3,9,10,11,37,48] ?_
 intro k hk; simp -dsimp [go_sem, -decide_eq_true_eq, -decide_eq_false_iff_not, hs1, hs2, hs3, hw1, hw2, hw6, hwl, htk]
 repeat' first | apply And.intro | refine hk _ ?_ | intro hg | omega | exact True.intro
 all_goals clear hk k
 refine AW.cond rfl ?_ ?_
 ·intro hc; try simp at hc
  all_goals try (exfalso; first | contradiction | omega; done)
  all_goals (
 refine AW.skipN (fun _ h => h) ?_
 refine AW.cond rfl ?_ ?_
 ·intro hc; try simp at hc
  all_goals try (exfalso; first | contradiction | omega; done)
  all_goals (
 refine AW.regK tiOk (fun _ => [0]) ?_
 intro k hk; simp -dsimp (maxSteps := 2000000) [go_sem, -decide_eq_true_eq, -decide_eq_false_iff_not, hs1, hs2, hs3, hw1, hw2, hw6, hwl, htk]
 repeat' first | apply And.intro | refine hk _ ?_ | intro hg | (refine CallK.intro (dc_spec_l1Next c hcl K.2 (by omega) 6 (by omega)) ?_; simp -dsimp (maxSteps := 2000000) [go_sem, -decide_eq_true_eq, -decide_eq_false_iff_not, hs1, hs2, hs3, hw1, hw2, hw6, hwl, htk]) | omega | exact True.intro
 all_goals clear hk k
 show Gh _ _
 first | rw [hx2 (by omega)] | rw [hx5 (by omega)] | rw [hx6 (by omega)] | rw [hx7 (by omega)] | rw [hx0 (by omega)]
 first | refine Gh.fold 11 0 5 1061 rfl rfl rfl rfl (by simp) (by decide) (by simp [go_sem]) ?_ | refine Gh.cellLe 11 0 5 (.isl 4 []) rfl rfl rfl (by simp [go_sem]) ?_
 refine Gh.cellLe 11 0 4 (.isl 4 []) rfl rfl rfl (by simp [go_sem]) ?_
 refine Gh.done ?_
 show St.Less _ _; exact Less.of rfl (by simp [go_sem]) (by simp [go_sem, hoc1]))
 ·intro hc; try simp at hc
  all_goals try (exfalso; first | contradiction | omega; done)
  all_goals (
 refine rg [0,1,3,9,10,11,55] ?_
 intro k hk; simp -dsimp [go_sem, -decide_eq_true_eq, -decide_eq_false_iff_not, hs1, hs2, hs3, hw1, hw2, hw6, hwl, htk]
 repeat' first | apply And.intro | refine hk _ ?_ | intro hg | omega | exact True.intro
 all_goals clear hk k
 refine AW.cond rfl ?_ ?_
 ·intro hc; try simp at hc
  all_goals try (exfalso; first | contradiction | omega; done)
  all_goals (
 refine AW.reg tiOk (fun _ => [0]) [0,1,3,9,10,11] ?_
 intro k hk; simp -dsimp (maxSteps := 2000000) [go_sem, -decide_eq_true_eq, -decide_eq_false_iff_not, hs1, hs2, hs3, hw1, hw2, hw6, hwl, htk]
 repeat' first | apply And.intro | refine hk _ ?_ | intro hg | (refine CallK.intro (dc_spec_l1Next c hcl K.2 (by omega) 3 (by omega)) ?_; simp -dsimp (maxSteps := 2000000) [go_sem, -decide_eq_true_eq, -decide_eq_false_iff_not, hs1, hs2, hs3, hw1, hw2, hw6, hwl, htk]) | omega | exact True.intro
 all_goals clear hk k
 refine AW.regK tiOk (fun _ => [0]) ?_
 intro k hk; simp -dsimp (maxSteps := 2000000) [go_sem, -decide_eq_true_eq, -decide_eq_false_iff_not, hs1, hs2, hs3, hw1, hw2, hw6, hwl, htk]
 repeat' first | apply And.intro | refine hk _ ?_ | intro hg | (refine CallK.intro (hdr1) ?_; simp -dsimp (maxSteps := 2000000) [go_sem, -decide_eq_true_eq, -decide_eq_false_iff_not, hs1, hs2, hs3, hw1, hw2, hw6, hwl, htk]) | omega | exact True.intro
 all_goals clear hk k
 show Gh _ _
 first | rw [hx2 (by omega)] | rw [hx5 (by omega)] | rw [hx6 (by omega)] | rw [hx7 (by omega)] | rw [hx0 (by omega)]
 first | refine Gh.fold 11 0 5 1061 rfl rfl rfl rfl (by simp) (by decide) (by simp [go_sem]) ?_ | refine Gh.cellLe 11 0 5 (.isl 4 []) rfl rfl rfl (by simp [go_sem]) ?_
 refine Gh.cellLe 11 0 4 (.isl 4 []) rfl rfl rfl (by simp [go_sem]) ?_
 refine Gh.done ?_
 show St.Less _ _; exact Less.of rfl (by simp [go_sem]) (by simp [go_sem, hoc1]))
 ·intro hc; try simp at hc
  all_goals try (exfalso; first | contradiction | omega; done)
  all_goals (
 refine AW.skip ?_
 show Gh _ _
 first | rw [hx2 (by omega)] | rw [hx5 (by omega)] | rw [hx6 (by omega)] | rw [hx7 (by omega)] | rw [hx0 (by omega)]
 first | refine Gh.fold 11 0 5 1061 rfl rfl rfl rfl (by simp) (by decide) (by simp [go_sem]) ?_ | refine Gh.cellLe 11 0 5 (.isl 4 []) rfl rfl rfl (by simp [go_sem]) ?_
 refine Gh.cellLe 11 0 4 (.isl 4 []) rfl rfl rfl (by simp [go_sem]) ?_
 refine Gh.done ?_
 show St.Less _ _; exact Less.of rfl (by simp [go_sem]) (by simp [go_sem, hoc1]))))
 ·intro hc; try simp at hc
  all_goals try (exfalso; first | contradiction | omega; done)
  all_goals (
 refine rgN [0,1,3,9,10,11,37,48] (fun _ h => h) ?_
 intro k hk; simp -dsimp [go_sem, -decide_eq_true_eq, -decide_eq_false_iff_not, hs1, hs2, hs3, hw1, hw2, hw6, hwl, htk]
 repeat' first | apply And.intro | refine hk _ ?_ | intro hg | omega | exact True.intro
 all_goals clear hk k
 refine AW.cond rfl ?_ ?_
 ·intro hc; try simp at hc
  all_goals try (exfalso; first | contradiction | omega; done)
  all_goals (
 refine AW.regK tiOk (fun _ => [0]) ?_
 intro k hk; simp -dsimp (maxSteps := 2000000) [go_sem, -decide_eq_true_eq, -decide_eq_false_iff_not, hs1, hs2, hs3, hw1, hw2, hw6, hwl, htk]
 repeat' first | apply And.intro | refine hk _ ?_ | intro hg | (refine CallK.intro (dc_spec_l1Next c hcl K.2 (by omega) 6 (by omega)) ?_; simp -dsimp (maxSteps := 2000000) [go_sem, -decide_eq_true_eq, -decide_eq_false_iff_not, hs1, hs2, hs3, hw1, hw2, hw6, hwl, htk]) | omega | exact True.intro
 all_goals clear hk k
 show Gh _ _
 first | rw [hx2 (by omega)] | rw [hx5 (by omega)] | rw [hx6 (by omega)] | rw [hx7 (by omega)] | rw [hx0 (by omega)]
 first | refine Gh.fold 11 0 5 1061 rfl rfl rfl rfl (by simp) (by decide) (by simp [go_sem]) ?_ | refine Gh.cellLe 11 0 5 (.isl 4 []) rfl rfl rfl (by simp [go_sem]) ?_
 refine Gh.cellLe 11 0 4 (.isl 4 []) rfl rfl rfl (by simp [go_sem]) ?_
 refine Gh.done ?_
 show St.Less _ _; exact Less.of rfl (by simp [go_sem]) (by simp [go_sem, hoc1]))
 ·intro hc; try simp at hc
  all_goals try (exfalso; first | contradiction | omega; done)
  all_goals (
 refine rg [0,1,3,9,10,11,55] ?_
 intro k hk; simp -dsimp [go_sem, -decide_eq_true_eq, -decide_eq_false_iff_not, hs1, hs2, hs3, hw1, hw2, hw6, hwl, htk]
 repeat' first | apply And.intro | refine hk _ ?_ | intro hg | omega | exact True.intro
 all_goals clear hk k
 refine AW.cond rfl ?_ ?_
 ·intro hc; try simp at hc
  all_goals try (exfalso; first | contradiction | omega; done)
  all_goals (
 refine AW.reg tiOk (fun _ => [0]) [0,1,3,9,10,11] ?_
 intro k hk; simp -dsimp (maxSteps := 2000000) [go_sem, -decide_eq_true_eq, -decide_eq_false_iff_not, hs1, hs2, hs3, hw1, hw2, hw6, hwl, htk]
 repeat' first | apply And.intro | refine hk _ ?_ | intro hg | (refine CallK.intro (dc_spec_l1Next c hcl K.2 (by omega) 3 (by omega)) ?_; simp -dsimp (maxSteps := 2000000) [go_sem, -decide_eq_true_eq, -decide_eq_false_iff_not, hs1, hs2, hs3, hw1, hw2, hw6, hwl, htk]) | omega | exact True.intro
 all_goals clear hk k
 refine AW.regK tiOk (fun _ => [0]) ?_
 intro k hk; simp -dsimp (maxSteps := 2000000) [go_sem, -decide_eq_true_eq, -decide_eq_false_iff_not, hs1, hs2, hs3, hw1, hw2, hw6, hwl, htk]
 repeat' first | apply And.intro | refine hk _ ?_ | intro hg | (refine CallK.intro (hdr1) ?_; simp -dsimp (maxSteps := 2000000) [go_sem, -decide_eq_true_eq, -decide_eq_false_iff_not, hs1, hs2, hs3, hw1, hw2, hw6, hwl, htk]) | omega | exact True.intro
 all_goals clear hk k
 show Gh _ _
 first | rw [hx2 (by omega)] | rw [hx5 (by omega)] | rw [hx6 (by omega)] | rw [hx7 (by omega)] | rw [hx0 (by omega)]
 first | refine Gh.fold 11 0 5 1061 rfl rfl rfl rfl (by simp) (by decide) (by simp [go_sem]) ?_ | refine Gh.cellLe 11 0 5 (.isl 4 []) rfl rfl rfl (by simp [go_sem]) ?_
 refine Gh.cellLe 11 0 4 (.isl 4 []) rfl rfl rfl (by simp [go_sem]) ?_
 refine Gh.done ?_
 show St.Less _ _; exact Less.of rfl (by simp [go_sem]) (by simp [go_sem, hoc1]))
 ·intro hc; try simp at hc
  all_goals try (exfalso; first | contradiction | omega; done)
  all_goals (
 refine AW.skip ?_
 show Gh _ _
 first | rw [hx2 (by omega)] | rw [hx5 (by omega)] | rw [hx6 (by omega)] | rw [hx7 (by omega)] | rw [hx0 (by omega)]
 first | refine Gh.fold 11 0 5 1061 rfl rfl rfl rfl (by simp) (by decide) (by simp [go_sem]) ?_ | refine Gh.cellLe 11 0 5 (.isl 4 []) rfl rfl rfl (by simp [go_sem]) ?_
 refine Gh.cellLe 11 0 4 (.isl 4 []) rfl rfl rfl (by simp [go_sem]) ?_
 refine Gh.done ?_
 show St.Less _ _; exact Less.of rfl (by simp [go_sem]) (by simp [go_sem, hoc1]))))))
  ·skip
   refine AW.cutG ⟨109, [(0, .ptr 1900 2 0 0), (1, .sl 66 6 0 P1.length), (3, .int .i64 (d : Nat)), (9, .int .i64 (p.length : Nat)), (10, .int .i64 K.1)], [(1900, some ⟨2, [[.isl 1 (c.map B1), .int .i64 X.2]]⟩), (66, some ⟨6, P1.map TStep.oc⟩)]⟩ ?_ ?_
   ·skip
    rcases ccases X.1.expr with ⟨hoc, hoc0⟩ | ⟨hoc, hoc0⟩
    all_goals (
 rw [hoc]
 try refine AW.thaw 11 0 5 7001 rfl rfl rfl (by simp [go_sem]) ?_
 refine rgK ?_
 intro k hk; simp -dsimp [go_sem, -decide_eq_true_eq, -decide_eq_false_iff_not, hs1, hs2, hs3, hw1, hw2, hw6, hwl, htk]
 repeat' first | apply And.intro | refine hk _ ?_ | intro hg | omega | exact True.intro
 all_goals clear hk k)
    all_goals (
 show Gh _ _
 try (guard_hyp hoc0 : 0 < X.1.expr.length; first | refine Gh.fold 66 p.length 5 7001 rfl (app_here (by simp)) rfl rfl (by simp) (by decide) (by simp [go_sem]) ?_ | refine Gh.fold 66 0 5 7001 rfl rfl rfl rfl (by simp) (by decide) (by simp [go_sem]) ?_)
 refine Gh.done ?_)
    all_goals (show St.Less _ _; exact Less.of rfl (by simp [go_sem, hP1l, hp0p]) (by simp [go_sem, hP1, hxc, hoc, List.set_append, hp0p]))
   ·skip
    refine rg [0,1,3,9,10,12] ?_
    intro k hk; simp -dsimp [go_sem, -decide_eq_true_eq, -decide_eq_false_iff_not, hs1, hs2, hs3, hw1, hw2, hw6, hwl, htk]
    repeat' first | apply And.intro | refine hk _ ?_ | intro hg | omega | exact True.intro
    all_goals clear hk k
    refine AW.cutG ⟨109, [(0, .ptr 1900 2 0 0), (1, .sl 66 6 0 P1.length), (3, .int .i64 (d : Nat)), (9, .int .i64 (p.length : Nat)), (10, .int .i64 K.1), (12, .int .i64 (N.1 : Nat))], [(1900, some ⟨2, [[.isl 1 (c.map B1), .int .i64 N.2]]⟩), (66, some ⟨6, P1.map TStep.oc⟩)]⟩ ?_ ?_
    ·skip
     refine rg [0,1,3,9,10,12,67] ?_
     intro k hk; simp -dsimp [go_sem, -decide_eq_true_eq, -decide_eq_false_iff_not, hs1, hs2, hs3, hw1, hw2, hw6, hwl, htk]
     repeat' first | apply And.intro | refine hk _ ?_ | intro hg | omega | exact True.intro
     all_goals clear hk k
     refine AW.block ?_
     refine rg [0,1,3,9,10,12,67,68] ?_
     intro k hk; simp -dsimp [go_sem, -decide_eq_true_eq, -decide_eq_false_iff_not, hs1, hs2, hs3, hw1, hw2, hw6, hwl, htk]
     repeat' first | apply And.intro | refine hk _ ?_ | intro hg | omega | exact True.intro
     all_goals clear hk k
     refine AW.cond rfl ?_ ?_
     ·intro hc; try simp at hc
      all_goals try (exfalso; first | contradiction | omega; done)
      all_goals (
 refine AW.regK tiOk (fun _ => [0]) ?_
 intro k hk; simp -dsimp (maxSteps := 2000000) [go_sem, -decide_eq_true_eq, -decide_eq_false_iff_not, hs1, hs2, hs3, hw1, hw2, hw6, hwl, htk]
 repeat' first | apply And.intro | refine hk _ ?_ | intro hg | (refine CallK.intro (dc_spec_l1Next c hcl X.2 (by omega) 3 (by omega)) ?_; simp -dsimp (maxSteps := 2000000) [go_sem, -decide_eq_true_eq, -decide_eq_false_iff_not, hs1, hs2, hs3, hw1, hw2, hw6, hwl, htk]) | omega | exact True.intro
 all_goals clear hk k
 show Gh _ _
 first | rw [(hn1 (by omega)).1, (hn1 (by omega)).2] | rw [(hn3 (by omega)).1, (hn3 (by omega)).2] | rw [(hn8 (by omega)).1, (hn8 (by omega)).2] | rw [(hn0 (by omega)).1, (hn0 (by omega)).2]
 refine Gh.done ?_
 show St.Less _ _; exact Less.of rfl (by simp [go_sem]) (by simp [go_sem]))
     ·intro hc; try simp at hc
      all_goals try (exfalso; first | contradiction | omega; done)
      all_goals (
 refine AW.seq ?_
 refine rg [0,1,3,9,10,12,67,73] ?_
 intro k hk; simp -dsimp [go_sem, -decide_eq_true_eq, -decide_eq_false_iff_not, hs1, hs2, hs3, hw1, hw2, hw6, hwl, htk]
 repeat' first | apply And.intro | refine hk _ ?_ | intro hg | omega | exact True.intro
 all_goals clear hk k
 refine AW.cond rfl ?_ ?_
 ·intro hc; try simp at hc
  all_goals try (exfalso; first | contradiction | omega; done)
  all_goals (
 refine AW.skipN (fun _ h => h) ?_
 refine AW.cond rfl ?_ ?_
 ·intro hc; try simp at hc
  all_goals try (exfalso; first | contradiction | omega; done)
  all_goals (
 refine AW.regK tiOk (fun _ => [0]) ?_
 intro k hk; simp -dsimp (maxSteps := 2000000) [go_sem, -decide_eq_true_eq, -decide_eq_false_iff_not, hs1, hs2, hs3, hw1, hw2, hw6, hwl, htk]
 repeat' first | apply And.intro | refine hk _ ?_ | intro hg | (refine CallK.intro (dc_spec_l1Next c hcl X.2 (by omega) 2 (by omega)) ?_; simp -dsimp (maxSteps := 2000000) [go_sem, -decide_eq_true_eq, -decide_eq_false_iff_not, hs1, hs2, hs3, hw1, hw2, hw6, hwl, htk]) | omega | exact True.intro
 all_goals clear hk k
 show Gh _ _
 first | rw [(hn1 (by omega)).1, (hn1 (by omega)).2] | rw [(hn3 (by omega)).1, (hn3 (by omega)).2] | rw [(hn8 (by omega)).1, (hn8 (by omega)).2] | rw [(hn0 (by omega)).1, (hn0 (by omega)).2]
 refine Gh.done ?_
 show St.Less _ _; exact Less.of rfl (by simp [go_sem]) (by simp [go_sem]))
 ·intro hc; try simp at hc
  all_goals try (exfalso; first | contradiction | omega; done)
  all_goals (
 refine rg [0,1,3,9,10,12,79] ?_
 intro k hk; simp -dsimp [go_sem, -decide_eq_true_eq, -decide_eq_false_iff_not, hs1, hs2, hs3, hw1, hw2, hw6, hwl, htk]
 repeat' first | apply And.intro | refine hk _ ?_ | intro hg | omega | exact True.intro
 all_goals clear hk k
 refine AW.cond rfl ?_ ?_
 ·intro hc; try simp at hc
  all_goals try (exfalso; first | contradiction | omega; done)
  all_goals (
 refine rgK ?_
 intro k hk; simp -dsimp [go_sem, -decide_eq_true_eq, -decide_eq_false_iff_not, hs1, hs2, hs3, hw1, hw2, hw6, hwl, htk]
 repeat' first | apply And.intro | refine hk _ ?_ | intro hg | omega | exact True.intro
 all_goals clear hk k
 show Gh _ _
 first | rw [(hn1 (by omega)).1, (hn1 (by omega)).2] | rw [(hn3 (by omega)).1, (hn3 (by omega)).2] | rw [(hn8 (by omega)).1, (hn8 (by omega)).2] | rw [(hn0 (by omega)).1, (hn0 (by omega)).2]
 refine Gh.done ?_
 show St.Less _ _; exact Less.of rfl (by simp [go_sem]) (by simp [go_sem]))
 ·intro hc; try simp at hc
  all_goals try (exfalso; first | contradiction | omega; done)
  all_goals (
 refine AW.skip ?_
 show Gh _ _
 first | rw [(hn1 (by omega)).1, (hn1 (by omega)).2] | rw [(hn3 (by omega)).1, (hn3 (by omega)).2] | rw [(hn8 (by omega)).1, (hn8 (by omega)).2] | rw [(hn0 (by omega)).1, (hn0 (by omega)).2]
 refine Gh.done ?_
 show St.Less _ _; exact Less.of rfl (by simp [go_sem]) (by simp [go_sem]))))
 ·intro hc; try simp at hc
  all_goals try (exfalso; first | contradiction | omega; done)
  all_goals (
 refine rgN [0,1,3,9,10,12,67,73] (fun _ h => h) ?_
 intro k hk; simp -dsimp [go_sem, -decide_eq_true_eq, -decide_eq_false_iff_not, hs1, hs2, hs3, hw1, hw2, hw6, hwl, htk]
 repeat' first | apply And.intro | refine hk _ ?_ | intro hg | omega | exact True.intro
 all_goals clear hk k
 refine AW.cond rfl ?_ ?_
 ·intro hc; try simp at hc
  all_goals try (exfalso; first | contradiction | omega; done)
  all_goals (
 refine AW.regK tiOk (fun _ => [0]) ?_
 intro k hk; simp -dsimp (maxSteps := 2000000) [go_sem, -decide_eq_true_eq, -decide_eq_false_iff_not, hs1, hs2, hs3, hw1, hw2, hw6, hwl, htk]
 repeat' first | apply And.intro | refine hk _ ?_ | intro hg | (refine CallK.intro (dc_spec_l1Next c hcl X.2 (by omega) 2 (by omega)) ?_; simp -dsimp (maxSteps := 2000000) [go_sem, -decide_eq_true_eq, -decide_eq_false_iff_not, hs1, hs2, hs3, hw1, hw2, hw6, hwl, htk]) | omega | exact True.intro
 all_goals clear hk k
 show Gh _ _
 first | rw [(hn1 (by omega)).1, (hn1 (by omega)).2] | rw [(hn3 (by omega)).1, (hn3 (by omega)).2] | rw [(hn8 (by omega)).1, (hn8 (by omega)).2] | rw [(hn0 (by omega)).1, (hn0 (by omega)).2]
 refine Gh.done ?_
 show St.Less _ _; exact Less.of rfl (by simp [go_sem]) (by simp [go_sem]))
 ·intro hc; try simp at hc
  all_goals try (exfalso; first | contradiction | omega; done)
  all_goals (
 refine rg [0,1,3,9,10,12,79] ?_
 intro k hk; simp -dsimp [go_sem, -decide_eq_true_eq, -decide_eq_false_iff_not, hs1, hs2, hs3, hw1, hw2, hw6, hwl, htk]
 repeat' first | apply And.intro | refine hk _ ?_ | intro hg | omega | exact True.intro
 all_goals clear hk k
 refine AW.cond rfl ?_ ?_
 ·intro hc; try simp at hc
  all_goals try (exfalso; first | contradiction | omega; done)
  all_goals (
 refine rgK ?_
 intro k hk; simp -dsimp [go_sem, -decide_eq_true_eq, -decide_eq_false_iff_not, hs1, hs2, hs3, hw1, hw2, hw6, hwl, htk]
 repeat' first | apply And.intro | refine hk _ ?_ | intro hg | omega | exact True.intro
 all_goals clear hk k
 show Gh _ _
 first | rw [(hn1 (by omega)).1, (hn1 (by omega)).2] | rw [(hn3 (by omega)).1, (hn3 (by omega)).2] | rw [(hn8 (by omega)).1, (hn8 (by omega)).2] | rw [(hn0 (by omega)).1, (hn0 (by omega)).2]
 refine Gh.done ?_
 show St.Less _ _; exact Less.of rfl (by simp [go_sem]) (by simp [go_sem]))
 ·intro hc; try simp at hc
  all_goals try (exfalso; first | contradiction | omega; done)
  all_goals (
 refine AW.skip ?_
 show Gh _ _
 first | rw [(hn1 (by omega)).1, (hn1 (by omega)).2] | rw [(hn3 (by omega)).1, (hn3 (by omega)).2] | rw [(hn8 (by omega)).1, (hn8 (by omega)).2] | rw [(hn0 (by omega)).1, (hn0 (by omega)).2]
 refine Gh.done ?_
 show St.Less _ _; exact Less.of rfl (by simp [go_sem]) (by simp [go_sem])))))
    ·skip
     refine AW.seq ?_
     refine rg [0,1,3,9,10,12,13] ?_
     intro k hk; simp -dsimp [go_sem, -decide_eq_true_eq, -decide_eq_false_iff_not, hs1, hs2, hs3, hw1, hw2, hw6, hwl, htk]
     repeat' first | apply And.intro | refine hk _ ?_ | intro hg | omega | exact True.intro
     all_goals clear hk k
     refine AW.block ?_
     refine AW.rename 66 1093 rfl (by simp [go_sem]) (by simp [go_sem]) ?_
     refine AW.loopI (fun q : Nat × Int × List TStep => ⟨109, [(0, .ptr 1900 2 0 0), (1, .sl 1093 6 0 q.2.2.length), (3, .int .i64 (d : Nat)), (9, .int .i64 (p.length : Nat)), (10, .int .i64 K.1), (12, .int .i64 (N.1 : Nat)), (13, .int .i64 (q.1 : Nat))], [(1900, some ⟨2, [[.isl 1 (c.map B1), .int .i64 q.2.1]]⟩), (1093, some ⟨6, q.2.2.map TStep.oc⟩)]⟩) (fun q => q.1 ≤ N.1 ∧ Lp c d (p.length : Int) (decide (K.1 = 3)) W (N.1 - q.1) q.2.1 q.2.2) (fun q => N.1 - q.1) ((0, N.2, P1)) (⟨Nat.zero_le _, hLp⟩) (Less.of rfl (by simp [go_sem]) (by simp [go_sem])) ?_
     rintro ⟨i, A, P⟩ ⟨hi, hLi⟩
     refine AW.rename 1093 66 rfl (by simp [go_sem]) (by simp [go_sem]) ?_
     simp only at hi hLi
     refine AW.seq ?_
     refine rg [0,1,3,9,10,12,13,83] ?_
     intro k hk; simp -dsimp [go_sem, -decide_eq_true_eq, -decide_eq_false_iff_not, hs1, hs2, hs3, hw1, hw2, hw6, hwl, htk]
     repeat' first | apply And.intro | refine hk _ ?_ | intro hg | omega | exact True.intro
     all_goals clear hk k
     refine AW.cond rfl ?_ ?_
     ·intro hc; try simp at hc
      all_goals try (exfalso; first | contradiction | omega; done)
      all_goals (
 have hlt : i < N.1 := by first | assumption | omega
 obtain ⟨m, hm⟩ : ∃ m, N.1 - i = m + 1 := ⟨N.1 - i - 1, by omega⟩
 rw [hm] at hLi
 obtain ⟨e, he, hA0, hA1, hA2, hA3, hkid⟩ := hLi.kid
 have hAe := A4_pos e
 have hcall := hM e (p.length : Int) A P he hA0 (by omega) (by omega) hA3
 obtain ⟨Q, hQ⟩ : ∃ Z, mk4 c e (p.length : Int) A P = Z := ⟨_, rfl⟩
 obtain ⟨q1, q2, q3, q4, q5, q6⟩ := hkid Q hQ
 rw [hQ] at hcall
 obtain ⟨R, hR⟩ : ∃ Z, drE c 2 Q.2 = Z := ⟨_, rfl⟩
 have hdl := drE_len c 2 Q.2
 have hdr := dc_spec_l3Draw_b c hcl Q.2 (by omega)
 rw [hR] at hdr hdl
 obtain ⟨y, hy⟩ := at_some (l := Q.1) (i := P.length) (by omega)
 have hy3 := gel hy
 have hyq : P.length < Q.1.length := by omega
 have hwd : IntKind.wrap .i64 ((d : Int) - 1) = (e : Int) := (wrap64 (by omega) (by omega)).trans (by omega)
 have htkP : (P.map TStep.oc).take P.length = P.map TStep.oc := List.take_of_length_le (by rw [List.length_map]; exact Nat.le_refl _)
 have hoc2 : owc 4 (R.1.map TNode.ro) = .osl 4 (R.1.map TNode.ro) := owc_ne (by intro e; have h9 := congrArg List.length e; rw [List.length_map, List.length_nil] at h9; omega)
 have hwi : IntKind.wrap .i64 ((i : Int) + 1) = (i : Int) + 1 := wrap64 (by omega) (by omega)
 refine AW.skipN (fun _ h => h) ?_
 refine AW.seq ?_
 refine AW.block ?_
 refine rg [0,1,3,9,10,12,13,14] ?_
 intro k hk; simp -dsimp [go_sem, -decide_eq_true_eq, -decide_eq_false_iff_not, hs1, hs2, hs3, hw1, hw2, hw6, hwl, htk, hwi]
 repeat' first | apply And.intro | refine hk _ ?_ | intro hg | omega | exact True.intro
 all_goals clear hk k
 refine AW.reg tiOk (fun i => if i = 5 then [0, 1] else []) [0,1,3,9,10,12,13,14] ?_
 intro k hk; simp -dsimp (maxSteps := 2000000) [go_sem, -decide_eq_true_eq, -decide_eq_false_iff_not, hs1, hs2, hs3, hw1, hw2, hw6, hwl, htk, hwi, hwd, htkP]
 repeat' first | apply And.intro | refine hk _ ?_ | intro hg | (refine CallK.intro (hcall) ?_; simp -dsimp (maxSteps := 2000000) [go_sem, -decide_eq_true_eq, -decide_eq_false_iff_not, hs1, hs2, hs3, hw1, hw2, hw6, hwl, htk, hwi, hwd, htkP]) | omega | exact True.intro
 all_goals clear hk k
 refine rg [0,1,3,9,10,12,13,14,101] ?_
 intro k hk; simp +contextual -dsimp (maxSteps := 2000000) [go_sem, -decide_eq_true_eq, -decide_eq_false_iff_not, hs1, hs2, hs3, hw1, hw2, hw6, hwl, htk, hwi]
 repeat' first | apply And.intro | refine hk _ ?_ | (intro hg; try simp only [decide_eq_true_eq, decide_eq_false_iff_not] at hg) | omega | exact True.intro
 all_goals clear hk k
 all_goals (
 refine AW.cond rfl ?_ ?_
 ·intro hc; try simp at hc
  all_goals try (exfalso; first | contradiction | omega; done)
  all_goals (
 refine AW.regN0 tiOk (fun _ => [0]) [0,1,3,9,10,12,13] (fun _ h => h) ?_
 intro k hk; simp -dsimp (maxSteps := 2000000) [go_sem, -decide_eq_true_eq, -decide_eq_false_iff_not, hs1, hs2, hs3, hw1, hw2, hw6, hwl, htk, hwi, hy, hy3, hyq]
 repeat' first | apply And.intro | refine hk _ ?_ | intro hg | (refine CallK.intro (hdr) ?_; simp -dsimp (maxSteps := 2000000) [go_sem, -decide_eq_true_eq, -decide_eq_false_iff_not, hs1, hs2, hs3, hw1, hw2, hw6, hwl, htk, hwi, hy, hy3, hyq]) | omega | exact True.intro
 all_goals clear hk k
 try refine AW.fold 1093 P.length 4 1105 rfl (node_here (by simp; omega)) rfl rfl (by simp) (by decide) (by simp [go_sem]) ?_
 refine rgK ?_
 intro k hk; simp -dsimp [go_sem, -decide_eq_true_eq, -decide_eq_false_iff_not, hs1, hs2, hs3, hw1, hw2, hw6, hwl, htk, hwi]
 repeat' first | apply And.intro | refine hk _ ?_ | intro hg | omega | exact True.intro
 all_goals clear hk k
 show ∃ _, _
 first | (have hx9 : K.1 = 3 ∧ i + 1 < N.1 := (by omega); refine ⟨(i + 1, R.2, setC Q.1 P.length R.1), ⟨by simp only; omega, by simp only; rw [show N.1 - (i + 1) = m by omega]; exact q5 R hR ⟨by simpa using hx9.1, by omega⟩⟩, by simp only; omega, Less.of rfl (by simp [go_sem, hwi, setC_len]) (by simp [go_sem, setC_at hy, hoc2])⟩) | (refine ⟨(i + 1, Q.2, Q.1), ⟨by simp only; omega, by simp only; rw [show N.1 - (i + 1) = m by omega]; exact q6 (by simp only [decide_eq_true_eq]; omega)⟩, by simp only; omega, Less.of rfl (by simp [go_sem, hwi]) (by simp [go_sem])⟩))
 ·intro hc; try simp at hc
  all_goals try (exfalso; first | contradiction | omega; done)
  all_goals (
 refine AW.skipN (fun _ h => h) ?_
 try refine AW.fold 1093 P.length 4 1105 rfl (node_here (by simp; omega)) rfl rfl (by simp) (by decide) (by simp [go_sem]) ?_
 refine rgK ?_
 intro k hk; simp -dsimp [go_sem, -decide_eq_true_eq, -decide_eq_false_iff_not, hs1, hs2, hs3, hw1, hw2, hw6, hwl, htk, hwi]
 repeat' first | apply And.intro | refine hk _ ?_ | intro hg | omega | exact True.intro
 all_goals clear hk k
 show ∃ _, _
 first | (have hx9 : K.1 = 3 ∧ i + 1 < N.1 := (by omega); refine ⟨(i + 1, R.2, setC Q.1 P.length R.1), ⟨by simp only; omega, by simp only; rw [show N.1 - (i + 1) = m by omega]; exact q5 R hR ⟨by simpa using hx9.1, by omega⟩⟩, by simp only; omega, Less.of rfl (by simp [go_sem, hwi, setC_len]) (by simp [go_sem, setC_at hy, hoc2])⟩) | (refine ⟨(i + 1, Q.2, Q.1), ⟨by simp only; omega, by simp only; rw [show N.1 - (i + 1) = m by omega]; exact q6 (by simp only [decide_eq_true_eq]; omega)⟩, by simp only; omega, Less.of rfl (by simp [go_sem, hwi]) (by simp [go_sem])⟩))))
     ·intro hc; try simp at hc
      all_goals try (exfalso; first | contradiction | omega; done)
      all_goals (
 refine AW.exitN (fun _ h => h) ?_
 refine rg [0,8] ?_
 intro k hk; simp -dsimp [go_sem, -decide_eq_true_eq, -decide_eq_false_iff_not, hs1, hs2, hs3, hw1, hw2, hw6, hwl, htk]
 repeat' first | apply And.intro | refine hk _ ?_ | intro hg | omega | exact True.intro
 all_goals clear hk k
 refine rt ?_
 have hz : N.1 - i = 0 := (by omega)
 rw [hz] at hLi
 have hwz := hLi.1
 rw [lp4_zero] at hwz
 simp [go_sem, Try.results38, hW, ← hwz]))
end Go.AM
namespace Go.AM
open Go.Proofs
theorem dc_mk4_o (c : List UInt8) (hcl : c.length ≤ 1048576) : ∀ d : Nat, d ≤ 10 → ∀ (par a : Int) (p : List TStep), 0 ≤ a → a + A4 d ≤ 4000000 → p.length + L4 d ≤ 1000 → (∀ s ∈ p, Sm s) → DC Try.prog 38 [.op [.isl 1 (c.map B1), .int .i64 a], .osl 6 (p.map TStep.oc), .int .i64 par, .int .i64 (d : Nat)] (.osl 6 ((mk4 c d par a p).1.map TStep.oc)) [(0, .op [.isl 1 (c.map B1), .int .i64 (mk4 c d par a p).2])] := by
 intro d
 induction d with
 | zero => intro hd par a p h1 h2 h3 h4; exact dc_spec_l4Make_u c hcl 0 hd (fun e par a p he => by omega) par a ⟨h1, h2⟩ p _ (Or.inl ⟨rfl, rfl, rfl⟩) h4 h3
 | succ d ih =>
  intro hd par a p h1 h2 h3 h4
  exact dc_spec_l4Make_u c hcl (d + 1) hd (fun e par a p he g1 g2 g3 g4 => by obtain rfl : d = e := (by omega); exact ih (by omega) par a p g1 g2 g3 g4) par a ⟨h1, h2⟩ p _ (Or.inl ⟨rfl, rfl, rfl⟩) h4 h3
theorem dc_mk4_n (c : List UInt8) (hcl : c.length ≤ 1048576) (d : Nat) (hd : d ≤ 10) (par a : Int) (h1 : 0 ≤ a) (h2 : a + A4 d ≤ 4000000) (h3 : 0 + L4 d ≤ 1000) : DC Try.prog 38 [.op [.isl 1 (c.map B1), .int .i64 a], .nils, .int .i64 par, .int .i64 (d : Nat)] (.osl 6 ((mk4 c d par a []).1.map TStep.oc)) [(0, .op [.isl 1 (c.map B1), .int .i64 (mk4 c d par a []).2])] :=
 dc_spec_l4Make_u c hcl d hd (fun e par a p he g1 g2 g3 g4 => dc_mk4_o c hcl e (by omega) par a p g1 g2 g3 g4) par a ⟨h1, h2⟩ [] _ (Or.inr ⟨rfl, rfl, rfl⟩) (by intro s hs; cases hs) h3
set_option maxHeartbeats 8000000 in
theorem dc_spec_l4Right (c : List UInt8) (hcl : c.length ≤ 1048576) (a : Int) (ha : 0 ≤ a ∧ a ≤ 1000000) : DC Try.prog 21 [.op [.isl 1 (c.map B1), .int .i64 a]] (.osl 6 ((rt4 c 20 a).1.map TStep.oc)) [(0, .op [.isl 1 (c.map B1), .int .i64 (rt4 c 20 a).2])] := by
 obtain ⟨W, hW⟩ : ∃ Z, rt4 c 20 a = Z := ⟨_, rfl⟩
 refine DC.intro tiOk Try.func21 rfl rfl rfl rfl rfl rfl rfl (by simp [noW, noWo]) [1000] ?_
 refine rgA [0] ?_
 refine AW.seq ?_
 refine rgA [0,3] ?_
 refine AW.block ?_
 refine AW.loopI (fun q : Nat × Int => ⟨20, [(0, .ptr 1900 2 0 0), (3, .int .i64 (q.1 : Nat))], [(1900, some ⟨2, [[.isl 1 (c.map B1), .int .i64 q.2]]⟩)]⟩) (fun q => q.1 ≤ 20 ∧ 0 ≤ q.2 ∧ q.2 + ((20 - q.1 : Nat) : Int) * 8101 ≤ 2000000 ∧ rt4 c (20 - q.1) q.2 = W) (fun q => 20 - q.1) ((0, a)) (⟨by omega, by simp only; omega, by simp only; omega, hW⟩) (Less.of rfl (by simp [go_sem]) (by simp [go_sem])) ?_
 rintro ⟨i, A⟩ ⟨hi, hA0, hA1, hLi⟩
 simp only at hi hA0 hA1 hLi
 refine AW.seq ?_
 refine rgA [0,3,6] ?_
 refine AW.cond rfl ?_ ?_
 ·intro hc; try simp at hc
  all_goals try (exfalso; first | contradiction | omega; done)
  all_goals (
 have hlt : i < 20 := by first | assumption | omega
 obtain ⟨m, hm⟩ : ∃ m, 20 - i = m + 1 := ⟨20 - i - 1, by omega⟩
 rw [hm] at hLi hA1
 have hb2 := (nx_bd c (a := A) (n := 2) (by omega)); have hc2 := hb2.2 (by omega)
 obtain ⟨D, hD⟩ : ∃ Z, (2 + nx c A 2).toNat = Z := ⟨_, rfl⟩
 have hwd : IntKind.wrap .i64 (2 + nx c A 2) = (D : Int) := (wrap64 (by omega) (by omega)).trans (by omega)
 have hD2 : A4 D ≤ 8100 ∧ L4 D ≤ 100 := by rcases (show D = 2 ∨ D = 3 by omega) with h | h <;> rw [h] <;> decide
 have hcall := dc_mk4_n c hcl D (by omega) (-1) (A + 1) (by omega) (by omega) (by omega)
 have hbq := mk4_bd c D (-1) (A + 1) [] (by omega) (by intro s hs; cases hs)
 obtain ⟨Q, hQ⟩ : ∃ Z, mk4 c D (-1) (A + 1) [] = Z := ⟨_, rfl⟩
 rw [hQ] at hcall hbq
 have hwi : IntKind.wrap .i64 ((i : Int) + 1) = (i : Int) + 1 := wrap64 (by omega) (by omega)
 refine AW.skipN (fun _ h => h) ?_
 refine AW.seq ?_
 refine AW.block ?_
 refine AW.reg tiOk (fun i => if i = 2 ∨ i = 4 then [0] else []) [0,3,4] ?_
 intro k hk; simp -dsimp (maxSteps := 2000000) [go_sem, -decide_eq_true_eq, -decide_eq_false_iff_not, hwi, hwd]
 repeat' first | apply And.intro | refine hk _ ?_ | intro hg | ((first | refine CallK.intro (dc_spec_l1Next c hcl A (by omega) 2 (by omega)) ?_ | refine CallK.intro (hcall) ?_); simp -dsimp (maxSteps := 2000000) [go_sem, -decide_eq_true_eq, -decide_eq_false_iff_not, hwi, hwd]) | omega | exact True.intro
 all_goals clear hk k
 refine rg [0,3,4,16] ?_
 intro k hk; simp -dsimp [go_sem, -decide_eq_true_eq, -decide_eq_false_iff_not, hwi]
 repeat' first | apply And.intro | refine hk _ ?_ | intro hg | omega | exact True.intro
 all_goals clear hk k
 refine AW.cond rfl ?_ ?_
 ·intro hc; try simp at hc
  all_goals try (exfalso; first | contradiction | omega; done)
  all_goals (
 refine rg [0,2] ?_
 intro k hk; simp -dsimp [go_sem, -decide_eq_true_eq, -decide_eq_false_iff_not, hwi]
 repeat' first | apply And.intro | refine hk _ ?_ | intro hg | omega | exact True.intro
 all_goals clear hk k
 try (refine AW.cellLe 19 0 4 (.isl 4 []) rfl rfl rfl (by simp [go_sem]) ?_; refine AW.cellLe 19 0 5 (.isl 4 []) rfl rfl rfl (by simp [go_sem]) ?_)
 refine rt ?_
 first | (have hb := rt4_a (m := m) hD hQ (by omega); rw [hb] at hLi; simp [go_sem, Try.results21, hW, ← hLi]; done) | (have hz : 20 - i = 0 := (by omega); rw [hz] at hLi; have hr := rt4_z c A; rw [hr] at hLi; simp [go_sem, Try.results21, hW, ← hLi]))
 ·intro hc; try simp at hc
  all_goals try (exfalso; first | contradiction | omega; done)
  all_goals (
 refine AW.skipN (fun _ h => h) ?_
 refine rgK ?_
 intro k hk; simp -dsimp [go_sem, -decide_eq_true_eq, -decide_eq_false_iff_not, hwi]
 repeat' first | apply And.intro | refine hk _ ?_ | intro hg | omega | exact True.intro
 all_goals clear hk k
 show ∃ _, _
 have hb := rt4_b (m := m) hD hQ (by omega)
 rw [hb] at hLi
 refine ⟨(i + 1, Q.2), ⟨by simp only; omega, by simp only; omega, by simp only; rw [show 20 - (i + 1) = m by omega]; push_cast at hA1; omega, by simp only; rw [show 20 - (i + 1) = m by omega]; exact hLi⟩, by simp only; omega, Less.of rfl (by simp [go_sem, hwi]) (by simp [go_sem])⟩))
 ·intro hc; try simp at hc
  all_goals try (exfalso; first | contradiction | omega; done)
  all_goals (
 refine AW.exitN (fun _ h => h) ?_
 refine rgA [0,2] ?_
 try (refine AW.cellLe 19 0 4 (.isl 4 []) rfl rfl rfl (by simp [go_sem]) ?_; refine AW.cellLe 19 0 5 (.isl 4 []) rfl rfl rfl (by simp [go_sem]) ?_)
 refine rt ?_
 first | (have hb := rt4_a (m := m) hD hQ (by omega); rw [hb] at hLi; simp [go_sem, Try.results21, hW, ← hLi]; done) | (have hz : 20 - i = 0 := (by omega); rw [hz] at hLi; have hr := rt4_z c A; rw [hr] at hLi; simp [go_sem, Try.results21, hW, ← hLi]))
end Go.AM
namespace Go.AM
open Go.Proofs
set_option maxHeartbeats 16000000 in
theorem dc_spec_l4Bent (c : List UInt8) (hcl : c.length ≤ 1048576) (a : Int) (ha : 0 ≤ a ∧ a ≤ 1000000) : DC Try.prog 10 [.op [.isl 1 (c.map B1), .int .i64 a]] (.osl 6 ((be4 c a).1.map TStep.oc)) [(0, .op [.isl 1 (c.map B1), .int .i64 (be4 c a).2])] := by
 have hrc := dc_spec_l4Right c hcl a ha
 have hdl := rt4_bd c 20 a ha.1
 obtain ⟨R, hR⟩ : ∃ Z, rt4 c 20 a = Z := ⟨_, rfl⟩
 rw [hR] at hdl hrc
 have hbi := nx_bd c (a := R.2) (n := (R.1.length : Nat)) (by omega)
 have hbj := hbi.2 (by omega)
 obtain ⟨x, hx⟩ := at_some (l := R.1) (i := (nx c R.2 (R.1.length : Nat)).toNat) (by omega)
 have hx3 := gel hx
 have hs1 : R.2 + 1 + 1 = R.2 + 2 := by omega
 have hs2 : R.2 + 2 + 1 = R.2 + 3 := by omega
 have htk : (R.1.map TStep.oc).take R.1.length = R.1.map TStep.oc := List.take_of_length_le (by rw [List.length_map]; exact Nat.le_refl _)
 have hbe := dc_spec_l3Bent c hcl (R.2 + 2) (by omega)
 have hbl := be3_len c (a := R.2 + 2) (by omega)
 obtain ⟨B, hB⟩ : ∃ Z, be3 c (R.2 + 2) = Z := ⟨_, rfl⟩
 rw [hB] at hbe hbl
 have hoc1 : owc 4 (B.1.map TNode.ro) = .osl 4 (B.1.map TNode.ro) := owc_ne (by intro e; have h9 := congrArg List.length e; rw [List.length_map, List.length_nil] at h9; omega)
 refine DC.intro tiOk Try.func10 rfl rfl rfl rfl rfl rfl rfl (by simp [noW, noWo]) [1000] ?_
 refine rg [0] ?_
 intro k hk; simp -dsimp [go_sem, -decide_eq_true_eq, -decide_eq_false_iff_not, hs1, hs2, htk, hbi.1, hbj]
 repeat' first | apply And.intro | refine hk _ ?_ | intro hg | omega | exact True.intro | omega | fail
 all_goals clear hk k
 refine AW.reg tiOk (fun _ => [0]) [0,3] ?_
 intro k hk; simp -dsimp (maxSteps := 2000000) [go_sem, -decide_eq_true_eq, -decide_eq_false_iff_not, hs1, hs2, htk, hbi.1, hbj]
 repeat' first | apply And.intro | refine hk _ ?_ | intro hg | (refine CallK.intro (hrc) ?_; simp -dsimp (maxSteps := 2000000) [go_sem, -decide_eq_true_eq, -decide_eq_false_iff_not, hs1, hs2, htk, hbi.1, hbj]) | omega | exact True.intro | omega | fail
 all_goals clear hk k
 refine AW.reg tiOk (fun i => if i = 3 then [0] else []) [0,3,4] ?_
 intro k hk; simp -dsimp (maxSteps := 2000000) [go_sem, -decide_eq_true_eq, -decide_eq_false_iff_not, hs1, hs2, htk, hbi.1, hbj]
 repeat' first | apply And.intro | refine hk _ ?_ | intro hg | (refine CallK.intro (dc_spec_l1Next c hcl R.2 (by omega) (R.1.length : Nat) (by omega)) ?_; simp -dsimp (maxSteps := 2000000) [go_sem, -decide_eq_true_eq, -decide_eq_false_iff_not, hs1, hs2, htk, hbi.1, hbj]) | omega | exact True.intro | omega | fail
 all_goals clear hk k
 refine AW.seq ?_
 refine AW.reg tiOk (fun _ => [0]) [0,3,4,12] ?_
 intro k hk; simp -dsimp (maxSteps := 2000000) [go_sem, -decide_eq_true_eq, -decide_eq_false_iff_not, hs1, hs2, htk, hbi.1, hbj]
 repeat' first | apply And.intro | refine hk _ ?_ | intro hg | (refine CallK.intro (dc_spec_l1Next c hcl (R.2 + 1) (by omega) 16 (by omega)) ?_; simp -dsimp (maxSteps := 2000000) [go_sem, -decide_eq_true_eq, -decide_eq_false_iff_not, hs1, hs2, htk, hbi.1, hbj]) | omega | exact True.intro | omega | fail
 all_goals clear hk k
 refine AW.block ?_
 refine rg [0,3,4,12,13] ?_
 intro k hk; simp -dsimp [go_sem, -decide_eq_true_eq, -decide_eq_false_iff_not, hs1, hs2, htk, hbi.1, hbj]
 repeat' first | apply And.intro | refine hk _ ?_ | intro hg | omega | exact True.intro | omega | fail
 all_goals clear hk k
 refine AW.cond rfl ?_ ?_
 ·intro hc; try simp at hc
  all_goals try (exfalso; first | contradiction | omega; done)
  all_goals (
 refine AW.regN tiOk (fun i => if i = 4 then [0, 1] else []) [0,3] (fun _ h => h) ?_
 intro k hk; simp -dsimp (maxSteps := 2000000) [go_sem, -decide_eq_true_eq, -decide_eq_false_iff_not, hs1, hs2, htk, hbi.1, hbj, hx, hx3]
 repeat' first | apply And.intro | refine hk _ ?_ | intro hg | (refine CallK.intro (dc_spec_l1Pick_o c hcl (R.2 + 2) (by omega) [0, 9, 1, 2, 3] (by simp)) ?_; simp -dsimp (maxSteps := 2000000) [go_sem, -decide_eq_true_eq, -decide_eq_false_iff_not, hs1, hs2, htk, hbi.1, hbj, hx, hx3]) | omega | exact True.intro | omega | fail
 all_goals clear hk k
 try (refine AW.repLe 69 (n := 25) [.int .i64 0, .int .i64 0, .str [], .int .i64 0, .isl 4 [], .isl 4 []] rfl (by simp [leL, leA0]) ?_)
 try (guard_hyp hsl : True; refine AW.shrink 1006 (nx c R.2 (R.1.length : Nat)).toNat rfl ?_)
 try refine AW.fold 1006 (nx c R.2 (R.1.length : Nat)).toNat 4 1045 rfl (node_here (by simp; omega)) rfl rfl (by simp) (by decide) (by simp [go_sem]) ?_
 try refine AW.fold 1006 (nx c R.2 (R.1.length : Nat)).toNat 5 1053 rfl (node_here (by simp; omega)) rfl rfl (by simp) (by decide) (by simp [go_sem]) ?_
 refine rg [0,2] ?_
 intro k hk; simp -dsimp [go_sem, -decide_eq_true_eq, -decide_eq_false_iff_not, hs1, hs2, htk, hbi.1, hbj]
 repeat' first | apply And.intro | refine hk _ ?_ | intro hg | omega | exact True.intro | omega | fail
 all_goals clear hk k
 refine rt ?_
 first | (simp [go_sem, *, Try.results10, be4, st0]; done) | (simp [go_sem, *, Try.results10, be4, st0]; exact ⟨(Nat.min_eq_left (by omega)).symm, fun c hc x hx => (TStep_oc_treeL R.1).2 True.intro c (List.mem_of_mem_take hc) x hx⟩) | (simp [go_sem, *, Try.results10, be4, st0]; exact tree_setA (by simp [go_sem]) (by simp [go_sem])))
 ·intro hc; try simp at hc
  all_goals try (exfalso; first | contradiction | omega; done)
  all_goals (
 refine rg [0,3,4,12,22] ?_
 intro k hk; simp -dsimp [go_sem, -decide_eq_true_eq, -decide_eq_false_iff_not, hs1, hs2, htk, hbi.1, hbj]
 repeat' first | apply And.intro | refine hk _ ?_ | intro hg | omega | exact True.intro | omega | fail
 all_goals clear hk k
 refine AW.cond rfl ?_ ?_
 ·intro hc; try simp at hc
  all_goals try (exfalso; first | contradiction | omega; done)
  all_goals (
 refine AW.regN tiOk (fun i => if i = 4 then [0, 1] else []) [0,3] (fun _ h => h) ?_
 intro k hk; simp -dsimp (maxSteps := 2000000) [go_sem, -decide_eq_true_eq, -decide_eq_false_iff_not, hs1, hs2, htk, hbi.1, hbj, hx, hx3]
 repeat' first | apply And.intro | refine hk _ ?_ | intro hg | (refine CallK.intro (dc_spec_l1Pick_o c hcl (R.2 + 2) (by omega) [-1, 0, 1, 24] (by simp)) ?_; simp -dsimp (maxSteps := 2000000) [go_sem, -decide_eq_true_eq, -decide_eq_false_iff_not, hs1, hs2, htk, hbi.1, hbj, hx, hx3]) | omega | exact True.intro | omega | fail
 all_goals clear hk k
 try (refine AW.repLe 69 (n := 25) [.int .i64 0, .int .i64 0, .str [], .int .i64 0, .isl 4 [], .isl 4 []] rfl (by simp [leL, leA0]) ?_)
 try (guard_hyp hsl : True; refine AW.shrink 1006 (nx c R.2 (R.1.length : Nat)).toNat rfl ?_)
 try refine AW.fold 1006 (nx c R.2 (R.1.length : Nat)).toNat 4 1045 rfl (node_here (by simp; omega)) rfl rfl (by simp) (by decide) (by simp [go_sem]) ?_
 try refine AW.fold 1006 (nx c R.2 (R.1.length : Nat)).toNat 5 1053 rfl (node_here (by simp; omega)) rfl rfl (by simp) (by decide) (by simp [go_sem]) ?_
 refine rg [0,2] ?_
 intro k hk; simp -dsimp [go_sem, -decide_eq_true_eq, -decide_eq_false_iff_not, hs1, hs2, htk, hbi.1, hbj]
 repeat' first | apply And.intro | refine hk _ ?_ | intro hg | omega | exact True.intro | omega | fail
 all_goals clear hk k
 refine rt ?_
 first | (simp [go_sem, *, Try.results10, be4, st0]; done) | (simp [go_sem, *, Try.results10, be4, st0]; exact ⟨(Nat.min_eq_left (by omega)).symm, fun c hc x hx => (TStep_oc_treeL R.1).2 True.intro c (List.mem_of_mem_take hc) x hx⟩) | (simp [go_sem, *, Try.results10, be4, st0]; exact tree_setA (by simp [go_sem]) (by simp [go_sem])))
 ·intro hc; try simp at hc
  all_goals try (exfalso; first | contradiction | omega; done)
  all_goals (
 refine rg [0,3,4,12,31] ?_
 intro k hk; simp -dsimp [go_sem, -decide_eq_true_eq, -decide_eq_false_iff_not, hs1, hs2, htk, hbi.1, hbj]
 repeat' first | apply And.intro | refine hk _ ?_ | intro hg | omega | exact True.intro | omega | fail
 all_goals clear hk k
 refine AW.cond rfl ?_ ?_
 ·intro hc; try simp at hc
  all_goals try (exfalso; first | contradiction | omega; done)
  all_goals (
 refine AW.regN tiOk (fun i => if i = 4 then [0, 1] else []) [0,3] (fun _ h => h) ?_
 intro k hk; simp -dsimp (maxSteps := 2000000) [go_sem, -decide_eq_true_eq, -decide_eq_false_iff_not, hs1, hs2, htk, hbi.1, hbj, hx, hx3]
 repeat' first | apply And.intro | refine hk _ ?_ | intro hg | (refine CallK.intro (dc_spec_l1Pick_o c hcl (R.2 + 2) (by omega) [-1, 0, 100, 5] (by simp)) ?_; simp -dsimp (maxSteps := 2000000) [go_sem, -decide_eq_true_eq, -decide_eq_false_iff_not, hs1, hs2, htk, hbi.1, hbj, hx, hx3]) | omega | exact True.intro | omega | fail
 all_goals clear hk k
 try (refine AW.repLe 69 (n := 25) [.int .i64 0, .int .i64 0, .str [], .int .i64 0, .isl 4 [], .isl 4 []] rfl (by simp [leL, leA0]) ?_)
 try (guard_hyp hsl : True; refine AW.shrink 1006 (nx c R.2 (R.1.length : Nat)).toNat rfl ?_)
 try refine AW.fold 1006 (nx c R.2 (R.1.length : Nat)).toNat 4 1045 rfl (node_here (by simp; omega)) rfl rfl (by simp) (by decide) (by simp [go_sem]) ?_
 try refine AW.fold 1006 (nx c R.2 (R.1.length : Nat)).toNat 5 1053 rfl (node_here (by simp; omega)) rfl rfl (by simp) (by decide) (by simp [go_sem]) ?_
 refine rg [0,2] ?_
 intro k hk; simp -dsimp [go_sem, -decide_eq_true_eq, -decide_eq_false_iff_not, hs1, hs2, htk, hbi.1, hbj]
 repeat' first | apply And.intro | refine hk _ ?_ | intro hg | omega | exact True.intro | omega | fail
 all_goals clear hk k
 refine rt ?_
 first | (simp [go_sem, *, Try.results10, be4, st0]; done) | (simp [go_sem, *, Try.results10, be4, st0]; exact ⟨(Nat.min_eq_left (by omega)).symm, fun c hc x hx => (TStep_oc_treeL R.1).2 True.intro c (List.mem_of_mem_take hc) x hx⟩) | (simp [go_sem, *, Try.results10, be4, st0]; exact tree_setA (by simp [go_sem]) (by simp [go_sem])))
 ·intro hc; try simp at hc
  all_goals try (exfalso; first | contradiction | omega; done)
  all_goals (
 refine rg [0,3,4,12,40] ?_
 intro k hk; simp -dsimp [go_sem, -decide_eq_true_eq, -decide_eq_false_iff_not, hs1, hs2, htk, hbi.1, hbj]
 repeat' first | apply And.intro | refine hk _ ?_ | intro hg | omega | exact True.intro | omega | fail
 all_goals clear hk k
 refine AW.cond rfl ?_ ?_
 ·intro hc; try simp at hc
  all_goals try (exfalso; first | contradiction | omega; done)
  all_goals (
 refine AW.regN0 tiOk (fun i => if i = 3 then [0] else []) [0,3] (fun _ h => h) ?_
 intro k hk; simp -dsimp (maxSteps := 2000000) [go_sem, -decide_eq_true_eq, -decide_eq_false_iff_not, hs1, hs2, htk, hbi.1, hbj, hx, hx3]
 repeat' first | apply And.intro | refine hk _ ?_ | intro hg | (refine CallK.intro (hbe) ?_; simp -dsimp (maxSteps := 2000000) [go_sem, -decide_eq_true_eq, -decide_eq_false_iff_not, hs1, hs2, htk, hbi.1, hbj, hx, hx3]) | omega | exact True.intro | omega | fail
 all_goals clear hk k
 try (refine AW.repLe 69 (n := 25) [.int .i64 0, .int .i64 0, .str [], .int .i64 0, .isl 4 [], .isl 4 []] rfl (by simp [leL, leA0]) ?_)
 try (guard_hyp hsl : True; refine AW.shrink 1006 (nx c R.2 (R.1.length : Nat)).toNat rfl ?_)
 try refine AW.fold 1006 (nx c R.2 (R.1.length : Nat)).toNat 4 1045 rfl (node_here (by simp; omega)) rfl rfl (by simp) (by decide) (by simp [go_sem]) ?_
 try refine AW.fold 1006 (nx c R.2 (R.1.length : Nat)).toNat 5 1053 rfl (node_here (by simp; omega)) rfl rfl (by simp) (by decide) (by simp [go_sem]) ?_
 refine rg [0,2] ?_
 intro k hk; simp -dsimp [go_sem, -decide_eq_true_eq, -decide_eq_false_iff_not, hs1, hs2, htk, hbi.1, hbj]
 repeat' first | apply And.intro | refine hk _ ?_ | intro hg | omega | exact True.intro | omega | fail
 all_goals clear hk k
 refine rt ?_
 first | (simp [go_sem, *, Try.results10, be4, st0]; done) | (simp [go_sem, *, Try.results10, be4, st0]; exact ⟨(Nat.min_eq_left (by omega)).symm, fun c hc x hx => (TStep_oc_treeL R.1).2 True.intro c (List.mem_of_mem_take hc) x hx⟩) | (simp [go_sem, *, Try.results10, be4, st0]; exact tree_setA (by simp [go_sem]) (by simp [go_sem])))
 ·intro hc; try simp at hc
  all_goals try (exfalso; first | contradiction | omega; done)
  all_goals (
 refine rg [0,3,4,12,48] ?_
 intro k hk; simp -dsimp [go_sem, -decide_eq_true_eq, -decide_eq_false_iff_not, hs1, hs2, htk, hbi.1, hbj]
 repeat' first | apply And.intro | refine hk _ ?_ | intro hg | omega | exact True.intro | omega | fail
 all_goals clear hk k
 refine AW.cond rfl ?_ ?_
 ·intro hc; try simp at hc
  all_goals try (exfalso; first | contradiction | omega; done)
  all_goals (
 refine AW.regN0 tiOk (fun i => if i = 3 then [0] else []) [0,3] (fun _ h => h) ?_
 intro k hk; simp -dsimp (maxSteps := 2000000) [go_sem, -decide_eq_true_eq, -decide_eq_false_iff_not, hs1, hs2, htk, hbi.1, hbj, hx, hx3]
 repeat' first | apply And.intro | refine hk _ ?_ | intro hg | (refine CallK.intro (hbe) ?_; simp -dsimp (maxSteps := 2000000) [go_sem, -decide_eq_true_eq, -decide_eq_false_iff_not, hs1, hs2, htk, hbi.1, hbj, hx, hx3]) | omega | exact True.intro | omega | fail
 all_goals clear hk k
 try (refine AW.repLe 69 (n := 25) [.int .i64 0, .int .i64 0, .str [], .int .i64 0, .isl 4 [], .isl 4 []] rfl (by simp [leL, leA0]) ?_)
 try (guard_hyp hsl : True; refine AW.shrink 1006 (nx c R.2 (R.1.length : Nat)).toNat rfl ?_)
 try refine AW.fold 1006 (nx c R.2 (R.1.length : Nat)).toNat 4 1045 rfl (node_here (by simp; omega)) rfl rfl (by simp) (by decide) (by simp [go_sem]) ?_
 try refine AW.fold 1006 (nx c R.2 (R.1.length : Nat)).toNat 5 1053 rfl (node_here (by simp; omega)) rfl rfl (by simp) (by decide) (by simp [go_sem]) ?_
 refine rg [0,2] ?_
 intro k hk; simp -dsimp [go_sem, -decide_eq_true_eq, -decide_eq_false_iff_not, hs1, hs2, htk, hbi.1, hbj]
 repeat' first | apply And.intro | refine hk _ ?_ | intro hg | omega | exact True.intro | omega | fail
 all_goals clear hk k
 refine rt ?_
 first | (simp [go_sem, *, Try.results10, be4, st0]; done) | (simp [go_sem, *, Try.results10, be4, st0]; exact ⟨(Nat.min_eq_left (by omega)).symm, fun c hc x hx => (TStep_oc_treeL R.1).2 True.intro c (List.mem_of_mem_take hc) x hx⟩) | (simp [go_sem, *, Try.results10, be4, st0]; exact tree_setA (by simp [go_sem]) (by simp [go_sem])))
 ·intro hc; try simp at hc
  all_goals try (exfalso; first | contradiction | omega; done)
  all_goals (
 refine rg [0,3,4,12,56] ?_
 intro k hk; simp -dsimp [go_sem, -decide_eq_true_eq, -decide_eq_false_iff_not, hs1, hs2, htk, hbi.1, hbj]
 repeat' first | apply And.intro | refine hk _ ?_ | intro hg | omega | exact True.intro | omega | fail
 all_goals clear hk k
 refine AW.cond rfl ?_ ?_
 ·intro hc; try simp at hc
  all_goals try (exfalso; first | contradiction | omega; done)
  all_goals (
 have hb3 := nx_bd c (a := R.2 + 2) (n := 3) (by omega)
 have hc3 := hb3.2 (by omega)
 rcases (show nx c (R.2 + 2) 3 = 0 ∨ nx c (R.2 + 2) 3 = 1 ∨ nx c (R.2 + 2) 3 = 2 by omega) with h6 | h6 | h6
 all_goals (
 refine AW.regN tiOk (fun i => if i = 4 then [0] else []) [0,3] (fun _ h => h) ?_
 intro k hk; simp -dsimp (maxSteps := 2000000) [go_sem, -decide_eq_true_eq, -decide_eq_false_iff_not, hs1, hs2, htk, hbi.1, hbj, hx, hx3, h6]
 repeat' first | apply And.intro | refine hk _ ?_ | intro hg | (refine CallK.intro (dc_spec_l1Next c hcl (R.2 + 2) (by omega) 3 (by omega)) ?_; simp -dsimp (maxSteps := 2000000) [go_sem, -decide_eq_true_eq, -decide_eq_false_iff_not, hs1, hs2, htk, hbi.1, hbj, hx, hx3, h6]) | omega | exact True.intro | omega | fail
 all_goals clear hk k
 try (refine AW.repLe 69 (n := 25) [.int .i64 0, .int .i64 0, .str [], .int .i64 0, .isl 4 [], .isl 4 []] rfl (by simp [leL, leA0]) ?_)
 try (guard_hyp hsl : True; refine AW.shrink 1006 (nx c R.2 (R.1.length : Nat)).toNat rfl ?_)
 try refine AW.fold 1006 (nx c R.2 (R.1.length : Nat)).toNat 4 1045 rfl (node_here (by simp; omega)) rfl rfl (by simp) (by decide) (by simp [go_sem]) ?_
 try refine AW.fold 1006 (nx c R.2 (R.1.length : Nat)).toNat 5 1053 rfl (node_here (by simp; omega)) rfl rfl (by simp) (by decide) (by simp [go_sem]) ?_
 refine rg [0,2] ?_
 intro k hk; simp -dsimp [go_sem, -decide_eq_true_eq, -decide_eq_false_iff_not, hs1, hs2, htk, hbi.1, hbj]
 repeat' first | apply And.intro | refine hk _ ?_ | intro hg | omega | exact True.intro | omega | fail
 all_goals clear hk k
 refine rt ?_
 first | (simp [go_sem, *, Try.results10, be4, st0]; done) | (simp [go_sem, *, Try.results10, be4, st0]; exact ⟨(Nat.min_eq_left (by omega)).symm, fun c hc x hx => (TStep_oc_treeL R.1).2 True.intro c (List.mem_of_mem_take hc) x hx⟩) | (simp [go_sem, *, Try.results10, be4, st0]; exact tree_setA (by simp [go_sem]) (by simp [go_sem]))))
 ·intro hc; try simp at hc
  all_goals try (exfalso; first | contradiction | omega; done)
  all_goals (
 refine rg [0,3,4,12,67] ?_
 intro k hk; simp -dsimp [go_sem, -decide_eq_true_eq, -decide_eq_false_iff_not, hs1, hs2, htk, hbi.1, hbj]
 repeat' first | apply And.intro | refine hk _ ?_ | intro hg | omega | exact True.intro | omega | fail
 all_goals clear hk k
 refine AW.cond rfl ?_ ?_
 ·intro hc; try simp at hc
  all_goals try (exfalso; first | contradiction | omega; done)
  all_goals (
 refine rgN [0,3] (fun _ h => h) ?_
 intro k hk; simp -dsimp [go_sem, -decide_eq_true_eq, -decide_eq_false_iff_not, hs1, hs2, htk, hbi.1, hbj]
 repeat' first | apply And.intro | refine hk _ ?_ | intro hg | omega | exact True.intro | omega | fail
 all_goals clear hk k
 try (refine AW.repLe 69 (n := 25) [.int .i64 0, .int .i64 0, .str [], .int .i64 0, .isl 4 [], .isl 4 []] rfl (by simp [leL, leA0]) ?_)
 try (guard_hyp hsl : True; refine AW.shrink 1006 (nx c R.2 (R.1.length : Nat)).toNat rfl ?_)
 try refine AW.fold 1006 (nx c R.2 (R.1.length : Nat)).toNat 4 1045 rfl (node_here (by simp; omega)) rfl rfl (by simp) (by decide) (by simp [go_sem]) ?_
 try refine AW.fold 1006 (nx c R.2 (R.1.length : Nat)).toNat 5 1053 rfl (node_here (by simp; omega)) rfl rfl (by simp) (by decide) (by simp [go_sem]) ?_
 refine rg [0,2] ?_
 intro k hk; simp -dsimp [go_sem, -decide_eq_true_eq, -decide_eq_false_iff_not, hs1, hs2, htk, hbi.1, hbj]
 repeat' first | apply And.intro | refine hk _ ?_ | intro hg | omega | exact True.intro | omega | fail
 all_goals clear hk k
 refine rt ?_
 first | (simp [go_sem, *, Try.results10, be4, st0]; done) | (simp [go_sem, *, Try.results10, be4, st0]; exact ⟨(Nat.min_eq_left (by omega)).symm, fun c hc x hx => (TStep_oc_treeL R.1).2 True.intro c (List.mem_of_mem_take hc) x hx⟩) | (simp [go_sem, *, Try.results10, be4, st0]; exact tree_setA (by simp [go_sem]) (by simp [go_sem])))
 ·intro hc; try simp at hc
  all_goals try (exfalso; first | contradiction | omega; done)
  all_goals (
 refine rg [0,3,4,70] ?_
 intro k hk; simp -dsimp [go_sem, -decide_eq_true_eq, -decide_eq_false_iff_not, hs1, hs2, htk, hbi.1, hbj]
 repeat' first | apply And.intro | refine hk _ ?_ | intro hg | omega | exact True.intro | omega | fail
 all_goals clear hk k
 refine AW.cond rfl ?_ ?_
 ·intro hc; try simp at hc
  all_goals try (exfalso; first | contradiction | omega; done)
  all_goals (
 have hsl : True := True.intro
 refine rgN [0,3] (fun _ h => h) ?_
 intro k hk; simp -dsimp [go_sem, -decide_eq_true_eq, -decide_eq_false_iff_not, hs1, hs2, htk, hbi.1, hbj]
 repeat' first | apply And.intro | refine hk _ ?_ | intro hg | omega | exact True.intro | omega | fail
 all_goals clear hk k
 try (refine AW.repLe 69 (n := 25) [.int .i64 0, .int .i64 0, .str [], .int .i64 0, .isl 4 [], .isl 4 []] rfl (by simp [leL, leA0]) ?_)
 try (guard_hyp hsl : True; refine AW.shrink 1006 (nx c R.2 (R.1.length : Nat)).toNat rfl ?_)
 try refine AW.fold 1006 (nx c R.2 (R.1.length : Nat)).toNat 4 1045 rfl (node_here (by simp; omega)) rfl rfl (by simp) (by decide) (by simp [go_sem]) ?_
 try refine AW.fold 1006 (nx c R.2 (R.1.length : Nat)).toNat 5 1053 rfl (node_here (by simp; omega)) rfl rfl (by simp) (by decide) (by simp [go_sem]) ?_
 refine rg [0,2] ?_
 intro k hk; simp -dsimp [go_sem, -decide_eq_true_eq, -decide_eq_false_iff_not, hs1, hs2, htk, hbi.1, hbj]
 repeat' first | apply And.intro | refine hk _ ?_ | intro hg | omega | exact True.intro | omega | fail
 all_goals clear hk k
 refine rt ?_
 first | (simp [go_sem, *, Try.results10, be4, st0]; done) | (simp [go_sem, *, Try.results10, be4, st0]; exact ⟨(Nat.min_eq_left (by omega)).symm, fun c hc x hx => (TStep_oc_treeL R.1).2 True.intro c (List.mem_of_mem_take hc) x hx⟩) | (simp [go_sem, *, Try.results10, be4, st0]; exact tree_setA (by simp [go_sem]) (by simp [go_sem])))
 ·intro hc; try simp at hc
  all_goals try (exfalso; first | contradiction | omega; done)
  all_goals (
 refine AW.skipN (fun _ h => h) ?_
 try (refine AW.repLe 69 (n := 25) [.int .i64 0, .int .i64 0, .str [], .int .i64 0, .isl 4 [], .isl 4 []] rfl (by simp [leL, leA0]) ?_)
 try (guard_hyp hsl : True; refine AW.shrink 1006 (nx c R.2 (R.1.length : Nat)).toNat rfl ?_)
 try refine AW.fold 1006 (nx c R.2 (R.1.length : Nat)).toNat 4 1045 rfl (node_here (by simp; omega)) rfl rfl (by simp) (by decide) (by simp [go_sem]) ?_
 try refine AW.fold 1006 (nx c R.2 (R.1.length : Nat)).toNat 5 1053 rfl (node_here (by simp; omega)) rfl rfl (by simp) (by decide) (by simp [go_sem]) ?_
 refine rg [0,2] ?_
 intro k hk; simp -dsimp [go_sem, -decide_eq_true_eq, -decide_eq_false_iff_not, hs1, hs2, htk, hbi.1, hbj]
 repeat' first | apply And.intro | refine hk _ ?_ | intro hg | omega | exact True.intro | omega | fail
 all_goals clear hk k
 refine rt ?_
 first | (simp [go_sem, *, Try.results10, be4, st0]; done) | (simp [go_sem, *, Try.results10, be4, st0]; exact ⟨(Nat.min_eq_left (by omega)).symm, fun c hc x hx => (TStep_oc_treeL R.1).2 True.intro c (List.mem_of_mem_take hc) x hx⟩) | (simp [go_sem, *, Try.results10, be4, st0]; exact tree_setA (by simp [go_sem]) (by simp [go_sem]))))))))))
end Go.AM
