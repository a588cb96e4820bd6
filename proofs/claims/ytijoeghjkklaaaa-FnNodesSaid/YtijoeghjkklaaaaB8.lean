/- Joined texts: Di Pc Pc2 Pc3 Pc4 Pc5 Pc6 Pt3 Ppl Pga M1 Q2 Ba Bb G1 G2 Bc. -/
import Derived.Test.YtijoeghjkklaaaaB1
import Derived.Test.YtijoeghjkklaaaaB2
import Derived.Test.YtijoeghjkklaaaaB3
import Derived.Test.YtijoeghjkklaaaaB4
import Derived.Test.YtijoeghjkklaaaaB5
import Derived.Test.YtijoeghjkklaaaaB6
import Derived.Test.YtijoeghjkklaaaaB7
set_option linter.unusedVariables false
set_option linter.unusedSimpArgs false
set_option maxHeartbeats 600000
set_option maxRecDepth 100000
namespace Go.AM
open Go.Proofs
set_option maxHeartbeats 4000000 in
theorem dc_spec_DrawNodeFor (c : List UInt8) (hcl : c.length ≤ 1048576) : DC Try.prog 5 [.isl 1 (c.map B1)] (.tup [.osl 6 ((dNp c).map TStep.oc), .int .i64 (dNs c)]) [] := by
 have hb4 := be4_bd c (a := 0) (by omega)
 have hcb := dc_spec_l4Bent c hcl 0 (by omega)
 obtain ⟨R, hR⟩ : ∃ Z, be4 c 0 = Z := ⟨_, rfl⟩
 rw [hR] at hb4 hcb
 have hbn := nx_bd c (a := R.2) (n := (R.1.length : Int) + 2) (by omega)
 have hbm := hbn.2 (by omega)
 have hw1 : IntKind.wrap .i64 ((R.1.length : Int) + 2) = (R.1.length : Int) + 2 := wrap64 (by omega) (by omega)
 have hw2 : IntKind.wrap .i64 (nx c R.2 ((R.1.length : Int) + 2) - 1) = nx c R.2 ((R.1.length : Int) + 2) - 1 := wrap64 (by omega) (by omega)
 refine DC.intro tiOk Try.func5 rfl rfl rfl rfl rfl rfl rfl rfl [1001] ?_
 refine rg [0] ?_
 intro k hk; simp -dsimp [go_sem, -decide_eq_true_eq, -decide_eq_false_iff_not, hw1, hw2]
 repeat' first | apply And.intro | refine hk _ ?_ | intro hg | omega | exact True.intro
 all_goals clear hk k
 refine rg [4] ?_
 intro k hk; simp -dsimp (maxSteps := 2000000) [go_sem, -decide_eq_true_eq, -decide_eq_false_iff_not, hw1, hw2]
 repeat' first | apply And.intro | refine hk _ ?_ | intro hg | (refine CallK.intro (dc_spec_l1Source c) ?_; simp -dsimp (maxSteps := 2000000) [go_sem, -decide_eq_true_eq, -decide_eq_false_iff_not, hw1, hw2]) | omega | exact True.intro
 all_goals clear hk k
 refine AW.reg tiOk (fun _ => [0]) [4,5] ?_
 intro k hk; simp -dsimp (maxSteps := 2000000) [go_sem, -decide_eq_true_eq, -decide_eq_false_iff_not, hw1, hw2]
 repeat' first | apply And.intro | refine hk _ ?_ | intro hg | (refine CallK.intro (hcb) ?_; simp -dsimp (maxSteps := 2000000) [go_sem, -decide_eq_true_eq, -decide_eq_false_iff_not, hw1, hw2]) | omega | exact True.intro
 all_goals clear hk k
 refine AW.reg tiOk (fun i => if i = 5 then [0] else []) [2,3] ?_
 intro k hk; simp -dsimp (maxSteps := 2000000) [go_sem, -decide_eq_true_eq, -decide_eq_false_iff_not, hw1, hw2]
 repeat' first | apply And.intro | refine hk _ ?_ | intro hg | (refine CallK.intro (dc_spec_l1Next c hcl R.2 (by omega) ((R.1.length : Int) + 2) (by omega)) ?_; simp -dsimp (maxSteps := 2000000) [go_sem, -decide_eq_true_eq, -decide_eq_false_iff_not, hw1, hw2]) | omega | exact True.intro
 all_goals clear hk k
 refine rt ?_
 simp [go_sem, Try.results5, dNp, dNs, hR]
end Go.AM
namespace Go.AM
def PreOk (l : List Int) : Prop := ParOk l ∧ ∀ k : Nat, 0 < k → k < l.length → 0 ≤ l.getD k 0 ∧ upB l ((k : Int) - 1) (l.getD k 0) = true
theorem upF_take {l : List Int} (m : Nat) : ∀ (f : Nat) (a par : Int), a < m → (∀ k, k < m → l.getD k 0 < (k : Int)) → upF (l.take m) f a par = upF l f a par := by
 intro f
 induction f with
 | zero => intro a par _ _; rfl
 | succ f ih =>
  intro a par ha hk
  simp only [upF]
  split
  ·rfl
  ·rename_i h0
   split
   ·rfl
   ·have e : (l.take m).getD a.toNat 0 = l.getD a.toNat 0 := by
     simp only [List.getD, List.getElem?_take]
     rw [if_pos (by omega)]
    rw [e]
    exact ih _ _ (by have := hk a.toNat (by omega); omega) hk
theorem StepsOk.pre {p : List TStep} (h : StepsOk p) : PreOk (pars p) := by
 refine ⟨h.par, fun k h0 hk => ?_⟩
 rw [pars_len] at hk
 have h1 := stepF_par (h.one k hk)
 have h2 := h.par
 rw [pars_get hk]
 have hl : ((pars p).take k).length = k := by rw [List.length_take, pars_len]; omega
 unfold parF at h1
 rw [hl] at h1
 split at h1
 ·cases h1
 ·rename_i h3
  split at h1
  ·cases h1
  ·rename_i h4
   have h5 := h.parI h0 hk
   refine ⟨h5.1, ?_⟩
   have h6 : upB ((pars p).take k) ((k : Int) - 1) (nS p k).par = true := by
    cases h7 : upB ((pars p).take k) ((k : Int) - 1) (nS p k).par with
    | true => rfl
    | false => exact absurd ⟨h0, h7⟩ h4
   unfold upB at h6 ⊢
   rwa [upF_take k _ _ _ (by omega) (fun j hj => (h2 j (by rw [pars_len]; omega)).2)] at h6
theorem up_gone {l : List Int} (hl : PreOk l) {a s : Nat} (has : a < s) (hs : s < l.length) (hp : l.getD s 0 = l.getD a 0) :
  ∀ (m j : Nat), j ≤ m → s ≤ j → j < l.length → ∀ x : Nat, a ≤ x → x < s → upB l j x = false := by
 intro m
 induction m with
 | zero => intro j hj h1 h2 x _ _; omega
 | succ m ih =>
  intro j hj h1 h2 x hx1 hx2
  have hpj := hl.1 j h2
  rw [upB_eq hl.1 (by omega) (by omega), if_neg (by omega), Int.toNat_natCast]
  rcases Nat.lt_or_ge s j with h3 | h3
  ·-- a later one
   have h4 := hl.2 j (by omega) h2
   rcases Int.lt_or_le (l.getD j 0) s with h5 | h5
   ·rcases Int.lt_or_le (l.getD j 0) a with h6 | h6
    ·exact upB_lt hl.1 (x + 1) _ (by omega) (by omega) (by omega)
    ·exfalso
     have h7 := ih (j - 1) (by omega) (by omega) (by omega) (l.getD j 0).toNat (by omega) (by omega)
     have e1 : ((j - 1 : Nat) : Int) = (j : Int) - 1 := by omega
     have e2 : (((l.getD j 0).toNat : Nat) : Int) = l.getD j 0 := by omega
     rw [e1, e2, h4.2] at h7; cases h7
   ·have e2 : (((l.getD j 0).toNat : Nat) : Int) = l.getD j 0 := by omega
    have := ih (l.getD j 0).toNat (by omega) (by omega) (by omega) x hx1 hx2
    rwa [e2] at this
  ·have : j = s := by omega
   subst this
   rw [hp]
   have ha := hl.1 a (by omega)
   exact upB_lt hl.1 (x + 1) _ (by omega) (by omega) (by omega)
def sibF (l : List Int) (par : Int) : Nat → Nat → Int
 | 0, _ => -1
 | f + 1, k => if k < l.length then (if l.getD k 0 = par then (k : Int) else sibF l par f (k + 1)) else -1
def sib (l : List Int) (at_ : Nat) : Int := sibF l (l.getD at_ 0) l.length (at_ + 1)
theorem sibF_ok {l : List Int} {par : Int} : ∀ (f k : Nat), l.length ≤ k + f → (sibF l par f k = -1 ∧ ∀ j, k ≤ j → j < l.length → l.getD j 0 ≠ par) ∨ ∃ s : Nat, sibF l par f k = s ∧ k ≤ s ∧ s < l.length ∧ l.getD s 0 = par ∧ ∀ j, k ≤ j → j < s → l.getD j 0 ≠ par := by
 intro f
 induction f with
 | zero => intro k hk; exact Or.inl ⟨rfl, fun j h1 h2 => by omega⟩
 | succ f ih =>
  intro k hk
  simp only [sibF]
  split
  ·rename_i h1
   split
   ·rename_i h2
    exact Or.inr ⟨k, rfl, Nat.le_refl _, h1, h2, fun j h3 h4 => by omega⟩
   ·rename_i h2
    rcases ih (k + 1) (by omega) with ⟨h3, h4⟩ | ⟨s, h3, h4, h5, h6, h7⟩
    ·refine Or.inl ⟨h3, fun j h5 h6 => ?_⟩
     rcases Nat.lt_or_ge k j with h8 | h8
     ·exact h4 j h8 h6
     ·have : j = k := by omega
      subst this; exact h2
    ·refine Or.inr ⟨s, h3, by omega, h5, h6, fun j h8 h9 => ?_⟩
     rcases Nat.lt_or_ge k j with h10 | h10
     ·exact h7 j h10 h9
     ·have : j = k := by omega
      subst this; exact h2
  ·exact Or.inl ⟨rfl, fun j h1 h2 => by omega⟩
theorem sib_ok (l : List Int) (a : Nat) : (sib l a = -1 ∧ ∀ j, a < j → j < l.length → l.getD j 0 ≠ l.getD a 0) ∨ ∃ s : Nat, sib l a = s ∧ a < s ∧ s < l.length ∧ l.getD s 0 = l.getD a 0 ∧ ∀ j, a < j → j < s → l.getD j 0 ≠ l.getD a 0 := sibF_ok l.length (a + 1) (by omega)
def enF (l : List Int) : Nat → Nat → Nat
 | 0, _ => l.length
 | f + 1, a => if 0 ≤ sib l a then (sib l a).toNat else if l.getD a 0 < 0 then l.length else enF l f (l.getD a 0).toNat
def en (l : List Int) (a : Nat) : Nat := enF l (a + 1) a
theorem enF_more {l : List Int} (hl : ParOk l) : ∀ (f g a : Nat), a < l.length → a < f → a < g → enF l f a = enF l g a := by
 intro f
 induction f with
 | zero => intro g a _ h; omega
 | succ f ih =>
  intro g a ha hf hg
  obtain ⟨g, rfl⟩ : ∃ g', g = g' + 1 := ⟨g - 1, by omega⟩
  simp only [enF]
  have := hl a ha
  split
  ·rfl
  ·split
   ·rfl
   ·exact ih g _ (by omega) (by omega) (by omega)
theorem en_sib {l : List Int} {a s : Nat} (h : sib l a = s) : en l a = s := by
 unfold en; simp only [enF]; rw [h, if_pos (by omega)]; rfl
theorem en_top {l : List Int} {a : Nat} (h : sib l a = -1) (h2 : l.getD a 0 < 0) : en l a = l.length := by
 unfold en; simp only [enF]; rw [h, if_neg (by omega), if_pos h2]
theorem en_up {l : List Int} (hl : ParOk l) {a : Nat} (ha : a < l.length) (h : sib l a = -1) (h2 : 0 ≤ l.getD a 0) : en l a = en l (l.getD a 0).toNat := by
 have := hl a ha
 have e : en l a = enF l a (l.getD a 0).toNat := by
  unfold en
  rw [enF, h, if_neg (by omega), if_neg (by omega)]
 rw [e]
 exact enF_more hl a ((l.getD a 0).toNat + 1) _ (by omega) (by omega) (by omega)
theorem up_en {l : List Int} (hl : PreOk l) : ∀ (m q : Nat), q ≤ m → q < l.length → ∀ k : Nat, k < l.length → upB l k q = true → k < en l q := by
 intro m
 induction m with
 | zero =>
  intro q hq hql k hk hu
  have hq0 : q = 0 := by omega
  subst hq0
  rcases sib_ok l 0 with ⟨h1, h2⟩ | ⟨s, h1, h2, h3, h4, h5⟩
  ·have hp := hl.1 0 hql
   rw [en_top h1 (by have : ((0 : Nat) : Int) = 0 := rfl; omega)]; exact hk
  ·exfalso
   have hp := hl.1 0 hql
   have := (hl.2 s h2 h3).1
   rw [h4] at this
   have e0 : ((0 : Nat) : Int) = 0 := rfl
   omega
 | succ m ih =>
  intro q hq hql k hk hu
  have hp := hl.1 q hql
  rcases sib_ok l q with ⟨h1, h2⟩ | ⟨s, h1, h2, h3, h4, h5⟩
  ·rcases Int.lt_or_le (l.getD q 0) 0 with h6 | h6
   ·rw [en_top h1 h6]; exact hk
   ·rw [en_up hl.1 hql h1 h6]
    refine ih _ (by omega) (by omega) k hk ?_
    have key : ∀ (n k : Nat), k ≤ n → k < l.length → upB l k q = true → upB l k (l.getD q 0) = true := by
     intro n
     induction n with
     | zero =>
      intro k hkn hk hu
      have : k = 0 := by omega
      subst this
      rw [upB_eq hl.1 (by omega) (by omega)] at hu
      split at hu
      ·rename_i e; have : q = 0 := by omega
       subst this; exfalso; have e0 : ((0 : Nat) : Int) = 0 := rfl; omega
      ·have h0 := hl.1 0 hk
       rw [Int.toNat_natCast] at hu
       rw [upB_neg (by have e0 : ((0 : Nat) : Int) = 0 := rfl; omega)] at hu; cases hu
     | succ n ihn =>
      intro k hkn hk hu
      have hpk := hl.1 k hk
      rw [upB_eq hl.1 (by omega) (by omega)] at hu
      rw [upB_eq hl.1 (by omega) (by omega)]
      split
      ·rfl
      ·split at hu
       ·rename_i e
        have : k = q := by omega
        subst this
        rw [Int.toNat_natCast]
        have e2 : (((l.getD k 0).toNat : Nat) : Int) = l.getD k 0 := by omega
        rw [← e2, upB_eq hl.1 (by omega) (by omega), if_pos rfl]
       ·rw [Int.toNat_natCast] at hu ⊢
        rcases Int.lt_or_le (l.getD k 0) 0 with h7 | h7
        ·rw [upB_neg h7] at hu; cases hu
        ·have e2 : (((l.getD k 0).toNat : Nat) : Int) = l.getD k 0 := by omega
         have := ihn (l.getD k 0).toNat (by omega) (by omega) (by rw [e2]; exact hu)
         rwa [e2] at this
    have := key k k (Nat.le_refl _) hk hu
    have e2 : (((l.getD q 0).toNat : Nat) : Int) = l.getD q 0 := by omega
    rwa [e2]
  ·rw [en_sib h1]
   rcases Nat.lt_or_ge k s with h6 | h6
   ·exact h6
   ·rw [up_gone hl h2 h3 h4 k k (Nat.le_refl _) h6 hk q (Nat.le_refl _) h2] at hu; cases hu
theorem en_self {l : List Int} (hl : PreOk l) {q : Nat} (hq : q < l.length) : q < en l q := up_en hl q q (Nat.le_refl _) hq q hq (by rw [upB_eq hl.1 (by omega) (by omega), if_pos rfl])
theorem en_le {l : List Int} (hl : ParOk l) : ∀ (m a : Nat), a ≤ m → a < l.length → en l a ≤ l.length := by
 intro m
 induction m with
 | zero =>
  intro a ha hal
  rcases sib_ok l a with ⟨h1, _⟩ | ⟨s, h1, _, h3, _, _⟩
  ·have := hl a hal
   rw [en_top h1 (by omega)]; exact Nat.le_refl _
  ·rw [en_sib h1]; omega
 | succ m ih =>
  intro a ha hal
  rcases sib_ok l a with ⟨h1, _⟩ | ⟨s, h1, _, h3, _, _⟩
  ·have := hl a hal
   rcases Int.lt_or_le (l.getD a 0) 0 with h6 | h6
   ·rw [en_top h1 h6]; exact Nat.le_refl _
   ·rw [en_up hl hal h1 h6]; exact ih _ (by omega) (by omega)
  ·rw [en_sib h1]; omega
theorem en_par {l : List Int} (hl : PreOk l) {a q : Nat} (ha : a < l.length) (hq : l.getD a 0 = (q : Int)) : en l a ≤ en l q := by
 have hp := hl.1 a ha
 rcases sib_ok l a with ⟨h1, _⟩ | ⟨s, h1, h2, h3, h4, _⟩
 ·rw [en_up hl.1 ha h1 (by omega), hq, Int.toNat_natCast]; exact Nat.le_refl _
 ·rw [en_sib h1]
  have hps := hl.1 s h3
  refine Nat.le_of_lt (up_en hl q q (Nat.le_refl _) (by omega) s h3 ?_)
  rw [upB_eq hl.1 (by omega) (by omega)]
  split
  ·rfl
  ·rw [Int.toNat_natCast, h4, hq, upB_eq hl.1 (by omega) (by omega), if_pos rfl]
def mE (l : List Int) (a : Nat) : Nat := 30 * (l.length - a)
theorem mE_kid {l : List Int} {a k : Nat} (h : a < k) (hk : k < l.length) : mE l k < mE l a := by unfold mE; omega
end Go.AM
namespace Go.AM
def reckV (k a b : Int) : Int := if k = 3 then a + b else if k = 4 then a - b else if k = 5 then a * b else if k = 6 then a.tdiv b else if k = 7 then (if a < b then 1 else 0) else if k = 8 then (if a = b then 1 else 0) else a * b
def gI (l : List Int) (i : Int) : Int := l.getD i.toNat 0
def evV (n : TNode) (vars out : List Int) : Int :=
  if n.kind = 2 then gI vars n.val else if n.kind = 10 then 1 - gI out n.left else if isTwoB n.kind then reckV n.kind (gI out n.left) (gI out n.right) else n.val
def evBad (n : TNode) (vars out : List Int) : Bool := (decide (n.kind = 6) && decide (gI out n.right = 0)) || !small (evV n vars out)
def evL (e : List TNode) (vars : List Int) : Nat → List Int
  | 0 => []
  | i + 1 => evL e vars i ++ [evV (nA e i) vars (evL e vars i)]
def evOk (e : List TNode) (vars : List Int) : Nat → Bool
  | 0 => true
  | i + 1 => evOk e vars i && !evBad (nA e i) vars (evL e vars i)
def evalB (e : List TNode) (vars : List Int) : Bool := evOk e vars e.length
def evalI (e : List TNode) (vars : List Int) : Int := lastI (evL e vars e.length)
theorem evL_len (e : List TNode) (vars : List Int) (i : Nat) : (evL e vars i).length = i := by
  induction i with
  | zero => rfl
  | succ i ih => simp [evL, ih]
theorem evL_get {e : List TNode} {vars : List Int} {i n : Nat} (h : i < n) : (evL e vars n).getD i 0 = evV (nA e i) vars (evL e vars i) := by
  induction n with
  | zero => omega
  | succ n ih =>
    simp only [evL]
    rcases Nat.lt_or_ge i n with h1 | h1
    · rw [getD_left (by rw [evL_len]; exact h1)]; exact ih h1
    · have : i = n := by omega
      subst this
      have := getD_last (evL e vars i) (evV (nA e i) vars (evL e vars i))
      rwa [evL_len] at this
theorem evOk_le {e : List TNode} {vars : List Int} {i n : Nat} (h : i ≤ n) (ho : evOk e vars n = true) : evOk e vars i = true := by
  induction n with
  | zero => have : i = 0 := by omega
            subst this; rfl
  | succ n ih =>
    rcases Nat.lt_or_ge n i with h1 | h1
    · have : i = n + 1 := by omega
      subst this; exact ho
    · simp only [evOk, Bool.and_eq_true] at ho
      exact ih h1 ho.1
theorem evOk_small {e : List TNode} {vars : List Int} {i n : Nat} (h : i < n) (ho : evOk e vars n = true) : small ((evL e vars n).getD i 0) = true := by
  have h1 := evOk_le (i := i + 1) h ho
  simp only [evOk, Bool.and_eq_true, evBad, Bool.not_eq_true', Bool.or_eq_false_iff] at h1
  rw [evL_get h]
  simpa using h1.2.2
def setA (c : TChart) (k v : Int) : TChart := { c with acts := c.acts.set k.toNat v }
def setD (c : TChart) (k v : Int) : TChart := { c with dues := c.dues.set k.toNat v }
def setV (c : TChart) (k v : Int) : TChart := { c with vars := c.vars.set k.toNat v }
def endF (n : Nat) (st : Int) (c : TChart) : TChart := ⟨st, c.now, c.vars, List.replicate n 0, List.replicate n 0⟩
def undL (p : List TStep) (top i : Nat) : List Int := ((List.range i).filter fun k => decide (top ≤ k) && upB (pars p) k top).map fun (k : Nat) => (k : Int)
def idle1 (c : TChart) (k : Int) : TChart := setD (setA c k 0) k 0
def idleF (p : List TStep) (at_ : Nat) (c : TChart) : TChart := (undL p at_ p.length).foldl idle1 c
def chF (p : List TStep) (vars : List Int) : List Int → Int
  | [] => -1
  | k :: r => if (nS p k.toNat).cond.length = 0 then k else if evalB (nS p k.toNat).cond vars = false then -1 else if evalI (nS p k.toNat).cond vars = 1 then k else chF p vars r
def goF (p : List TStep) : Nat → Bool → Nat → TChart → TChart
  | 0, _, _, c => c
  | f + 1, true, a, c =>
    if c.status ≠ 1 then c
    else
      let s := nS p a
      let c1 := setA c a 1
      let ks := kids p a
      if s.kind = 1 then goF p f true (headI ks).toNat c1
      else if s.kind = 4 then ks.foldl (fun c k => goF p f true k.toNat c) c1
      else if s.kind = 3 then (if chF p c1.vars ks < 0 then endF p.length 3 c1 else goF p f true (chF p c1.vars ks).toNat c1)
      else if s.kind = 8 then goF p f true (headI ks).toNat (setD c1 a (c1.now + s.arg))
      else if s.kind = 6 then setD c1 a (c1.now + s.arg)
      else if s.kind = 7 then (if evalB s.expr c1.vars = false then endF p.length 3 c1 else goF p f false a (setV c1 s.arg (evalI s.expr c1.vars)))
      else c1
  | f + 1, false, a, c =>
    let c1 := idleF p a c
    if a = 0 then endF p.length 2 c1
    else
      let q := (nS p a).par.toNat
      if (nS p q).kind = 1 ∧ 0 ≤ sib (pars p) a then goF p f true (sib (pars p) a).toNat c1
      else if (nS p q).kind = 4 then
        (if (kids p q).all (fun k => decide (actA (setA c1 a 2) k = 2)) then goF p f false q (setA c1 a 2) else setA c1 a 2)
      else goF p f false q c1
structure WfC (p : List TStep) (c : TChart) : Prop where
  acts : c.acts.length = p.length
  dues : c.dues.length = p.length
  vars : c.vars.length = 4
  small : ∀ v ∈ c.vars, small v = true
  now : inR c.now 0 1000000 = true
theorem WfC.setA {p : List TStep} {c : TChart} (h : WfC p c) (k v : Int) : WfC p (setA c k v) := ⟨by simp [Go.AM.setA, h.acts], h.dues, h.vars, h.small, h.now⟩
theorem WfC.setD {p : List TStep} {c : TChart} (h : WfC p c) (k v : Int) : WfC p (setD c k v) := ⟨h.acts, by simp [Go.AM.setD, h.dues], h.vars, h.small, h.now⟩
theorem WfC.setV {p : List TStep} {c : TChart} (h : WfC p c) (k v : Int) (hv : Go.AM.small v = true) : WfC p (setV c k v) := ⟨h.acts, h.dues, by simp [Go.AM.setV, h.vars], fun u hu => by
  rcases List.mem_or_eq_of_mem_set hu with h1 | h1
  · exact h.small u h1
  · rw [h1]; exact hv, h.now⟩
theorem WfC.endF {p : List TStep} {c : TChart} (h : WfC p c) (st : Int) : WfC p (endF p.length st c) := ⟨by simp [Go.AM.endF], by simp [Go.AM.endF], h.vars, h.small, h.now⟩
theorem WfC.idles {p : List TStep} : ∀ (l : List Int) (c : TChart), WfC p c → WfC p (l.foldl idle1 c)
  | [], c, h => h
  | k :: r, c, h => WfC.idles r _ ((h.setA k 0).setD k 0)
theorem WfC.idle {p : List TStep} {c : TChart} (h : WfC p c) (a : Nat) : WfC p (idleF p a c) := WfC.idles _ c h
theorem evalI_small {e : List TNode} {vars : List Int} (hn : 0 < e.length) (h : evalB e vars = true) : small (evalI e vars) = true := by
  unfold evalI lastI
  rw [evL_len]
  exact evOk_small (by omega) h
theorem WfC.go {p : List TStep} (hex : ∀ a, a < p.length → (nS p a).kind = 7 → 0 < (nS p a).expr.length) : ∀ (f : Nat) (b : Bool) (a : Nat) (c : TChart), (∀ m, f = m → True) → WfC p c → WfC p (goF p f b a c) := by
  intro f
  induction f with
  | zero => intro b a c _ h; cases b <;> exact h
  | succ f ih =>
    intro b a c _ h
    have ih' : ∀ (b : Bool) (a : Nat) (c : TChart), WfC p c → WfC p (goF p f b a c) := fun b a c h => ih b a c (fun _ _ => True.intro) h
    cases b with
    | true =>
      simp only [goF]
      split
      · exact h
      · have h1 := h.setA (a : Int) 1
        split
        · exact ih' _ _ _ h1
        · split
          · have key : ∀ (l : List Int) (c : TChart), WfC p c → WfC p (l.foldl (fun c k => goF p f true k.toNat c) c) := by
              intro l
              induction l with
              | nil => intro c h; exact h
              | cons k r ihl => intro c h; exact ihl _ (ih' _ _ _ h)
            exact key _ _ h1
          · split
            · split
              · exact h1.endF 3
              · exact ih' _ _ _ h1
            · split
              · exact ih' _ _ _ (h1.setD _ _)
              · split
                · exact h1.setD _ _
                · split
                  · rename_i hk7
                    split
                    · exact h1.endF 3
                    · rename_i he
                      refine ih' _ _ _ (h1.setV _ _ (evalI_small ?_ (by simpa using he)))
                      rcases Nat.lt_or_ge a p.length with ha | ha
                      · exact hex a ha hk7
                      · exfalso
                        have : nS p a = default := by simp [nS, List.getD, List.getElem?_eq_none ha]
                        rw [this] at hk7; cases hk7
                  · exact h1
    | false =>
      simp only [goF]
      have h1 := h.idle a
      split
      · exact h1.endF 2
      · split
        · exact ih' _ _ _ h1
        · split
          · split
            · exact ih' _ _ _ (h1.setA _ _)
            · exact h1.setA _ _
          · exact ih' _ _ _ h1
end Go.AM
namespace Go.AM
theorem up_self {l : List Int} (hl : ParOk l) {a : Nat} (ha : a < l.length) : upB l a a = true := by rw [upB_eq hl (by omega) (by omega), if_pos rfl]
theorem up_par {l : List Int} (hl : ParOk l) {j x : Nat} (hj : j < l.length) (hne : j ≠ x) : upB l j x = upB l (l.getD j 0) x := by
 rw [upB_eq hl (by omega) (by omega), if_neg (by omega), Int.toNat_natCast]
theorem up_le {l : List Int} (hl : ParOk l) {j x : Nat} (hj : j < l.length) (h : upB l j x = true) : x ≤ j := by
 rcases Nat.lt_or_ge j x with h1 | h1
 ·rw [upB_lt hl (j + 1) j (by omega) (by omega) (by omega)] at h; cases h
 ·exact h1
theorem up_cmp {l : List Int} (hl : ParOk l) : ∀ (m j : Nat), j ≤ m → j < l.length → ∀ x y : Nat, x ≤ y → upB l j x = true → upB l j y = true → upB l y x = true := by
 intro m
 induction m with
 | zero =>
  intro j hj hjl x y hxy hx hy
  have h1 := up_le hl hjl hy
  have : y = j := by omega
  subst this; exact hx
 | succ m ih =>
  intro j hj hjl x y hxy hx hy
  by_cases h : j = y
  ·subst h; exact hx
  ·have h1 := up_le hl hjl hy
   rw [up_par hl hjl h] at hy
   rw [up_par hl hjl (by omega)] at hx
   have hp := hl j hjl
   rcases Int.lt_or_le (l.getD j 0) 0 with h2 | h2
   ·rw [upB_neg h2] at hx; cases hx
   ·obtain ⟨q, hq⟩ : ∃ q : Nat, l.getD j 0 = q := ⟨_, (Int.toNat_of_nonneg h2).symm⟩
    rw [hq] at hx hy
    exact ih q (by omega) (by omega) x y hxy hx hy
theorem en_anc {l : List Int} (hl : PreOk l) : ∀ (m a : Nat), a ≤ m → a < l.length → ∀ b : Nat, upB l a b = true → en l a ≤ en l b := by
 intro m
 induction m with
 | zero =>
  intro a ha hal b hb
  have := up_le hl.1 hal hb
  have : b = a := by omega
  subst this; exact Nat.le_refl _
 | succ m ih =>
  intro a ha hal b hb
  by_cases h : a = b
  ·subst h; exact Nat.le_refl _
  ·rw [up_par hl.1 hal h] at hb
   have hp := hl.1 a hal
   rcases Int.lt_or_le (l.getD a 0) 0 with h3 | h3
   ·rw [upB_neg h3] at hb; cases hb
   ·obtain ⟨q, hq⟩ : ∃ q : Nat, l.getD a 0 = q := ⟨_, (Int.toNat_of_nonneg h3).symm⟩
    rw [hq] at hb
    exact Nat.le_trans (en_par hl hal hq) (ih q (by omega) (by omega) b hb)
theorem up_child {l : List Int} (hl : ParOk l) : ∀ (m a : Nat), a ≤ m → a < l.length → ∀ x : Nat, x < a → upB l a x = true → ∃ b : Nat, upB l a b = true ∧ l.getD b 0 = x ∧ b < l.length := by
 intro m
 induction m with
 | zero => intro a ha hal x hx _; omega
 | succ m ih =>
  intro a ha hal x hx hu
  rw [up_par hl hal (by omega)] at hu
  have hp := hl a hal
  rcases Int.lt_or_le (l.getD a 0) 0 with h3 | h3
  ·rw [upB_neg h3] at hu; cases hu
  ·obtain ⟨q, hq⟩ : ∃ q : Nat, l.getD a 0 = q := ⟨_, (Int.toNat_of_nonneg h3).symm⟩
   rw [hq] at hu
   rcases Nat.lt_or_ge x q with h4 | h4
   ·obtain ⟨b, h5, h6, h7⟩ := ih q (by omega) (by omega) x h4 hu
    refine ⟨b, ?_, h6, h7⟩
    have hbq := up_le hl (show q < l.length by omega) h5
    rw [up_par hl hal (by omega), hq]; exact h5
   ·have h5 := up_le hl (show q < l.length by omega) hu
    have : q = x := by omega
    subst this
    exact ⟨a, up_self hl hal, hq, hal⟩
theorem sib_le {l : List Int} {b k : Nat} (hbk : b < k) (hk : k < l.length) (he : l.getD k 0 = l.getD b 0) : ∃ s : Nat, sib l b = s ∧ s ≤ k := by
 rcases sib_ok l b with ⟨h1, h2⟩ | ⟨s, h1, h2, h3, h4, h5⟩
 ·exact absurd he (h2 k hbk hk)
 ·refine ⟨s, h1, ?_⟩
  rcases Nat.lt_or_ge k s with h6 | h6
  ·exact absurd he (h5 k hbk h6)
  ·exact h6
theorem up_between {l : List Int} (hl : PreOk l) {a : Nat} (ha : a < l.length) : ∀ (m k : Nat), k ≤ m → a ≤ k → k < en l a → k < l.length → upB l k a = true := by
 intro m
 induction m with
 | zero =>
  intro k hk h1 h2 h3
  have : k = a := by omega
  subst this; exact up_self hl.1 h3
 | succ m ih =>
  intro k hk h1 h2 h3
  rcases Nat.lt_or_ge a k with h4 | h4
  ·have h5 := ih (k - 1) (by omega) (by omega) (by omega) (by omega)
   have h6 := hl.2 k (by omega) h3
   have hp := hl.1 k h3
   obtain ⟨q, hq⟩ : ∃ q : Nat, l.getD k 0 = q := ⟨_, (Int.toNat_of_nonneg h6.1).symm⟩
   have e1 : ((k - 1 : Nat) : Int) = (k : Int) - 1 := by omega
   have h7 : upB l ((k - 1 : Nat) : Int) q = true := by rw [e1, ← hq]; exact h6.2
   rcases Nat.lt_or_ge q a with h8 | h8
   ·exfalso
    have h9 := up_cmp hl.1 (k - 1) (k - 1) (Nat.le_refl _) (by omega) q a (by omega) h7 h5
    obtain ⟨b, hb1, hb2, hb3⟩ := up_child hl.1 a a (Nat.le_refl _) ha q h8 h9
    have hba := up_le hl.1 ha hb1
    obtain ⟨s, hs1, hs2⟩ := sib_le (l := l) (b := b) (k := k) (by omega) h3 (by rw [hq, hb2])
    have h10 := en_anc hl a a (Nat.le_refl _) ha b hb1
    rw [en_sib hs1] at h10
    omega
   ·have h9 := up_cmp hl.1 (k - 1) (k - 1) (Nat.le_refl _) (by omega) a q h8 h5 h7
    rw [up_par hl.1 h3 (by omega), hq]; exact h9
  ·have : k = a := by omega
   subst this; exact up_self hl.1 h3
theorem up_iff {l : List Int} (hl : PreOk l) {a k : Nat} (ha : a < l.length) (hk : k < l.length) (hak : a ≤ k) : upB l k a = decide (k < en l a) := by
 rw [Bool.eq_iff_iff, decide_eq_true_eq]
 exact ⟨fun h => up_en hl a a (Nat.le_refl _) ha k hk h, fun h => up_between hl ha k k (Nat.le_refl _) hak h hk⟩
theorem kids_pw (p : List TStep) (a : Int) : (kids p a).Pairwise (· < ·) := by
 unfold kids kidU
 rw [List.pairwise_map]
 refine List.Pairwise.imp (fun h => by omega) (List.Pairwise.filter _ List.pairwise_lt_range)
theorem chF_ok {p : List TStep} {vars : List Int} : ∀ (l : List Int), (∀ x, l.getLast? = some x → (nS p x.toNat).cond.length = 0) → l ≠ [] → ∀ k, chF p vars l = k → 0 ≤ k → k ∈ l := by
 intro l
 induction l with
 | nil => intro _ h; exact absurd rfl h
 | cons x r ih =>
  intro hl _ k hk h0
  unfold chF at hk
  split at hk
  ·subst hk; exact List.mem_cons_self
  ·split at hk
   ·omega
   ·split at hk
    ·subst hk; exact List.mem_cons_self
    ·cases r with
     | nil =>
      exact absurd (hl x rfl) (by assumption)
     | cons y r => exact List.mem_cons_of_mem _ (ih (fun z hz => hl z (by rw [List.getLast?_cons_cons]; exact hz)) (by simp) k hk h0)
end Go.AM
namespace Go.AM
def crow (c : TChart) : List AV := [.int .i64 c.status, .int .i64 c.now, .osl 1 (c.vars.map I1), .osl 1 (c.acts.map I1), .osl 1 (c.dues.map I1)]
def brow (p : List TStep) (c : TChart) : List AV := .isl 6 (p.map TStep.ro) :: crow c
@[go_sem] theorem crow_eq (c : TChart) : crow c = [.int .i64 c.status, .int .i64 c.now, .osl 1 (c.vars.map I1), .osl 1 (c.acts.map I1), .osl 1 (c.dues.map I1)] := rfl
@[go_sem] theorem brow_eq (p : List TStep) (c : TChart) : brow p c = [.isl 6 (p.map TStep.ro), .int .i64 c.status, .int .i64 c.now, .osl 1 (c.vars.map I1), .osl 1 (c.acts.map I1), .osl 1 (c.dues.map I1)] := rfl
theorem tset {l : List Int} {i : Nat} {v : Int} : ∀ c ∈ (l.map I1).set i [AV.int .i64 v], ∀ x ∈ c, AV.tree x = true := by
 intro c hc x hx
 rcases List.mem_or_eq_of_mem_set hc with h | h
 ·exact (I1_treeL l).2 True.intro c h x hx
 ·subst h; rw [List.mem_singleton] at hx; subst hx; rfl
@[go_sem ↓ high] theorem tset_iff {l : List Int} {i : Nat} {v : Int} : (∀ c ∈ (l.map I1).set i [AV.int .i64 v], ∀ x ∈ c, AV.tree x = true) ↔ True := ⟨fun _ => True.intro, fun _ => tset⟩
@[go_sem] theorem rep_ids (n : Nat) (k : IntKind) (v : Int) : (List.replicate n [AV.int k v]).flatMap idsL = [] := by
 rw [List.flatMap_eq_nil_iff]; intro x hx; rw [List.eq_of_mem_replicate hx]; rfl
end Go.AM
namespace Go.AM
end Go.AM
namespace Go.AM
structure EGood (e : List TNode) : Prop where
 len : 1 ≤ e.length ∧ e.length ≤ 16
 parts : PartsOk e e.length
 ty : typU e e.length = false
theorem eGood {e : List TNode} {w : Int} (h0 : 0 < e.length) (h : typF e w = 0) : EGood e := by
 unfold typF at h
 rw [if_neg (by omega)] at h
 split at h
 ·exact absurd h (by assumption)
 rename_i h1
 have h1 : typC e = 0 := by simpa using h1
 unfold typC at h1
 split at h1
 ·exact absurd h1 (by assumption)
 rename_i h2
 have h2 : exprF e = 0 := by simpa using h2
 have ht : typU e e.length = false := by
  cases h3 : typU e e.length with
  | false => rfl
  | true => rw [h3] at h1; simp at h1
 unfold exprF at h2
 split at h2
 ·cases h2
 rename_i h3
 have h4 := inR_iff.1 (show inR e.length 1 16 = true by simpa using h3)
 split at h2
 ·exact absurd h2 (by assumption)
 rename_i h5
 exact ⟨by omega, sc_all (by simpa using h5), ht⟩
theorem ProcOk.cond {p : List TStep} (h : ProcOk p) {a : Nat} (ha : a < p.length) (h0 : 0 < (nS p a).cond.length) : EGood (nS p a).cond := by
 have h1 := h.ty a ha
 unfold tyF at h1
 split at h1
 ·exact absurd h1 (by assumption)
 ·rename_i h2
  exact eGood h0 (by simpa using h2)
theorem ProcOk.expr {p : List TStep} (h : ProcOk p) {a : Nat} (ha : a < p.length) (h7 : (nS p a).kind = 7) : EGood (nS p a).expr := by
 have h1 := h.ty a ha
 unfold tyF at h1
 split at h1
 ·exact absurd h1 (by assumption)
 ·refine eGood ?_ h1
  have h2 := h.one a ha
  unfold oneF stepF at h2
  rw [h7] at h2
  repeat' split at h2
  all_goals first | (cases h2; done) | contradiction | skip
  all_goals (unfold exprF at h2; split at h2; · cases h2)
  all_goals (rename_i h3; have h4 := inR_iff.1 (show inR (nS p a).expr.length 1 16 = true by simpa using h3); omega)
theorem ProcOk.arg {p : List TStep} (h : ProcOk p) {a : Nat} (ha : a < p.length) (h2 : (nS p a).kind ≠ 2) : lowA (nS p a).kind ≤ (nS p a).arg ∧ (nS p a).arg ≤ highA (nS p a).kind := by
 have h1 := h.one a ha
 unfold oneF stepF at h1
 rw [if_neg h2] at h1
 split at h1
 ·cases h1
 ·split at h1
  ·exact absurd h1 (by assumption)
  ·split at h1
   ·cases h1
   ·split at h1
    ·cases h1
    ·omega
theorem ProcOk.steps' {p : List TStep} (h : ProcOk p) : StepsOk p := ⟨h.len, h.one⟩
theorem ProcOk.pre {p : List TStep} (h : ProcOk p) : PreOk (pars p) := h.steps'.pre
theorem ProcOk.kid {p : List TStep} (h : ProcOk p) {a : Nat} {k : Int} (hk : k ∈ kids p (a : Int)) : ∃ m : Nat, k = m ∧ a < m ∧ m < p.length ∧ (nS p m).par = a ∧ mE (pars p) m < mE (pars p) a := by
 obtain ⟨m, rfl, h1, h2, h3⟩ := kids_mem.1 hk
 have h4 := h.parI h1 h2
 exact ⟨m, rfl, by omega, h2, h3, mE_kid (by omega) (by rw [pars_len]; exact h2)⟩
theorem ProcOk.last {p : List TStep} (h : ProcOk p) {a : Nat} (h3 : (nS p a).kind = 3) {k : Int} (hk : k ∈ kids p (a : Int)) : (nS p k.toNat).cond.length = 0 ↔ k = lastI (kids p (a : Int)) := by
 obtain ⟨m, rfl, h1, h2, h4, _⟩ := h.kid hk
 have h5 := h.shape m h2
 unfold shapeF at h5
 simp only at h5
 split at h5
 ·cases h5
 split at h5
 ·cases h5
 rename_i h6
 have h6 : decide (0 < (nS p m).cond.length) = wants p m := by simpa using h6
 unfold wants at h6
 rw [h4] at h6
 rw [Int.toNat_natCast] at h6 ⊢
 have h7 : decide (m ≠ 0) = true := by simp; omega
 rw [h7, h3] at h6
 simp only [Bool.true_and, decide_true, decide_eq_decide] at h6
 constructor
 ·intro h8
  by_cases h9 : (m : Int) = lastI (kids p (a : Int))
  ·exact h9
  ·have := h6.2 h9; omega
 ·intro h8
  rcases Nat.eq_zero_or_pos (nS p m).cond.length with h9 | h9
  ·exact h9
  ·exact absurd h8 (h6.1 h9)
theorem ProcOk.chF {p : List TStep} (h : ProcOk p) {a : Nat} (h3 : (nS p a).kind = 3) (vars : List Int) (h0 : 0 ≤ chF p vars (kids p (a : Int))) : chF p vars (kids p (a : Int)) ∈ kids p (a : Int) := by
 have hne : kids p (a : Int) ≠ [] := by
  intro e; rw [e] at h0; simp [Go.AM.chF] at h0
 refine chF_ok _ ?_ hne _ rfl h0
 intro x hx
 have hm : x ∈ kids p (a : Int) := List.mem_of_getLast? hx
 refine (h.last h3 hm).2 ?_
 have := last_at hne
 rw [List.getLast?_eq_getElem?, this] at hx
 exact (Option.some.inj hx).symm
theorem ProcOk.wf {p : List TStep} (h : ProcOk p) {f : Nat} {b : Bool} {a : Nat} {c : TChart} (hw : WfC p c) : WfC p (goF p f b a c) := WfC.go (fun a ha h7 => by have := (h.expr ha h7).len; omega) f b a c (fun _ _ => True.intro) hw
end Go.AM
namespace Go.AM
def cpP (l : List TProc) (i : Nat) : List (List AV) := (l.take i).map fun p => [.osl 6 (p.steps.map TStep.oc)]
theorem cpP_ids (l : List TProc) (i : Nat) : (cpP l i).flatMap idsL = [] := flatids (by intro x; simp [go_sem]) _
theorem cpP_no (l : List TProc) (i n : Nat) : (∀ x, x ∈ cpP l i → ¬ n ∈ idsL x) ↔ True := by
 have h := cpP_ids l i
 rw [List.flatMap_eq_nil_iff] at h
 exact ⟨fun _ => True.intro, fun _ x hx => by rw [h x hx]; simp⟩
theorem cpP_zero (l : List TProc) : cpP l 0 = [] := rfl
attribute [go_sem] cpP_ids cpP_no cpP_zero
end Go.AM
namespace Go.AM
inductive TB where
 | mk (s : TStep) (ks : List TB)
def TB.s : TB → TStep | .mk s _ => s
def TB.ks : TB → List TB | .mk _ ks => ks
instance : Inhabited TB := ⟨.mk default []⟩
@[go_sem] theorem TB.s_mk (s ks) : (TB.mk s ks).s = s := rfl
@[go_sem] theorem TB.ks_mk (s ks) : (TB.mk s ks).ks = ks := rfl
mutual
def TB.ro : TB → List AV
 | .mk s ks => [.int .i64 s.kind, .int .i64 s.par, .str s.name, .int .i64 s.arg, .isl 4 (s.cond.map TNode.ro), .isl 4 (s.expr.map TNode.ro), .isl 7 (TB.roL ks)]
def TB.roL : List TB → List (List AV)
 | [] => []
 | k :: ks => k.ro :: TB.roL ks
end
theorem TB.roL_eq (l : List TB) : TB.roL l = l.map TB.ro := by
 induction l with
 | nil => rfl
 | cons x l ih => simp only [TB.roL, List.map_cons, ih]
@[go_sem] theorem TB_ro_eq (x : TB) : x.ro = [.int .i64 x.s.kind, .int .i64 x.s.par, .str x.s.name, .int .i64 x.s.arg, .isl 4 (x.s.cond.map TNode.ro), .isl 4 (x.s.expr.map TNode.ro), .isl 7 (x.ks.map TB.ro)] := by
 cases x; simp only [TB.ro, TB.roL_eq, TB.s, TB.ks]
def rowT (x : TB) : List AV := [.int .i64 x.s.kind, .int .i64 x.s.par, .str x.s.name, .int .i64 x.s.arg, .isl 4 (x.s.cond.map TNode.ro), .isl 4 (x.s.expr.map TNode.ro), .isl 7 (x.ks.map TB.ro)]
@[go_sem] theorem rowT_eq (x : TB) : rowT x = [.int .i64 x.s.kind, .int .i64 x.s.par, .str x.s.name, .int .i64 x.s.arg, .isl 4 (x.s.cond.map TNode.ro), .isl 4 (x.s.expr.map TNode.ro), .isl 7 (x.ks.map TB.ro)] := rfl
theorem TB_ro_un (x : TB) : x.ro.map unown = x.ro := by rw [TB_ro_eq]; simp [go_sem]
@[go_sem high] theorem TB_ro_unL (l : List _) : unownLL (l.map TB.ro) = l.map TB.ro := unownLL_map TB_ro_un l
@[go_sem high] theorem TB_ro_unM (l : List _) : (l.map TB.ro).map (List.map unown) = l.map TB.ro := mapun TB_ro_un l
@[go_sem] theorem TB_ro_ids (x) : idsL (TB.ro x) = [] := by rw [TB_ro_eq]; simp [go_sem]
@[go_sem high] theorem TB_ro_idsL (l : List _) : (l.map TB.ro).flatMap idsL = [] := flatids TB_ro_ids l
theorem TB_ro_tree (a) : ∀ x ∈ TB.ro a, x.tree = true := by rw [TB_ro_eq]; simp [go_sem]
@[go_sem high] theorem TB_ro_treeL (l : List _) : (∀ c ∈ l.map TB.ro, ∀ x ∈ c, AV.tree x = true) ↔ True := maptree TB_ro_tree l
def growF (p : List TStep) : Nat → Nat → TB
 | 0, a => .mk (nS p a) []
 | f + 1, a => .mk (nS p a) ((kids p (a : Int)).map fun k => growF p f k.toNat)
theorem grow_succ (p : List TStep) (f a : Nat) : growF p (f + 1) a = .mk (nS p a) ((kids p (a : Int)).map fun k => growF p f k.toNat) := rfl
mutual
def TB.cnt : TB → Nat
 | .mk _ ks => 1 + TB.cntL ks
def TB.cntL : List TB → Nat
 | [] => 0
 | k :: ks => k.cnt + TB.cntL ks
end
theorem TB.cnt_eq (t : TB) : t.cnt = 1 + TB.cntL t.ks := by cases t; rfl
mutual
def TB.all (P : TStep → Prop) : TB → Prop
 | .mk s ks => P s ∧ TB.allL P ks
def TB.allL (P : TStep → Prop) : List TB → Prop
 | [] => True
 | k :: ks => k.all P ∧ TB.allL P ks
end
theorem TB.allL_iff {P : TStep → Prop} {l : List TB} : TB.allL P l ↔ ∀ k ∈ l, k.all P := by
 induction l with
 | nil => simp [TB.allL]
 | cons x l ih => simp [TB.allL, ih]
theorem TB.all_iff {P : TStep → Prop} {t : TB} : t.all P ↔ P t.s ∧ ∀ k ∈ t.ks, k.all P := by
 cases t; simp only [TB.all, TB.allL_iff, TB.s, TB.ks]
def joinF (s : TStep) (l : List TB) : List TB := l.flatMap fun k => if s.kind = 1 ∧ k.s.kind = 1 then k.ks else [k]
def condB (s o : TStep) : TStep := if 0 < s.cond.length then { o with cond := s.cond } else o
def soleF (s : TStep) (l : List TB) : TB := match l with
 | [o] => if s.kind = 1 then .mk (condB s o.s) o.ks else .mk s l
 | _ => .mk s l
mutual
def plainT : TB → TB
 | .mk s ks => soleF s (joinF s (plainL ks))
def plainL : List TB → List TB
 | [] => []
 | k :: ks => plainT k :: plainL ks
end
mutual
def stepsT (n : Nat) (par : Int) : TB → List TStep
 | .mk s ks => { s with par := par } :: stepsL (n + 1) (n : Int) ks
def stepsL (n : Nat) (par : Int) : List TB → List TStep
 | [] => []
 | k :: ks => stepsT n par k ++ stepsL (n + k.cnt) par ks
end
theorem take_snoc {α : Type} {l : List α} {i : Nat} {x : α} (h : l[i]? = some x) : l.take (i + 1) = l.take i ++ [x] := by
 rw [List.take_add_one, h]; rfl
theorem en_next {l : List Int} (hl : PreOk l) {a s : Nat} (has : a < s) (hs : s < l.length) {q : Nat} (ha : l.getD a 0 = (q : Int)) (hp : l.getD s 0 = (q : Int)) : en l a ≤ s := by
 rcases Nat.lt_or_ge s (en l a) with h | h
 ·exfalso
  have h1 : upB l s a = true := by rw [up_iff hl (by omega) hs (by omega)]; simpa using h
  have h2 := up_gone hl has hs (by rw [ha, hp]) s s (Nat.le_refl _) (Nat.le_refl _) hs a (Nat.le_refl _) has
  rw [h1] at h2; cases h2
 ·exact h
theorem grow_cntL {p : List TStep} (hl : PreOk (pars p)) {q : Nat} (f e : Nat) (he : ∀ m : Nat, m < p.length → (pars p).getD m 0 = (q : Int) → en (pars p) m ≤ e)
  (hf : ∀ m : Nat, q < m → m < p.length → (growF p f m).cnt ≤ en (pars p) m - m) :
  ∀ (l : List Int) (b : Nat), (∀ k ∈ l, ∃ m : Nat, k = m ∧ b ≤ m ∧ q < m ∧ m < p.length ∧ (pars p).getD m 0 = (q : Int)) → l.Pairwise (· < ·) → b ≤ e → TB.cntL (l.map fun k => growF p f k.toNat) ≤ e - b := by
 intro l
 induction l with
 | nil => intro b _ _ _; simp [TB.cntL]
 | cons x l ih =>
  intro b h hp hb
  obtain ⟨m, rfl, h1, h2, h3, h4⟩ := h x List.mem_cons_self
  have hpl := pars_len p
  have h5 := he m h3 h4
  have h6 := hf m h2 h3
  have h7 := en_self hl (q := m) (by omega)
  have h8 := ih (en (pars p) m) (by
   intro k hk
   obtain ⟨m2, rfl, g1, g2, g3, g4⟩ := h k (List.mem_cons_of_mem _ hk)
   have g5 := (List.pairwise_cons.1 hp).1 _ hk
   exact ⟨m2, rfl, en_next hl (by omega) (by omega) h4 g4, g2, g3, g4⟩) (List.pairwise_cons.1 hp).2 h5
  simp only [List.map_cons, TB.cntL, Int.toNat_natCast]
  omega
theorem grow_cnt {p : List TStep} (hP : ProcOk p) : ∀ (f a : Nat), a < p.length → (growF p f a).cnt ≤ en (pars p) a - a := by
 intro f
 have hpl := pars_len p
 induction f with
 | zero =>
  intro a ha
  have := en_self hP.pre (q := a) (by omega)
  simp only [growF, TB.cnt, TB.cntL]; omega
 | succ f ih =>
  intro a ha
  have h0 := en_self hP.pre (q := a) (by omega)
  have h1 := grow_cntL (p := p) hP.pre (q := a) f (en (pars p) a) (fun m hm h => en_par hP.pre (by omega) h) (fun m _ hm => ih m hm) (kids p (a : Int)) (a + 1) (by
   intro k hk
   obtain ⟨m, rfl, h1, h2, h3, h4⟩ := hP.kid hk
   exact ⟨m, rfl, by omega, h1, h2, by rw [pars_get h2, h3]⟩) (kids_pw p a) (by omega)
  rw [grow_succ]
  simp only [TB.cnt]; omega
theorem grow_all {P : TStep → Prop} {p : List TStep} (hp : ∀ s ∈ p, P s) (hn : ∀ a, a < p.length → ∀ k ∈ kids p (a : Int), k.toNat < p.length) : ∀ (f a : Nat), a < p.length → (growF p f a).all P := by
 intro f
 have h0 : ∀ a, a < p.length → P (nS p a) := fun a ha => by
  obtain ⟨x, hx⟩ := at_some ha
  rw [nS_at hx]; exact hp x (List.mem_of_getElem? hx)
 induction f with
 | zero => intro a ha; exact TB.all_iff.2 ⟨h0 a ha, by intro k hk; cases hk⟩
 | succ f ih =>
  intro a ha
  refine TB.all_iff.2 ⟨h0 a ha, ?_⟩
  intro k hk
  obtain ⟨m, hm, rfl⟩ := List.mem_map.1 hk
  exact ih _ (hn a ha m hm)
def Sml (s : TStep) : Prop := s.name.length ≤ 8 ∧ s.cond.length ≤ 16 ∧ s.expr.length ≤ 16
theorem ProcOk.sml {p : List TStep} (h : ProcOk p) : ∀ s ∈ p, Sml s := by
 intro s hs
 obtain ⟨a, ha⟩ := List.mem_iff_getElem?.1 hs
 have hl := at_lt ha
 have hn := nS_at ha
 have h1 := h.ty a hl
 have h2 := h.one a hl
 rw [← hn]
 unfold tyF at h1
 refine ⟨?_, ?_, ?_⟩
 ·unfold oneF stepF at h2
  by_cases hk : (nS p a).kind = 2
  ·rw [if_pos hk] at h2
   repeat' split at h2
   all_goals first | (cases h2; done) | contradiction | skip
   unfold nameF at h2
   repeat' split at h2
   all_goals first | (cases h2; done) | omega
  ·have h3 : alien (nS p a) = false := by
    cases h4 : alien (nS p a) with
    | false => rfl
    | true => rw [h4] at h2; simp at h2
   unfold alien at h3
   simp only [Bool.or_eq_false_iff, Bool.and_eq_false_iff] at h3
   have h5 := h3.1.1
   simp [hk] at h5
   simp [h5]
 ·rcases Nat.eq_zero_or_pos (nS p a).cond.length with h0 | h0
  ·omega
  ·exact (h.cond hl h0).len.2
 ·rcases Nat.eq_zero_or_pos (nS p a).expr.length with h0 | h0
  ·omega
  ·split at h1
   ·exact absurd h1 (by assumption)
   ·exact (eGood h0 h1).len.2
theorem grow_ok {p : List TStep} (h : ProcOk p) : (growF p p.length 0).cnt ≤ 24 ∧ (growF p p.length 0).all Sml := by
 have hl := h.len
 have hpl := pars_len p
 refine ⟨?_, grow_all (P := Sml) h.sml (fun a ha k hk => (kids_bd hk).2) _ _ (by omega)⟩
 have h1 := grow_cnt h p.length 0 (by omega)
 have h2 := en_le h.pre.1 0 0 (Nat.le_refl _) (show 0 < (pars p).length by omega)
 omega
end Go.AM
namespace Go.AM
structure GR where
 ns : List TGNode
 fs : List TFlow
 en : Int
 lv : Int
def leafG (x : TGNode) (n : Nat) : GR := ⟨[x], [], n, n⟩
def seqF (g : Nat → Nat → GR) (n : Nat) (st : GR) (k : Int) : GR :=
 let r := g k.toNat (n + st.ns.length)
 ⟨st.ns ++ r.ns, st.fs ++ r.fs ++ [⟨st.lv, r.en, []⟩], st.en, r.lv⟩
def seqN (g : Nat → Nat → GR) (n : Nat) (ks : List Int) (i : Nat) : GR := ((ks.drop 1).take i).foldl (seqF g n) (g (headI ks).toNat n)
structure SD where
 ns : List TGNode
 fs : List TFlow
 os : List Int
def sdF (g : Nat → Nat → GR) (cd : Nat → List TNode) (n : Nat) (st : SD) (k : Int) : SD :=
 let r := g k.toNat (n + st.ns.length)
 ⟨st.ns ++ r.ns, st.fs ++ r.fs ++ [⟨(n : Int), r.en, cd k.toNat⟩], st.os ++ [r.lv]⟩
def sdN (g : Nat → Nat → GR) (cd : Nat → List TNode) (n : Nat) (op : TGNode) (ks : List Int) (i : Nat) : SD := (ks.take i).foldl (sdF g cd n) ⟨[op], [], []⟩
def sidesG (g : Nat → Nat → GR) (cd : Nat → List TNode) (op cl : TGNode) (ks : List Int) (n : Nat) : GR :=
 let st := sdN g cd n op ks ks.length
 ⟨st.ns ++ [cl], st.fs ++ st.os.map fun o => ⟨o, (n + st.ns.length : Nat), []⟩, n, (n + st.ns.length : Nat)⟩
def guardG (g : Nat → Nat → GR) (op cl mg : TGNode) (k0 k1 : Int) (n : Nat) : GR :=
 let r := g k0.toNat (n + 1)
 let c := n + 1 + r.ns.length
 let q := g k1.toNat (c + 1)
 let m := c + 1 + q.ns.length
 ⟨[op] ++ r.ns ++ [cl] ++ q.ns ++ [mg], r.fs ++ q.fs ++ [⟨n, r.en, []⟩, ⟨n, q.en, []⟩, ⟨r.lv, c, []⟩, ⟨c, m, []⟩, ⟨q.lv, m, []⟩], n, m⟩
def cdS (p : List TStep) (a : Nat) : List TNode := (nS p a).cond
def gstep (p : List TStep) : Nat → Nat → Nat → GR
 | 0, _, n => ⟨[], [], n, n⟩
 | f + 1, a, n =>
  if (nS p a).kind = 2 then leafG ⟨3, a, (nS p a).name, 0, []⟩ n
  else if (nS p a).kind = 5 then leafG ⟨4, a, [], (nS p a).arg, []⟩ n
  else if (nS p a).kind = 6 then leafG ⟨5, a, [], (nS p a).arg, []⟩ n
  else if (nS p a).kind = 7 then leafG ⟨6, a, [], (nS p a).arg, (nS p a).expr⟩ n
  else if (nS p a).kind = 1 then seqN (gstep p f) n (kids p (a : Int)) ((kids p (a : Int)).length - 1)
  else if (nS p a).kind = 8 then guardG (gstep p f) ⟨11, a, [], (nS p a).arg, []⟩ ⟨12, a, [], 0, []⟩ ⟨13, a, [], 0, []⟩ (gI (kids p (a : Int)) 0) (gI (kids p (a : Int)) 1) n
  else if (nS p a).kind = 3 then sidesG (gstep p f) (cdS p) ⟨7, a, [], 0, []⟩ ⟨8, a, [], 0, []⟩ (kids p (a : Int)) n
  else sidesG (gstep p f) (cdS p) ⟨9, a, [], 0, []⟩ ⟨10, a, [], 0, []⟩ (kids p (a : Int)) n
theorem seq_zero (g : Nat → Nat → GR) (n : Nat) (ks : List Int) : seqN g n ks 0 = g (headI ks).toNat n := rfl
theorem seq_succ {g : Nat → Nat → GR} {n : Nat} {ks : List Int} {i : Nat} {u : Int} (h : ks[i + 1]? = some u) : seqN g n ks (i + 1) = seqF g n (seqN g n ks i) u := by
 unfold seqN
 have h2 : (ks.drop 1)[i]? = some u := by rw [List.getElem?_drop, Nat.add_comm]; exact h
 rw [take_snoc h2, List.foldl_append]; rfl
theorem sd_zero (g : Nat → Nat → GR) (cd : Nat → List TNode) (n : Nat) (op : TGNode) (ks : List Int) : sdN g cd n op ks 0 = ⟨[op], [], []⟩ := rfl
theorem sd_succ {g : Nat → Nat → GR} {cd : Nat → List TNode} {n : Nat} {op : TGNode} {ks : List Int} {i : Nat} {u : Int} (h : ks[i]? = some u) : sdN g cd n op ks (i + 1) = sdF g cd n (sdN g cd n op ks i) u := by
 unfold sdN; rw [take_snoc h, List.foldl_append]; rfl
def cK (p : List TStep) (f : Nat) (k : Int) : Nat := (growF p f k.toNat).cnt
theorem cK_pos (p : List TStep) (f : Nat) (k : Int) : 1 ≤ cK p f k := by have := (growF p f k.toNat).cnt_eq; unfold cK; omega
def cKs (p : List TStep) (f : Nat) (l : List Int) : Nat := (l.map (cK p f)).sum
theorem cKs_snoc {p : List TStep} {f : Nat} {l : List Int} {i : Nat} {u : Int} (h : l[i]? = some u) : cKs p f (l.take (i + 1)) = cKs p f (l.take i) + cK p f u := by
 unfold cKs; rw [take_snoc h]; simp
theorem cKs_le (p : List TStep) (f : Nat) (l : List Int) (i : Nat) : cKs p f (l.take i) ≤ cKs p f l := by
 unfold cKs
 have h := congrArg (fun m => (m.map (cK p f)).sum) (List.take_append_drop i l)
 simp only [List.map_append, List.sum_append] at h
 omega
theorem cK_succ (p : List TStep) (f a : Nat) : cK p (f + 1) (a : Int) = 1 + cKs p f (kids p (a : Int)) := by
 unfold cK cKs
 rw [Int.toNat_natCast, grow_succ]
 simp only [TB.cnt]
 congr 1
 generalize kids p (a : Int) = l
 induction l with
 | nil => rfl
 | cons x l ih => simp only [List.map_cons, TB.cntL, List.sum_cons, ih]; rfl
def Few (p : List TStep) (f : Nat) (g : Nat → Nat → GR) (k : Int) : Prop := ∀ n, (g k.toNat n).ns.length ≤ 3 * cK p f k ∧ (g k.toNat n).fs.length + 2 ≤ 5 * cK p f k
theorem seq_few {p : List TStep} {f : Nat} {g : Nat → Nat → GR} {n : Nat} {ks : List Int} (h0 : ks ≠ []) (h : ∀ k ∈ ks, Few p f g k) : ∀ i, i + 1 ≤ ks.length → (seqN g n ks i).ns.length ≤ 3 * cKs p f (ks.take (i + 1)) ∧ (seqN g n ks i).fs.length + 2 ≤ 5 * cKs p f (ks.take (i + 1)) := by
 intro i
 induction i with
 | zero =>
  intro hi
  obtain ⟨u, hu⟩ := at_some (l := ks) (i := 0) (by omega)
  have e : headI ks = u := by unfold headI; rw [List.getD_eq_getElem?_getD, hu]; rfl
  rw [seq_zero, e, cKs_snoc hu]
  have := h u (List.mem_of_getElem? hu) n
  simpa [cKs] using this
 | succ i ih =>
  intro hi
  obtain ⟨u, hu⟩ := at_some (l := ks) (i := i + 1) (by omega)
  have h1 := ih (by omega)
  have h2 := h u (List.mem_of_getElem? hu) (n + (seqN g n ks i).ns.length)
  rw [seq_succ hu, cKs_snoc hu]
  simp only [seqF, List.length_append, List.length_singleton]
  omega
theorem sd_few {p : List TStep} {f : Nat} {g : Nat → Nat → GR} {cd : Nat → List TNode} {n : Nat} {op : TGNode} {ks : List Int} (h : ∀ k ∈ ks, Few p f g k) : ∀ i, i ≤ ks.length → (sdN g cd n op ks i).ns.length ≤ 1 + 3 * cKs p f (ks.take i) ∧ (sdN g cd n op ks i).fs.length + i ≤ 5 * cKs p f (ks.take i) ∧ (sdN g cd n op ks i).os.length = i := by
 intro i
 induction i with
 | zero => intro _; simp [sd_zero, cKs]
 | succ i ih =>
  intro hi
  obtain ⟨u, hu⟩ := at_some (l := ks) (i := i) (by omega)
  have h1 := ih (by omega)
  have h2 := h u (List.mem_of_getElem? hu) (n + (sdN g cd n op ks i).ns.length)
  rw [sd_succ hu, cKs_snoc hu]
  simp only [sdF, List.length_append, List.length_singleton]
  omega
theorem sides_few {p : List TStep} {f : Nat} {g : Nat → Nat → GR} {cd : Nat → List TNode} {op cl : TGNode} {ks : List Int} (h : ∀ k ∈ ks, Few p f g k) (n : Nat) : (sidesG g cd op cl ks n).ns.length ≤ 3 * (1 + cKs p f ks) ∧ (sidesG g cd op cl ks n).fs.length + 2 ≤ 5 * (1 + cKs p f ks) := by
 have h1 := sd_few (cd := cd) (n := n) (op := op) h ks.length (Nat.le_refl _)
 rw [List.take_length] at h1
 simp only [sidesG, List.length_append, List.length_singleton, List.length_map]
 omega
theorem gstep_few {p : List TStep} (hP : ProcOk p) : ∀ (f a : Nat), a < p.length → Few p f (gstep p f) (a : Int) := by
 intro f
 induction f with
 | zero => intro a ha n; have := cK_pos p 0 (a : Int); simp only [gstep, List.length_nil]; omega
 | succ f ih =>
  intro a ha n
  have hk : ∀ k ∈ kids p (a : Int), Few p f (gstep p f) k := by
   intro k hk
   obtain ⟨m, rfl, h1, h2, _, _⟩ := hP.kid hk
   exact ih m h2
  have hm := hP.many ha
  rw [cK_succ, Int.toNat_natCast]
  unfold gstep
  have lf : ∀ x : TGNode, (leafG x n).ns.length ≤ 3 * (1 + cKs p f (kids p (a : Int))) ∧ (leafG x n).fs.length + 2 ≤ 5 * (1 + cKs p f (kids p (a : Int))) := by intro x; simp only [leafG, List.length_singleton, List.length_nil]; omega
  split
  ·exact lf _
  split
  ·exact lf _
  split
  ·exact lf _
  split
  ·exact lf _
  split
  ·rename_i h1
   rw [h1] at hm
   have hm1 := hm
   have hlen : 1 ≤ (kids p (a : Int)).length := by
    have : kidLo 1 = 1 := by decide
    omega
   have h2 := seq_few (n := n) (by intro e; rw [e] at hlen; simp at hlen) hk ((kids p (a : Int)).length - 1) (by omega)
   rw [show (kids p (a : Int)).length - 1 + 1 = (kids p (a : Int)).length by omega, List.take_length] at h2
   omega
  split
  ·rename_i h8
   rw [h8] at hm
   have hm1 := hm
   have e1 : kidLo 8 = 2 := by decide
   have e2 : kidHi 8 = 2 := by decide
   have hlen : (kids p (a : Int)).length = 2 := by omega
   obtain ⟨k0, k1, hk2⟩ : ∃ k0 k1, kids p (a : Int) = [k0, k1] := by
    match hq : kids p (a : Int), hlen with
    | [x, y], _ => exact ⟨x, y, rfl⟩
   rw [hk2] at hk ⊢
   have q0 : gI [k0, k1] 0 = k0 := rfl
   have q1 : gI [k0, k1] 1 = k1 := rfl
   have c : cKs p f [k0, k1] = cK p f k0 + cK p f k1 := by simp [cKs]
   rw [q0, q1, c]
   have h0 := hk k0 (by simp) (n + 1)
   have h1 := hk k1 (by simp) (n + 1 + (gstep p f k0.toNat (n + 1)).ns.length + 1)
   simp only [guardG, List.length_append, List.length_cons, List.length_nil]
   omega
  split
  ·exact sides_few hk n
  ·exact sides_few hk n
def mrow (p : List TStep) (ns : List TGNode) (fs : List TFlow) : List AV := [.isl 6 (p.map TStep.ro), nlc 5 (ns.map TGNode.oc), nlc 3 (fs.map TFlow.oc)]
@[go_sem] theorem mrow_eq (p : List TStep) (ns : List TGNode) (fs : List TFlow) : mrow p ns fs = [.isl 6 (p.map TStep.ro), nlc 5 (ns.map TGNode.oc), nlc 3 (fs.map TFlow.oc)] := rfl
theorem nlN (l : List TGNode) : (nlc 5 (l.map TGNode.oc) = .nils ∧ l = []) ∨ (nlc 5 (l.map TGNode.oc) = .osl 5 (l.map TGNode.oc) ∧ l ≠ []) := by
 cases l with
 | nil => exact Or.inl ⟨rfl, rfl⟩
 | cons x r => exact Or.inr ⟨rfl, by simp⟩
theorem nlF (l : List TFlow) : (nlc 3 (l.map TFlow.oc) = .nils ∧ l = []) ∨ (nlc 3 (l.map TFlow.oc) = .osl 3 (l.map TFlow.oc) ∧ l ≠ []) := by
 cases l with
 | nil => exact Or.inl ⟨rfl, rfl⟩
 | cons x r => exact Or.inr ⟨rfl, by simp⟩
theorem tree_snocA {A : List (List AV)} {r : List AV} (hA : ∀ c ∈ A, ∀ x ∈ c, AV.tree x = true) (hr : ∀ x ∈ r, AV.tree x = true) : ∀ c ∈ A ++ [r], ∀ x ∈ c, AV.tree x = true := by
 intro c hc x hx
 rcases List.mem_append.1 hc with h | h
 ·exact hA c h x hx
 ·rw [List.mem_singleton.1 h] at hx; exact hr x hx
def gTop (p : List TStep) : GR := gstep p p.length 0 1
def gNs (p : List TStep) : List TGNode := [⟨1, 0, [], 0, []⟩] ++ (gTop p).ns ++ [⟨2, 0, [], 0, []⟩]
def gFl (p : List TStep) : List TFlow := (gTop p).fs ++ [⟨0, (gTop p).en, []⟩] ++ [⟨(gTop p).lv, (1 + (gTop p).ns.length : Nat), []⟩]
theorem gTop_few {p : List TStep} (h : ProcOk p) : (gTop p).ns.length ≤ 72 ∧ (gTop p).fs.length + 2 ≤ 120 := by
 have h1 := gstep_few h p.length 0 (by have := h.len; omega) 1
 have h2 := (grow_ok h).1
 unfold cK at h1
 simp only [Int.toNat_natCast] at h1
 unfold gTop
 omega
theorem kid_two {n : Nat} (h : kidLo 8 ≤ n ∧ (n : Int) ≤ kidHi 8) : n = 2 := by
 have e1 : kidLo 8 = 2 := by decide
 have e2 : kidHi 8 = 2 := by decide
 omega
theorem kid_one {n : Nat} (h : kidLo 1 ≤ n ∧ (n : Int) ≤ kidHi 1) : 1 ≤ n := by
 have e1 : kidLo 1 = 1 := by decide
 omega
def grw (ns : List TGNode) (fs : List TFlow) : List AV := [nlc 5 (ns.map TGNode.oc), nlc 3 (fs.map TFlow.oc)]
@[go_sem] theorem grw_eq (ns : List TGNode) (fs : List TFlow) : grw ns fs = [nlc 5 (ns.map TGNode.oc), nlc 3 (fs.map TFlow.oc)] := rfl
def plF (fs : List TFlow) (fr : Int) : Nat := (fs.takeWhile fun y => decide (y.frm ≤ fr)).length
theorem plF_le (fs : List TFlow) (fr : Int) : plF fs fr ≤ fs.length := by
 unfold plF
 have := congrArg List.length (List.takeWhile_append_dropWhile (p := fun y : TFlow => decide (y.frm ≤ fr)) (l := fs))
 rw [List.length_append] at this; omega
theorem plF_put (fs : List TFlow) (x : TFlow) : putK TFlow.frm fs x = fs.take (plF fs x.frm) ++ x :: fs.drop (plF fs x.frm) := by
 have e := List.takeWhile_append_dropWhile (p := fun y : TFlow => decide (y.frm ≤ x.frm)) (l := fs)
 have h1 : fs.take (plF fs x.frm) = fs.takeWhile fun y => decide (y.frm ≤ x.frm) := by
  unfold plF
  conv => lhs; arg 2; rw [← e]
  rw [List.take_left]
 have h2 : fs.drop (plF fs x.frm) = fs.dropWhile fun y => decide (y.frm ≤ x.frm) := by
  unfold plF
  conv => lhs; arg 2; rw [← e]
  rw [List.drop_left]
 rw [h1, h2]; rfl
theorem plF_lt {fs : List TFlow} {fr : Int} {i : Nat} {x : TFlow} (h : i < plF fs fr) (hx : fs[i]? = some x) : x.frm ≤ fr := by
 have e := List.takeWhile_append_dropWhile (p := fun y : TFlow => decide (y.frm ≤ fr)) (l := fs)
 rw [← e, List.getElem?_append_left h] at hx
 have := List.mem_of_getElem? hx
 exact take_le (key := TFlow.frm) (x := (⟨fr, 0, []⟩ : TFlow)) fs x this
theorem plF_ge {fs : List TFlow} {fr : Int} {x : TFlow} (hx : fs[plF fs fr]? = some x) : fr < x.frm := by
 have e := List.takeWhile_append_dropWhile (p := fun y : TFlow => decide (y.frm ≤ fr)) (l := fs)
 have hx2 : (fs.takeWhile (fun y : TFlow => decide (y.frm ≤ fr)) ++ fs.dropWhile (fun y : TFlow => decide (y.frm ≤ fr)))[(fs.takeWhile (fun y : TFlow => decide (y.frm ≤ fr))).length]? = some x := by rw [e]; exact hx
 rw [List.getElem?_append_right (Nat.le_refl _), Nat.sub_self] at hx2
 have h2 := List.head?_dropWhile_not (fun y : TFlow => decide (y.frm ≤ fr)) fs
 rw [List.head?_eq_getElem?, hx2] at h2
 simpa using h2
theorem link_look {vs : List VF} {n i : Nat} {fr : Int} (hnl : n ≤ vs.length) (hi : i ≤ n) (h1 : ∀ (i : Nat) x, i < n → vs[i]? = some x → x.src ≤ fr) (h2 : ∀ x, vs[n]? = some x → fr < x.src) :
  (i < n ∧ i < vs.length ∧ ∃ x, vs[i]? = some x ∧ x.src ≤ fr ∧ ∀ h, vs[i]'h = x) ∨ (i = n ∧ i < vs.length ∧ ∃ x, vs[i]? = some x ∧ ¬ x.src ≤ fr ∧ ∀ h, vs[i]'h = x) ∨ (i = n ∧ ¬ i < vs.length ∧ ∃ x : VF, True ∧ True ∧ True) := by
 rcases Nat.lt_or_ge i n with h | h
 ·obtain ⟨x, hx⟩ := at_some (l := vs) (i := i) (by omega)
  exact Or.inl ⟨h, by omega, x, hx, h1 i x h hx, gel hx⟩
 ·have e : i = n := by omega
  subst e
  rcases Nat.lt_or_ge i vs.length with h3 | h3
  ·obtain ⟨x, hx⟩ := at_some h3
   exact Or.inr (Or.inl ⟨rfl, h3, x, hx, by have := h2 x hx; omega, gel hx⟩)
  ·exact Or.inr (Or.inr ⟨rfl, by omega, ⟨0, 0, default⟩, True.intro, True.intro, True.intro⟩)
theorem link_here {vs : List VF} {n : Nat} {r : List AV} (h : n ≤ vs.length) : ((vs.map VF.row).take n ++ r :: (vs.map VF.row).drop n)[n]? = some r := by
 rw [List.getElem?_append_right (by rw [List.length_take]; omega), List.length_take, List.length_map, Nat.min_eq_left h, Nat.sub_self]; rfl
theorem link_set {vs : List VF} {n : Nat} {r r2 : List AV} (h : n ≤ vs.length) : ((vs.map VF.row).take n ++ r :: (vs.map VF.row).drop n).set n r2 = (vs.map VF.row).take n ++ r2 :: (vs.map VF.row).drop n := by
 rw [List.set_append, List.length_take, List.length_map, Nat.min_eq_left h, if_neg (Nat.lt_irrefl _), Nat.sub_self]; rfl
theorem vf_ok {Q : Nat → Prop} {l : List (List AV)} {vs : List VF} (h : ∀ c ∈ l, c ∈ vs.map VF.row) : (∀ c, c ∈ l → ∀ x, x ∈ c → x.plain = true ∧ ∀ y, y ∈ x.ids → Q y) ↔ True := by
 simp only [iff_true]
 intro c hc x hx
 obtain ⟨v, _, rfl⟩ := List.mem_map.1 (h c hc)
 simp only [VF.row, List.mem_cons, List.not_mem_nil, or_false] at hx
 rcases hx with rfl | rfl | rfl <;> exact ⟨rfl, by intro y hy; simp [AV.ids] at hy⟩
@[go_sem high] theorem vf_take_ok {Q : Nat → Prop} (vs : List VF) (i : Nat) : (∀ c, c ∈ (vs.map VF.row).take i → ∀ x, x ∈ c → x.plain = true ∧ ∀ y, y ∈ x.ids → Q y) ↔ True := vf_ok fun c hc => List.mem_of_mem_take hc
@[go_sem high] theorem vf_drop_ok {Q : Nat → Prop} (vs : List VF) (i : Nat) : (∀ c, c ∈ (vs.map VF.row).drop i → ∀ x, x ∈ c → x.plain = true ∧ ∀ y, y ∈ x.ids → Q y) ↔ True := vf_ok fun c hc => List.mem_of_mem_drop hc
@[go_sem high] theorem vf_take_ids (vs : List VF) (i : Nat) : ((vs.map VF.row).take i).flatMap idsL = [] := by rw [← List.map_take]; exact VF_row_idsL _
@[go_sem high] theorem vf_drop_ids (vs : List VF) (i : Nat) : ((vs.map VF.row).drop i).flatMap idsL = [] := by rw [← List.map_drop]; exact VF_row_idsL _
theorem vf_tree {vs : List VF} {n : Nat} {r : List AV} (hr : ∀ x ∈ r, AV.tree x = true) : ∀ c ∈ (vs.map VF.row).take n ++ r :: (vs.map VF.row).drop n, ∀ x ∈ c, AV.tree x = true := by
 have key : ∀ c ∈ vs.map VF.row, ∀ x ∈ c, AV.tree x = true := (VF_row_treeL vs).2 True.intro
 intro c hc x hx
 rcases List.mem_append.1 hc with h | h
 ·exact key c (List.mem_of_mem_take h) x hx
 ·rcases List.mem_cons.1 h with rfl | h
  ·exact hr x hx
  ·exact key c (List.mem_of_mem_drop h) x hx
def lk (F l : List TFlow) : List TFlow := l.foldl (putK TFlow.frm) F
theorem lk_app (F a b : List TFlow) : lk F (a ++ b) = lk (lk F a) b := by simp [lk, List.foldl_append]
theorem lk_one (F : List TFlow) (x : TFlow) : lk F [x] = putK TFlow.frm F x := rfl
theorem lk_len (F l : List TFlow) : (lk F l).length = F.length + l.length := by
 have := (puts_perm (key := TFlow.frm) l F).length_eq
 rw [List.length_append] at this; exact this
theorem lk_srt (l : List TFlow) : lk [] l = srt TFlow.frm l := rfl
theorem ProcOk.bare {p : List TStep} (h : ProcOk p) {a : Nat} (ha : a < p.length) : ((nS p a).kind ≠ 2 → (nS p a).name = []) ∧ (highA (nS p a).kind = 0 → (nS p a).arg = 0) ∧ ((nS p a).kind ≠ 7 → (nS p a).expr = []) ∧ 1 ≤ (nS p a).kind ∧ (nS p a).kind ≤ 8 := by
 have h1 := h.one a ha
 unfold oneF stepF at h1
 split at h1
 ·cases h1
 rename_i h2
 have h3 : ¬ alien (nS p a) = true := fun e => h2 (Or.inr (Or.inr e))
 unfold alien at h3
 simp only [Bool.or_eq_true, Bool.and_eq_true, decide_eq_true_eq, not_or, not_and] at h3
 obtain ⟨⟨a1, a2⟩, a3⟩ := h3
 refine ⟨fun hk => ?_, fun hk => ?_, fun hk => ?_, by omega, by omega⟩
 ·by_cases e : (nS p a).name = []
  ·exact e
  ·exact absurd hk (a1 e)
 ·by_cases e : (nS p a).arg = 0
  ·exact e
  ·exact absurd hk (a2 e)
 ·by_cases e : 0 < (nS p a).expr.length
  ·exact absurd hk (a3 e)
  ·exact List.eq_nil_of_length_eq_zero (by omega)
end Go.AM
namespace Go.AM
open Go.Proofs
end Go.AM
namespace Go.AM
open Go.Proofs
theorem dc_CloneN_n  : DC Try.prog 49 [.nils] (.isl 4 []) [] := by
 refine DC.intro tiOk Try.func49 rfl rfl rfl rfl rfl rfl rfl rfl [] ?_
 refine rgA [0] ?_
 refine AW.seq ?_
 refine rgA [0,4] ?_
 refine AW.cond rfl ?_ ?_
 ·intro hc; try simp at hc
  all_goals try (exfalso; simp at hc; done)
  all_goals (
 refine rgA [2] ?_
 refine rt ?_
 simp [go_sem, Try.results49])
 ·intro hc; try simp at hc
  all_goals try (exfalso; simp at hc; done)
  all_goals (
 refine AW.skipN (fun _ h => h) ?_
 refine rgA [2] ?_
 refine rt ?_
 simp [go_sem, Try.results49])
theorem dc_CloneN_e  : DC Try.prog 49 [.nel] (.isl 4 []) [] := by
 refine DC.intro tiOk Try.func49 rfl rfl rfl rfl rfl rfl rfl rfl [1000] ?_
 refine rgA [0] ?_
 refine AW.seq ?_
 refine rgA [0,4] ?_
 refine AW.cond rfl ?_ ?_
 ·intro hc; try simp at hc
  all_goals try (exfalso; simp at hc; done)
  all_goals (
 refine rgA [2] ?_
 refine rt ?_
 simp [go_sem, Try.results49])
 ·intro hc; try simp at hc
  all_goals try (exfalso; simp at hc; done)
  all_goals (
 refine AW.skipN (fun _ h => h) ?_
 refine AW.slotLe (x := ?x_1) 0 (.isl 4 []) ?h1_1 ?h2_1 ?kk_1
 (case h1_1 => exact rfl)
 (case h2_1 => simp [go_sem])
 refine rgA [2] ?_
 refine rt ?_
 simp [go_sem, Try.results49])
theorem dc_CloneN_nil : DC Try.prog 49 [.isl 4 []] (.isl 4 []) [] := DC.empty dc_CloneN_n dc_CloneN_e
theorem dc_CloneN_c (x : TNode) (r : List TNode) (hb : r.length + 1 ≤ 1048576) : DC Try.prog 49 [.isl 4 ((x :: r).map TNode.ro)] (.osl 4 ((x :: r).map TNode.ro)) [] := by
 refine DC.intro tiOk Try.func49 rfl rfl rfl rfl rfl rfl rfl rfl [1000] ?_
 refine rgA [0] ?_
 refine AW.seq ?_
 refine rgA [0,4] ?_
 refine AW.cond rfl ?_ ?_
 ·intro hc; try simp at hc
  all_goals try (exfalso; simp at hc; done)
  all_goals (
 refine rgA [2] ?_
 refine rt ?_
 simp [go_sem, Try.results49])
 ·intro hc; try simp at hc
  all_goals try (exfalso; simp at hc; done)
  all_goals (
 refine AW.skipN (fun _ h => h) ?_
 refine rgA [2] ?_
 refine rt ?_
 simp [go_sem, Try.results49])
theorem dc_CloneN (l : List TNode) (hb : l.length ≤ 1048576) : DC Try.prog 49 [.isl 4 (l.map TNode.ro)] (owc 4 (l.map TNode.ro)) [] := by
  cases l with
  | nil => exact dc_CloneN_nil
  | cons x r => exact dc_CloneN_c x r hb
end Go.AM
namespace Go.AM
open Go.Proofs
set_option maxHeartbeats 4000000 in
theorem dc_impl_graphMaker_node_z (p : List TStep) (ns : List TGNode) (fs : List TFlow) (kd st k0 s0 ag : Int) (nm : List UInt8) (hn : ns.length ≤ 1000) : DC Try.prog 30 [.op (mrow p ns fs), .int .i64 kd, .int .i64 st, .agg [.int .i64 k0, .int .i64 s0, .str nm, .int .i64 ag, .nils]] (.int .i64 (ns.length : Nat)) [(0, .op (mrow p (ns ++ [(⟨kd, st, nm, ag, []⟩ : TGNode)]) fs))] := by
 have hne : nlc 5 ((ns ++ [(⟨kd, st, nm, ag, []⟩ : TGNode)]).map TGNode.oc) = .osl 5 ((ns ++ [(⟨kd, st, nm, ag, []⟩ : TGNode)]).map TGNode.oc) := by rw [List.map_append]; exact nlc_snoc _ _ _
 have htk : (ns.map TGNode.oc).take ns.length = ns.map TGNode.oc := List.take_of_length_le (by rw [List.length_map]; exact Nat.le_refl _)
 have hwl : IntKind.wrap .i64 ((ns.length : Nat) : Int) = ((ns.length : Nat) : Int) := wrap64 (by omega) (by omega)
 have hwz : IntKind.wrap .i64 0 = 0 := wrap64 (by omega) (by omega)
 refine DC.introG tiOk Try.func30 rfl rfl rfl rfl rfl rfl rfl (by simp [noW, noWo]) [] ?_
 refine rg [0,1,2,7] ?_
 intro k hk; simp -dsimp [go_sem, -decide_eq_true_eq, -decide_eq_false_iff_not, htk, hwl, hwz]
 repeat' first | apply And.intro | refine hk _ ?_ | intro hg | omega | exact True.intro
 all_goals clear hk k
 refine rg [0,7] ?_
 intro k hk; simp -dsimp [go_sem, -decide_eq_true_eq, -decide_eq_false_iff_not, htk, hwl, hwz]
 repeat' first | apply And.intro | refine hk _ ?_ | intro hg | omega | exact True.intro
 all_goals clear hk k
 rcases nlN ns with ⟨hnc, hl0⟩ | ⟨hnc, hl0⟩
 all_goals (
 rw [hnc]
 try refine AW.thaw 1900 0 1 7001 rfl rfl rfl (by simp [go_sem]) ?_
 refine rg0 [0] ?_
 intro k hk; simp -dsimp (maxSteps := 2000000) [go_sem, -decide_eq_true_eq, -decide_eq_false_iff_not, htk, hwl, hwz]
 repeat' first | ((refine Chk.keys ?_); simp only [go_sem, List.map_cons, List.map_nil, List.flatMap_cons, List.flatMap_nil, List.flatMap_append, List.append_nil, List.nil_append, List.cons_append]; decide +kernel) | apply And.intro | refine hk _ ?_ | intro hg | omega | exact True.intro
 all_goals clear hk k
 first | refine AW.cellLe 21 0 4 (.isl 4 []) rfl rfl rfl (by simp [go_sem]) ?_ | refine AW.cellLe 21 ns.length 4 (.isl 4 []) rfl (app_here (by simp)) rfl (by simp [go_sem]) ?_
 refine rg [0,8] ?_
 intro k hk; simp -dsimp (maxSteps := 2000000) [go_sem, -decide_eq_true_eq, -decide_eq_false_iff_not, htk, hwl, hwz]
 repeat' first | apply And.intro | refine hk _ ?_ | intro hg | omega | exact True.intro
 all_goals clear hk k
 refine AW.ret ⟨.inr rfl, ?_⟩
 refine Gh.fold 1900 0 1 21 rfl rfl rfl rfl (by simp) (by decide) (by first | exact tree_snocA (by simp [go_sem]) (by simp [go_sem]) | (simp only [List.set_append, List.length_map, Nat.lt_irrefl, if_false, ite_false, Nat.sub_self, List.set_cons_zero]; exact tree_snocA (by simp [go_sem]) (by simp [go_sem])) | simp [go_sem]) ?_
 refine Gh.done ?_
 first | (subst hl0; simp [go_sem, Try.results30]; done) | (simp [go_sem, Try.results30, hne, List.set_append]; done) | simp [go_sem, Try.results30, hne, hl0, List.set_append])
set_option maxHeartbeats 4000000 in
theorem dc_impl_graphMaker_node_o (p : List TStep) (ns : List TGNode) (fs : List TFlow) (kd st k0 s0 ag : Int) (nm : List UInt8) (e : List TNode) (he : e ≠ []) (hn : ns.length ≤ 1000) : DC Try.prog 30 [.op (mrow p ns fs), .int .i64 kd, .int .i64 st, .agg [.int .i64 k0, .int .i64 s0, .str nm, .int .i64 ag, .osl 4 (e.map TNode.ro)]] (.int .i64 (ns.length : Nat)) [(0, .op (mrow p (ns ++ [(⟨kd, st, nm, ag, e⟩ : TGNode)]) fs))] := by
 have hne : nlc 5 ((ns ++ [(⟨kd, st, nm, ag, e⟩ : TGNode)]).map TGNode.oc) = .osl 5 ((ns ++ [(⟨kd, st, nm, ag, e⟩ : TGNode)]).map TGNode.oc) := by rw [List.map_append]; exact nlc_snoc _ _ _
 have htk : (ns.map TGNode.oc).take ns.length = ns.map TGNode.oc := List.take_of_length_le (by rw [List.length_map]; exact Nat.le_refl _)
 have hwl : IntKind.wrap .i64 ((ns.length : Nat) : Int) = ((ns.length : Nat) : Int) := wrap64 (by omega) (by omega)
 have hwz : IntKind.wrap .i64 0 = 0 := wrap64 (by omega) (by omega)
 have hoc : owc 4 (e.map TNode.ro) = .osl 4 (e.map TNode.ro) := owc_ne (by simpa using he)
 refine DC.introG tiOk Try.func30 rfl rfl rfl rfl rfl rfl rfl (by simp [noW, noWo]) [] ?_
 refine rg [0,1,2,7] ?_
 intro k hk; simp -dsimp [go_sem, -decide_eq_true_eq, -decide_eq_false_iff_not, htk, hwl, hwz, hoc]
 repeat' first | apply And.intro | refine hk _ ?_ | intro hg | omega | exact True.intro
 all_goals clear hk k
 refine rg [0,7] ?_
 intro k hk; simp -dsimp [go_sem, -decide_eq_true_eq, -decide_eq_false_iff_not, htk, hwl, hwz, hoc]
 repeat' first | apply And.intro | refine hk _ ?_ | intro hg | omega | exact True.intro
 all_goals clear hk k
 rcases nlN ns with ⟨hnc, hl0⟩ | ⟨hnc, hl0⟩
 all_goals (
 rw [hnc]
 try refine AW.thaw 1900 0 1 7001 rfl rfl rfl (by simp [go_sem]) ?_
 refine rg0 [0] ?_
 intro k hk; simp -dsimp (maxSteps := 2000000) [go_sem, -decide_eq_true_eq, -decide_eq_false_iff_not, htk, hwl, hwz, hoc]
 repeat' first | ((refine Chk.keys ?_); simp only [go_sem, List.map_cons, List.map_nil, List.flatMap_cons, List.flatMap_nil, List.flatMap_append, List.append_nil, List.nil_append, List.cons_append]; decide +kernel) | apply And.intro | refine hk _ ?_ | intro hg | omega | exact True.intro
 all_goals clear hk k
 refine rg [0,8] ?_
 intro k hk; simp -dsimp (maxSteps := 2000000) [go_sem, -decide_eq_true_eq, -decide_eq_false_iff_not, htk, hwl, hwz, hoc]
 repeat' first | apply And.intro | refine hk _ ?_ | intro hg | omega | exact True.intro
 all_goals clear hk k
 refine AW.ret ⟨.inr rfl, ?_⟩
 first | refine Gh.fold 21 0 4 1903 rfl rfl rfl rfl (by simp) (by decide) (by simp [go_sem]) ?_ | refine Gh.fold 21 ns.length 4 1903 rfl (app_here (by simp)) rfl rfl (by simp) (by decide) (by simp [go_sem]) ?_
 refine Gh.fold 1900 0 1 21 rfl rfl rfl rfl (by simp) (by decide) (by first | exact tree_snocA (by simp [go_sem]) (by simp [go_sem]) | (simp only [List.set_append, List.length_map, Nat.lt_irrefl, if_false, ite_false, Nat.sub_self, List.set_cons_zero]; exact tree_snocA (by simp [go_sem]) (by simp [go_sem])) | simp [go_sem]) ?_
 refine Gh.done ?_
 first | (subst hl0; simp [go_sem, Try.results30, hoc]; done) | (simp [go_sem, Try.results30, hne, hoc, List.set_append]; done) | simp [go_sem, Try.results30, hne, hl0, hoc, List.set_append])
end Go.AM
namespace Go.AM
open Go.Proofs
set_option maxHeartbeats 4000000 in
theorem dc_impl_graphMaker_flow_n (p : List TStep) (ns : List TGNode) (fs : List TFlow) (fr to : Int) (hn : fs.length ≤ 1000) : DC Try.prog 32 [.op (mrow p ns fs), .int .i64 fr, .int .i64 to, .nils] (.tup []) [(0, .op (mrow p ns (fs ++ [(⟨fr, to, []⟩ : TFlow)])))] := by
 have hne : nlc 3 ((fs ++ [(⟨fr, to, []⟩ : TFlow)]).map TFlow.oc) = .osl 3 ((fs ++ [(⟨fr, to, []⟩ : TFlow)]).map TFlow.oc) := by rw [List.map_append]; exact nlc_snoc _ _ _
 have htk : (fs.map TFlow.oc).take fs.length = fs.map TFlow.oc := List.take_of_length_le (by rw [List.length_map]; exact Nat.le_refl _)
 refine DC.introG tiOk Try.func32 rfl rfl rfl rfl rfl rfl rfl (by simp [noW, noWo]) [] ?_
 rcases nlF fs with ⟨hnc, hl0⟩ | ⟨hnc, hl0⟩
 all_goals (
 have hmw : mrow p ns fs = [.isl 6 (p.map TStep.ro), nlc 5 (ns.map TGNode.oc), nlc 3 (fs.map TFlow.oc)] := rfl
 rw [hnc] at hmw
 rw [hmw]
 try refine AW.thaw 1900 0 2 7001 rfl rfl rfl (by simp [go_sem]) ?_
 refine rgE (fun _ => []) ?_
 intro k hk; simp -dsimp (maxSteps := 2000000) [go_sem, -decide_eq_true_eq, -decide_eq_false_iff_not, htk]
 repeat' first | ((refine Chk.keys ?_); simp only [go_sem, List.map_cons, List.map_nil, List.flatMap_cons, List.flatMap_nil, List.flatMap_append, List.append_nil, List.nil_append, List.cons_append]; decide +kernel) | apply And.intro | refine hk _ ?_ | intro hg | (refine CallK.intro (dc_CloneN_n) ?_; simp -dsimp (maxSteps := 2000000) [go_sem, -decide_eq_true_eq, -decide_eq_false_iff_not, htk]) | omega | exact True.intro
 all_goals clear hk k
 refine ⟨.intro, And.intro (.inl rfl) ?_⟩
 refine Gh.fold 1900 0 2 20 rfl rfl rfl rfl (by simp) (by decide) (by first | exact tree_snocA (by simp [go_sem]) (by simp [go_sem]) | (simp only [List.set_append, List.length_map, Nat.lt_irrefl, if_false, ite_false, Nat.sub_self, List.set_cons_zero]; exact tree_snocA (by simp [go_sem]) (by simp [go_sem])) | simp [go_sem]) ?_
 refine Gh.done ?_
 first | (subst hl0; simp [go_sem, Try.results32]; done) | (simp [go_sem, Try.results32, hne, List.set_append]; done) | (simp [go_sem, Try.results32, hne, hl0, List.set_append]; done))
set_option maxHeartbeats 4000000 in
theorem dc_impl_graphMaker_flow_c (p : List TStep) (ns : List TGNode) (fs : List TFlow) (fr to : Int) (c : List TNode) (hc0 : c.length ≤ 1048576) (hn : fs.length ≤ 1000) : DC Try.prog 32 [.op (mrow p ns fs), .int .i64 fr, .int .i64 to, .isl 4 (c.map TNode.ro)] (.tup []) [(0, .op (mrow p ns (fs ++ [(⟨fr, to, c⟩ : TFlow)])))] := by
 have hne : nlc 3 ((fs ++ [(⟨fr, to, c⟩ : TFlow)]).map TFlow.oc) = .osl 3 ((fs ++ [(⟨fr, to, c⟩ : TFlow)]).map TFlow.oc) := by rw [List.map_append]; exact nlc_snoc _ _ _
 have htk : (fs.map TFlow.oc).take fs.length = fs.map TFlow.oc := List.take_of_length_le (by rw [List.length_map]; exact Nat.le_refl _)
 refine DC.introG tiOk Try.func32 rfl rfl rfl rfl rfl rfl rfl (by simp [noW, noWo]) [] ?_
 rcases nlF fs with ⟨hnc, hl0⟩ | ⟨hnc, hl0⟩ <;> rcases ccases c with ⟨hoc, hoc0⟩ | ⟨hoc, hoc0⟩
 all_goals (
 have hmw : mrow p ns fs = [.isl 6 (p.map TStep.ro), nlc 5 (ns.map TGNode.oc), nlc 3 (fs.map TFlow.oc)] := rfl
 rw [hnc] at hmw
 rw [hmw]
 try refine AW.thaw 1900 0 2 7001 rfl rfl rfl (by simp [go_sem]) ?_
 refine rgE (fun _ => []) ?_
 intro k hk; simp -dsimp (maxSteps := 2000000) [go_sem, -decide_eq_true_eq, -decide_eq_false_iff_not, htk, hoc]
 repeat' first | ((refine Chk.keys ?_); simp only [go_sem, List.map_cons, List.map_nil, List.flatMap_cons, List.flatMap_nil, List.flatMap_append, List.append_nil, List.nil_append, List.cons_append]; decide +kernel) | apply And.intro | refine hk _ ?_ | intro hg | (refine CallK.intro (dc_CloneN c hc0) ?_; simp -dsimp (maxSteps := 2000000) [go_sem, -decide_eq_true_eq, -decide_eq_false_iff_not, htk, hoc]) | omega | exact True.intro
 all_goals clear hk k
 refine ⟨.intro, And.intro (.inl rfl) ?_⟩
 try (guard_hyp hoc0 : 0 < c.length; first | refine Gh.fold 20 0 2 1017 rfl rfl rfl rfl (by simp) (by decide) (by simp [go_sem]) ?_ | refine Gh.fold 20 fs.length 2 1017 rfl (app_here (by simp)) rfl rfl (by simp) (by decide) (by simp [go_sem]) ?_)
 refine Gh.fold 1900 0 2 20 rfl rfl rfl rfl (by simp) (by decide) (by first | exact tree_snocA (by simp [go_sem]) (by simp [go_sem]) | (simp only [List.set_append, List.length_map, Nat.lt_irrefl, if_false, ite_false, Nat.sub_self, List.set_cons_zero]; exact tree_snocA (by simp [go_sem]) (by simp [go_sem])) | simp [go_sem]) ?_
 refine Gh.done ?_
 first | (subst hl0; simp [go_sem, Try.results32, hoc]; done) | (simp [go_sem, Try.results32, hne, hoc, List.set_append]; done) | (simp [go_sem, Try.results32, hne, hl0, hoc, List.set_append]; done))
end Go.AM
namespace Go.AM
open Go.Proofs
theorem dc_impl_argBounds (k : Int) : DC Try.prog 40 [.int .i64 k] (.tup [.int .i64 (lowA k), .int .i64 (highA k)]) [] := by
 refine DC.intro tiOk Try.func40 rfl rfl rfl rfl rfl rfl rfl rfl [] ?_
 refine rgA [0] ?_
 refine AW.seq ?_
 refine rgA [4] ?_
 refine AW.block ?_
 refine rgA [4,5] ?_
 refine AW.cond rfl ?_ ?_
 ·intro hc; try simp at hc
  all_goals try (exfalso; omega; done)
  all_goals (
 refine rgA [2,3] ?_
 refine rt ?_
 simp [go_sem, Try.results40, lowA, highA] <;> grind)
 ·intro hc; try simp at hc
  all_goals try (exfalso; omega; done)
  all_goals (
 refine AW.seq ?_
 refine rgA [4,7] ?_
 refine AW.cond rfl ?_ ?_
 ·intro hc; try simp at hc
  all_goals try (exfalso; omega; done)
  all_goals (
 refine AW.skipN (fun _ h => h) ?_
 refine AW.cond rfl ?_ ?_
 ·intro hc; try simp at hc
  all_goals try (exfalso; omega; done)
  all_goals (
 refine rgA [2,3] ?_
 refine rt ?_
 simp [go_sem, Try.results40, lowA, highA] <;> grind)
 ·intro hc; try simp at hc
  all_goals try (exfalso; omega; done)
  all_goals (
 refine rgA [10] ?_
 refine AW.cond rfl ?_ ?_
 ·intro hc; try simp at hc
  all_goals try (exfalso; omega; done)
  all_goals (
 refine rgA [2,3] ?_
 refine rt ?_
 simp [go_sem, Try.results40, lowA, highA] <;> grind)
 ·intro hc; try simp at hc
  all_goals try (exfalso; omega; done)
  all_goals (
 refine AW.skipN (fun _ h => h) ?_
 refine rgA [2,3] ?_
 refine rt ?_
 simp [go_sem, Try.results40, lowA, highA] <;> grind)))
 ·intro hc; try simp at hc
  all_goals try (exfalso; omega; done)
  all_goals (
 refine rgNA [4,7] (fun _ h => h) ?_
 refine AW.cond rfl ?_ ?_
 ·intro hc; try simp at hc
  all_goals try (exfalso; omega; done)
  all_goals (
 refine rgA [2,3] ?_
 refine rt ?_
 simp [go_sem, Try.results40, lowA, highA] <;> grind)
 ·intro hc; try simp at hc
  all_goals try (exfalso; omega; done)
  all_goals (
 refine rgA [10] ?_
 refine AW.cond rfl ?_ ?_
 ·intro hc; try simp at hc
  all_goals try (exfalso; omega; done)
  all_goals (
 refine rgA [2,3] ?_
 refine rt ?_
 simp [go_sem, Try.results40, lowA, highA] <;> grind)
 ·intro hc; try simp at hc
  all_goals try (exfalso; omega; done)
  all_goals (
 refine AW.skipN (fun _ h => h) ?_
 refine rgA [2,3] ?_
 refine rt ?_
 simp [go_sem, Try.results40, lowA, highA] <;> grind))))
theorem dc_impl_kidBounds (k : Int) : DC Try.prog 45 [.int .i64 k] (.tup [.int .i64 (kidLo k), .int .i64 (kidHi k)]) [] := by
 refine DC.intro tiOk Try.func45 rfl rfl rfl rfl rfl rfl rfl rfl [] ?_
 refine rgA [0] ?_
 refine AW.seq ?_
 refine rgA [4] ?_
 refine AW.block ?_
 refine rgA [4,5] ?_
 refine AW.cond rfl ?_ ?_
 ·intro hc; try simp at hc
  all_goals try (exfalso; omega; done)
  all_goals (
 refine rgA [2,3] ?_
 refine rt ?_
 simp [go_sem, Try.results45, kidLo, kidHi] <;> grind)
 ·intro hc; try simp at hc
  all_goals try (exfalso; omega; done)
  all_goals (
 refine AW.seq ?_
 refine rgA [4,7] ?_
 refine AW.cond rfl ?_ ?_
 ·intro hc; try simp at hc
  all_goals try (exfalso; omega; done)
  all_goals (
 refine AW.skipN (fun _ h => h) ?_
 refine AW.cond rfl ?_ ?_
 ·intro hc; try simp at hc
  all_goals try (exfalso; omega; done)
  all_goals (
 refine rgA [2,3] ?_
 refine rt ?_
 simp [go_sem, Try.results45, kidLo, kidHi] <;> grind)
 ·intro hc; try simp at hc
  all_goals try (exfalso; omega; done)
  all_goals (
 refine rgA [10] ?_
 refine AW.cond rfl ?_ ?_
 ·intro hc; try simp at hc
  all_goals try (exfalso; omega; done)
  all_goals (
 refine rgA [2,3] ?_
 refine rt ?_
 simp [go_sem, Try.results45, kidLo, kidHi] <;> grind)
 ·intro hc; try simp at hc
  all_goals try (exfalso; omega; done)
  all_goals (
 refine AW.skipN (fun _ h => h) ?_
 refine rgA [2,3] ?_
 refine rt ?_
 simp [go_sem, Try.results45, kidLo, kidHi] <;> grind)))
 ·intro hc; try simp at hc
  all_goals try (exfalso; omega; done)
  all_goals (
 refine rgNA [4,7] (fun _ h => h) ?_
 refine AW.cond rfl ?_ ?_
 ·intro hc; try simp at hc
  all_goals try (exfalso; omega; done)
  all_goals (
 refine rgA [2,3] ?_
 refine rt ?_
 simp [go_sem, Try.results45, kidLo, kidHi] <;> grind)
 ·intro hc; try simp at hc
  all_goals try (exfalso; omega; done)
  all_goals (
 refine rgA [10] ?_
 refine AW.cond rfl ?_ ?_
 ·intro hc; try simp at hc
  all_goals try (exfalso; omega; done)
  all_goals (
 refine rgA [2,3] ?_
 refine rt ?_
 simp [go_sem, Try.results45, kidLo, kidHi] <;> grind)
 ·intro hc; try simp at hc
  all_goals try (exfalso; omega; done)
  all_goals (
 refine AW.skipN (fun _ h => h) ?_
 refine rgA [2,3] ?_
 refine rt ?_
 simp [go_sem, Try.results45, kidLo, kidHi] <;> grind))))
theorem dc_spec_l4Many (k : Int) (n : Nat) (hn : n ≤ 24) : DC Try.prog 76 [.int .i64 k, .int .i64 (n : Nat)] (.bool (inR n (kidLo k) (kidHi k))) [] := by
 refine DC.intro tiOk Try.func76 rfl rfl rfl rfl rfl rfl rfl rfl [] ?_
 refine rgA [0,1] ?_
 refine AW.seq ?_
 refine rgA [1,5] ?_
 refine AW.block ?_
 refine rgA [1,5,6] ?_
 refine AW.cond rfl ?_ ?_
 ·intro hc; try simp at hc
  all_goals try (exfalso; omega; done)
  all_goals (
 refine rgA [4] ?_
 refine rt ?_
 simp [go_sem, Try.results76, inR, kidLo, kidHi] <;> grind)
 ·intro hc; try simp at hc
  all_goals try (exfalso; omega; done)
  all_goals (
 refine AW.seq ?_
 refine rgA [1,5,10] ?_
 refine AW.cond rfl ?_ ?_
 ·intro hc; try simp at hc
  all_goals try (exfalso; omega; done)
  all_goals (
 refine AW.skipN (fun _ h => h) ?_
 refine AW.cond rfl ?_ ?_
 ·intro hc; try simp at hc
  all_goals try (exfalso; omega; done)
  all_goals (
 refine rgA [4] ?_
 refine rt ?_
 simp [go_sem, Try.results76, inR, kidLo, kidHi] <;> grind)
 ·intro hc; try simp at hc
  all_goals try (exfalso; omega; done)
  all_goals (
 refine rgA [1,15] ?_
 refine AW.cond rfl ?_ ?_
 ·intro hc; try simp at hc
  all_goals try (exfalso; omega; done)
  all_goals (
 refine rgA [4] ?_
 refine rt ?_
 simp [go_sem, Try.results76, inR, kidLo, kidHi] <;> grind)
 ·intro hc; try simp at hc
  all_goals try (exfalso; omega; done)
  all_goals (
 refine AW.skipN (fun _ h => h) ?_
 refine rgA [4] ?_
 refine rt ?_
 simp [go_sem, Try.results76, inR, kidLo, kidHi] <;> grind)))
 ·intro hc; try simp at hc
  all_goals try (exfalso; omega; done)
  all_goals (
 refine rgNA [1,5,10] (fun _ h => h) ?_
 refine AW.cond rfl ?_ ?_
 ·intro hc; try simp at hc
  all_goals try (exfalso; omega; done)
  all_goals (
 refine rgA [4] ?_
 refine rt ?_
 simp [go_sem, Try.results76, inR, kidLo, kidHi] <;> grind)
 ·intro hc; try simp at hc
  all_goals try (exfalso; omega; done)
  all_goals (
 refine rgA [1,15] ?_
 refine AW.cond rfl ?_ ?_
 ·intro hc; try simp at hc
  all_goals try (exfalso; omega; done)
  all_goals (
 refine rgA [4] ?_
 refine rt ?_
 simp [go_sem, Try.results76, inR, kidLo, kidHi] <;> grind)
 ·intro hc; try simp at hc
  all_goals try (exfalso; omega; done)
  all_goals (
 refine AW.skipN (fun _ h => h) ?_
 refine rgA [4] ?_
 refine rt ?_
 simp [go_sem, Try.results76, inR, kidLo, kidHi] <;> grind))))
theorem dc_spec_l4Arg (s : TStep) : DC Try.prog 74 [.ip s.ro] (.bool (decide (s.kind = 5 ∨ s.kind = 6 ∨ s.kind = 7 ∨ s.kind = 8 → lowA s.kind ≤ s.arg ∧ s.arg ≤ highA s.kind))) [] := by
 refine DC.intro tiOk Try.func74 rfl rfl rfl rfl rfl rfl rfl rfl [] ?_
 refine rgA [0] ?_
 refine AW.seq ?_
 refine rgA [0,6] ?_
 refine AW.block ?_
 refine rgA [0,6,7] ?_
 refine AW.cond rfl ?_ ?_
 ·intro hc; try simp at hc
  all_goals try (exfalso; omega; done)
  all_goals (
 refine rg [2] ?_
 intro k hk; simp -dsimp (maxSteps := 2000000) [go_sem, -decide_eq_true_eq, -decide_eq_false_iff_not]
 repeat' first | apply And.intro | refine hk _ ?_ | intro hg | (refine CallK.intro (dc_spec_l1In _ _ _) ?_; simp -dsimp (maxSteps := 2000000) [go_sem, -decide_eq_true_eq, -decide_eq_false_iff_not]) | omega | exact True.intro
 all_goals clear hk k
 refine rt ?_
 simp [go_sem, Try.results74, inR, lowA, highA] <;> grind)
 ·intro hc; try simp at hc
  all_goals try (exfalso; omega; done)
  all_goals (
 refine AW.seq ?_
 refine rgA [0,6,14] ?_
 refine AW.cond rfl ?_ ?_
 ·intro hc; try simp at hc
  all_goals try (exfalso; omega; done)
  all_goals (
 refine AW.skipN (fun _ h => h) ?_
 refine AW.cond rfl ?_ ?_
 ·intro hc; try simp at hc
  all_goals try (exfalso; omega; done)
  all_goals (
 refine rg [2] ?_
 intro k hk; simp -dsimp (maxSteps := 2000000) [go_sem, -decide_eq_true_eq, -decide_eq_false_iff_not]
 repeat' first | apply And.intro | refine hk _ ?_ | intro hg | (refine CallK.intro (dc_spec_l1In _ _ _) ?_; simp -dsimp (maxSteps := 2000000) [go_sem, -decide_eq_true_eq, -decide_eq_false_iff_not]) | omega | exact True.intro
 all_goals clear hk k
 refine rt ?_
 simp [go_sem, Try.results74, inR, lowA, highA] <;> grind)
 ·intro hc; try simp at hc
  all_goals try (exfalso; omega; done)
  all_goals (
 refine rgA [0,22] ?_
 refine AW.cond rfl ?_ ?_
 ·intro hc; try simp at hc
  all_goals try (exfalso; omega; done)
  all_goals (
 refine rg [2] ?_
 intro k hk; simp -dsimp (maxSteps := 2000000) [go_sem, -decide_eq_true_eq, -decide_eq_false_iff_not]
 repeat' first | apply And.intro | refine hk _ ?_ | intro hg | (refine CallK.intro (dc_spec_l1In _ _ _) ?_; simp -dsimp (maxSteps := 2000000) [go_sem, -decide_eq_true_eq, -decide_eq_false_iff_not]) | omega | exact True.intro
 all_goals clear hk k
 refine rt ?_
 simp [go_sem, Try.results74, inR, lowA, highA] <;> grind)
 ·intro hc; try simp at hc
  all_goals try (exfalso; omega; done)
  all_goals (
 refine AW.skipN (fun _ h => h) ?_
 refine rgA [2] ?_
 refine rt ?_
 simp [go_sem, Try.results74, inR, lowA, highA] <;> grind)))
 ·intro hc; try simp at hc
  all_goals try (exfalso; omega; done)
  all_goals (
 refine rgNA [0,6,14] (fun _ h => h) ?_
 refine AW.cond rfl ?_ ?_
 ·intro hc; try simp at hc
  all_goals try (exfalso; omega; done)
  all_goals (
 refine rg [2] ?_
 intro k hk; simp -dsimp (maxSteps := 2000000) [go_sem, -decide_eq_true_eq, -decide_eq_false_iff_not]
 repeat' first | apply And.intro | refine hk _ ?_ | intro hg | (refine CallK.intro (dc_spec_l1In _ _ _) ?_; simp -dsimp (maxSteps := 2000000) [go_sem, -decide_eq_true_eq, -decide_eq_false_iff_not]) | omega | exact True.intro
 all_goals clear hk k
 refine rt ?_
 simp [go_sem, Try.results74, inR, lowA, highA] <;> grind)
 ·intro hc; try simp at hc
  all_goals try (exfalso; omega; done)
  all_goals (
 refine rgA [0,22] ?_
 refine AW.cond rfl ?_ ?_
 ·intro hc; try simp at hc
  all_goals try (exfalso; omega; done)
  all_goals (
 refine rg [2] ?_
 intro k hk; simp -dsimp (maxSteps := 2000000) [go_sem, -decide_eq_true_eq, -decide_eq_false_iff_not]
 repeat' first | apply And.intro | refine hk _ ?_ | intro hg | (refine CallK.intro (dc_spec_l1In _ _ _) ?_; simp -dsimp (maxSteps := 2000000) [go_sem, -decide_eq_true_eq, -decide_eq_false_iff_not]) | omega | exact True.intro
 all_goals clear hk k
 refine rt ?_
 simp [go_sem, Try.results74, inR, lowA, highA] <;> grind)
 ·intro hc; try simp at hc
  all_goals try (exfalso; omega; done)
  all_goals (
 refine AW.skipN (fun _ h => h) ?_
 refine rgA [2] ?_
 refine rt ?_
 simp [go_sem, Try.results74, inR, lowA, highA] <;> grind))))
theorem dc_spec_l4Bare (s : TStep) (hg : s.gok) : DC Try.prog 70 [.ip s.ro] (.bool (!alien s)) [] := by
 obtain ⟨g0, g1, g2⟩ := hg
 refine DC.intro tiOk Try.func70 rfl rfl rfl rfl rfl rfl rfl rfl [] ?_
 refine rgA [0] ?_
 refine rg [0,3] ?_
 intro k hk; simp -dsimp (maxSteps := 2000000) [go_sem, -decide_eq_true_eq, -decide_eq_false_iff_not]
 repeat' first | apply And.intro | refine hk _ ?_ | intro hg | (refine CallK.intro (dc_spec_l1In _ _ _) ?_; simp -dsimp (maxSteps := 2000000) [go_sem, -decide_eq_true_eq, -decide_eq_false_iff_not]) | omega | exact True.intro
 all_goals clear hk k
 refine AW.cut ⟨46, [(2, .bool (!alien s))], []⟩ ?_ ?_
 ·skip
  refine rgK ?_
  intro k hk; simp +contextual -dsimp (maxSteps := 2000000) [go_sem, -decide_eq_true_eq, -decide_eq_false_iff_not]
  repeat' first | apply And.intro | refine hk _ ?_ | (intro hg; try simp only [decide_eq_true_eq, decide_eq_false_iff_not] at hg) | omega | exact True.intro
  all_goals clear hk k
  all_goals (show St.Less _ _; exact Less.of rfl (by simp [go_sem, alien, highA, inR] at * <;> grind) (by simp [go_sem]))
 ·skip
  refine rt ?_
  simp [go_sem, Try.results70]
theorem dc_impl_parents_next_z (par : Int) : DC Try.prog 41 [.op [.nils, .nils], .int .i64 par] (.int .i64 (parF [] par)) [(0, .op [nlc 1 ((nxtL [] par).map I1), nlc 1 ((nxtD [] [] par).map I1)])] := by
 have hwm : IntKind.wrap .i64 (-1) = -1 := wrap64 (by omega) (by omega)
 refine DC.intro tiOk Try.func41 rfl rfl rfl rfl rfl rfl rfl (by simp [noW, noWo]) [] ?_
 refine rg [0,1] ?_
 intro k hk; simp -dsimp [go_sem, -decide_eq_true_eq, -decide_eq_false_iff_not, hwm]
 repeat' first | apply And.intro | refine hk _ ?_ | intro hg | omega | exact True.intro
 all_goals clear hk k
 refine rg [0,1,5] ?_
 intro k hk; simp -dsimp [go_sem, -decide_eq_true_eq, -decide_eq_false_iff_not, hwm]
 repeat' first | apply And.intro | refine hk _ ?_ | intro hg | omega | exact True.intro
 all_goals clear hk k
 refine AW.seq ?_
 refine AW.cut ⟨75, [(0, .ptr 1900 2 0 0), (1, .int .i64 par), (5, .int .i64 0), (29, .bool (decide (par ≠ -1)))], [(1900, some ⟨2, [[.nils, .nils]]⟩)]⟩ ?_ ?_
 ·skip
  refine rgK ?_
  intro k hk; simp +contextual -dsimp (maxSteps := 2000000) [go_sem, -decide_eq_true_eq, -decide_eq_false_iff_not, hwm]
  repeat' first | apply And.intro | refine hk _ ?_ | (intro hg; try simp only [decide_eq_true_eq, decide_eq_false_iff_not] at hg) | (refine CallK.intro (dc_impl_inRange _ _ _) ?_; simp +contextual -dsimp (maxSteps := 2000000) [go_sem, -decide_eq_true_eq, -decide_eq_false_iff_not, hwm]) | omega | exact True.intro
  all_goals clear hk k
  all_goals (show St.Less _ _; exact Less.of rfl (by simp [go_sem] <;> grind) (by simp [go_sem]))
 ·skip
  refine AW.cond rfl ?_ ?_
  ·intro hc; try simp at hc
   all_goals try (exfalso; omega; done)
   all_goals (
 refine rg [0,4] ?_
 intro k hk; simp -dsimp [go_sem, -decide_eq_true_eq, -decide_eq_false_iff_not, hwm]
 repeat' first | apply And.intro | refine hk _ ?_ | intro hg | omega | exact True.intro
 all_goals clear hk k
 refine rt ?_
 first | (have hpm : par = -1 := (by assumption); subst hpm; simp [go_sem, Try.results41, nxtL, nxtD, parF]; done) | (have hpm : ¬ par = -1 := (by first | assumption | simpa using hc); simp [go_sem, Try.results41, nxtL, nxtD, parF, hpm]))
  ·intro hc; try simp at hc
   all_goals try (exfalso; omega; done)
   all_goals (
 refine AW.skipN (fun _ h => h) ?_
 have hpm : par = -1 := by simpa using hc
 refine rg [0,1,6] ?_
 intro k hk; simp -dsimp [go_sem, -decide_eq_true_eq, -decide_eq_false_iff_not, hwm, hpm]
 repeat' first | apply And.intro | refine hk _ ?_ | intro hg | omega | exact True.intro
 all_goals clear hk k
 refine AW.seq ?_
 refine AW.block ?_
 refine AW.loopI (fun _ : Nat => ⟨75, [(0, .ptr 1900 2 0 0), (1, .int .i64 par), (6, .int .i64 (-1))], [(1900, some ⟨2, [[.nils, .nils]]⟩)]⟩) (fun _ => True) (fun _ => 0) (0) (trivial) (Less.of rfl (by simp [go_sem, hpm, hwm]) (by simp [go_sem])) ?_
 rintro i _
 refine AW.seq ?_
 refine rg [0,1,6,34] ?_
 intro k hk; simp -dsimp [go_sem, -decide_eq_true_eq, -decide_eq_false_iff_not, hwm]
 repeat' first | apply And.intro | refine hk _ ?_ | intro hg | omega | exact True.intro
 all_goals clear hk k
 refine AW.cond rfl ?_ ?_
 ·intro hc; try simp at hc
  all_goals try (exfalso; omega; done)
  all_goals (
 refine AW.skipN (fun _ h => h) ?_
 refine AW.block ?_
 refine rgK ?_
 intro k hk; simp -dsimp (maxSteps := 2000000) [go_sem, -decide_eq_true_eq, -decide_eq_false_iff_not, hwm]
 repeat' first | apply And.intro | refine hk _ ?_ | intro hg | omega | exact True.intro
 all_goals clear hk k
 show ∃ _, _
 exfalso; omega)
 ·intro hc; try simp at hc
  all_goals try (exfalso; omega; done)
  all_goals (
 refine AW.exitN (fun _ h => h) ?_
 refine AW.seq ?_
 refine rg [0,1,44] ?_
 intro k hk; simp -dsimp [go_sem, -decide_eq_true_eq, -decide_eq_false_iff_not, hwm]
 repeat' first | apply And.intro | refine hk _ ?_ | intro hg | omega | exact True.intro
 all_goals clear hk k
 refine AW.cond rfl ?_ ?_
 ·intro hc; try simp at hc
  all_goals try (exfalso; omega; done)
  all_goals (
 refine rg [0,4] ?_
 intro k hk; simp -dsimp [go_sem, -decide_eq_true_eq, -decide_eq_false_iff_not, hwm]
 repeat' first | apply And.intro | refine hk _ ?_ | intro hg | omega | exact True.intro
 all_goals clear hk k
 refine rt ?_
 first | (have hpm : par = -1 := (by assumption); subst hpm; simp [go_sem, Try.results41, nxtL, nxtD, parF]; done) | (have hpm : ¬ par = -1 := (by first | assumption | simpa using hc); simp [go_sem, Try.results41, nxtL, nxtD, parF, hpm]))
 ·intro hc; try simp at hc
  all_goals try (exfalso; omega; done)
  all_goals (
 refine AW.skipN (fun _ h => h) ?_
 refine rg [0,1,7] ?_
 intro k hk; simp -dsimp [go_sem, -decide_eq_true_eq, -decide_eq_false_iff_not, hwm]
 repeat' first | apply And.intro | refine hk _ ?_ | intro hg | omega | exact True.intro
 all_goals clear hk k
 refine AW.seq ?_
 refine rg [0,1,7,46] ?_
 intro k hk; simp -dsimp [go_sem, -decide_eq_true_eq, -decide_eq_false_iff_not, hwm]
 repeat' first | apply And.intro | refine hk _ ?_ | intro hg | omega | exact True.intro
 all_goals clear hk k
 refine AW.cond rfl ?_ ?_
 ·intro hc; try simp at hc
  all_goals try (exfalso; omega; done)
  all_goals (
 refine rgN [0,1,7] (fun _ h => h) ?_
 intro k hk; simp -dsimp (maxSteps := 2000000) [go_sem, -decide_eq_true_eq, -decide_eq_false_iff_not, hwm]
 repeat' first | apply And.intro | refine hk _ ?_ | intro hg | omega | exact True.intro
 all_goals clear hk k
 refine rg [0] ?_
 intro k hk; simp -dsimp (maxSteps := 2000000) [go_sem, -decide_eq_true_eq, -decide_eq_false_iff_not, hwm]
 repeat' first | ((refine Chk.keys ?_); simp only [go_sem, List.map_cons, List.map_nil, List.flatMap_cons, List.flatMap_nil, List.flatMap_append, List.append_nil, List.nil_append, List.cons_append]; decide +kernel) | apply And.intro | refine hk _ ?_ | intro hg | omega | exact True.intro
 all_goals clear hk k
 refine AW.fold (nd := ?nd_1) (c := ?c_1) (l := ?l_1) (es := ?es_1) (n := ?n_1) 1900 0 0 63 ?h1_1 ?h2_1 ?h4_1 ?h3_1 ?hn_1 (by decide) ?h6_1 ?kk_1
 (case h1_1 => exact rfl)
 (case h2_1 => exact rfl)
 (case h4_1 => exact rfl)
 (case h3_1 => exact rfl)
 (case hn_1 => simp)
 (case h6_1 => simp [go_sem])
 refine AW.fold (nd := ?nd_2) (c := ?c_2) (l := ?l_2) (es := ?es_2) (n := ?n_2) 1900 0 1 70 ?h1_2 ?h2_2 ?h4_2 ?h3_2 ?hn_2 (by decide) ?h6_2 ?kk_2
 (case h1_2 => exact rfl)
 (case h2_2 => exact rfl)
 (case h4_2 => exact rfl)
 (case h3_2 => exact rfl)
 (case hn_2 => simp)
 (case h6_2 => simp [go_sem])
 refine rg [0,4] ?_
 intro k hk; simp -dsimp [go_sem, -decide_eq_true_eq, -decide_eq_false_iff_not, hwm]
 repeat' first | apply And.intro | refine hk _ ?_ | intro hg | omega | exact True.intro
 all_goals clear hk k
 refine rt ?_
 first | (have hpm : par = -1 := (by assumption); subst hpm; simp [go_sem, Try.results41, nxtL, nxtD, parF]; done) | (have hpm : ¬ par = -1 := (by first | assumption | simpa using hc); simp [go_sem, Try.results41, nxtL, nxtD, parF, hpm]))
 ·intro hc; try simp at hc
  all_goals try (exfalso; omega; done)
  all_goals (
 refine AW.skipN (fun _ h => h) ?_
 refine rg [0] ?_
 intro k hk; simp -dsimp (maxSteps := 2000000) [go_sem, -decide_eq_true_eq, -decide_eq_false_iff_not, hwm]
 repeat' first | ((refine Chk.keys ?_); simp only [go_sem, List.map_cons, List.map_nil, List.flatMap_cons, List.flatMap_nil, List.flatMap_append, List.append_nil, List.nil_append, List.cons_append]; decide +kernel) | apply And.intro | refine hk _ ?_ | intro hg | omega | exact True.intro
 all_goals clear hk k
 refine AW.fold (nd := ?nd_3) (c := ?c_3) (l := ?l_3) (es := ?es_3) (n := ?n_3) 1900 0 0 63 ?h1_3 ?h2_3 ?h4_3 ?h3_3 ?hn_3 (by decide) ?h6_3 ?kk_3
 (case h1_3 => exact rfl)
 (case h2_3 => exact rfl)
 (case h4_3 => exact rfl)
 (case h3_3 => exact rfl)
 (case hn_3 => simp)
 (case h6_3 => simp [go_sem])
 refine AW.fold (nd := ?nd_4) (c := ?c_4) (l := ?l_4) (es := ?es_4) (n := ?n_4) 1900 0 1 70 ?h1_4 ?h2_4 ?h4_4 ?h3_4 ?hn_4 (by decide) ?h6_4 ?kk_4
 (case h1_4 => exact rfl)
 (case h2_4 => exact rfl)
 (case h4_4 => exact rfl)
 (case h3_4 => exact rfl)
 (case hn_4 => simp)
 (case h6_4 => simp [go_sem])
 refine rg [0,4] ?_
 intro k hk; simp -dsimp [go_sem, -decide_eq_true_eq, -decide_eq_false_iff_not, hwm]
 repeat' first | apply And.intro | refine hk _ ?_ | intro hg | omega | exact True.intro
 all_goals clear hk k
 refine rt ?_
 first | (have hpm : par = -1 := (by assumption); subst hpm; simp [go_sem, Try.results41, nxtL, nxtD, parF]; done) | (have hpm : ¬ par = -1 := (by first | assumption | simpa using hc); simp [go_sem, Try.results41, nxtL, nxtD, parF, hpm])))))
theorem dc_impl_parents_next_s (l d : List Int) (par : Int) (hl : ParOk l) (hd : d = depsOf l) (hn : l ≠ []) (h24 : l.length ≤ 24) : DC Try.prog 41 [.op [.osl 1 (l.map I1), .osl 1 (d.map I1)], .int .i64 par] (.int .i64 (parF l par)) [(0, .op [nlc 1 ((nxtL l par).map I1), nlc 1 ((nxtD l d par).map I1)])] := by
 have hlp : 0 < l.length := List.length_pos_iff.2 hn
 have hdl : d.length = l.length := by rw [hd]; exact depsOf_len l
 have hnl := nlc_map (f := I1) hn 1
 have hnd := nlc_map (f := I1) (l := d) (by intro h; rw [h] at hdl; simp at hdl; omega) 1
 have hw1 : IntKind.wrap .i64 ((l.length : Int) - 1) = (l.length : Int) - 1 := wrap64 (by omega) (by omega)
 have htl : List.take l.length (d.map I1) = d.map I1 := List.take_of_length_le (by simp [hdl])
 refine DC.intro tiOk Try.func41 rfl rfl rfl rfl rfl rfl rfl (by simp [noW, noWo]) [] ?_
 refine rg [0,1] ?_
 intro k hk; simp -dsimp [go_sem, -decide_eq_true_eq, -decide_eq_false_iff_not, hw1, hdl, htl]
 repeat' first | apply And.intro | refine hk _ ?_ | intro hg | omega | exact True.intro
 all_goals clear hk k
 refine AW.thaw (nd := ?nd_1) (c := ?c_1) (l := ?l_1) (es := ?es_1) 1900 0 0 7001 ?h1_1 ?h2_1 ?h3_1 ?h45_1 ?kk_1
 (case h1_1 => exact rfl)
 (case h2_1 => exact rfl)
 (case h3_1 => exact rfl)
 (case h45_1 => simp [go_sem])
 refine AW.thaw (nd := ?nd_2) (c := ?c_2) (l := ?l_2) (es := ?es_2) 1900 0 1 7002 ?h1_2 ?h2_2 ?h3_2 ?h45_2 ?kk_2
 (case h1_2 => exact rfl)
 (case h2_2 => exact rfl)
 (case h3_2 => exact rfl)
 (case h45_2 => simp [go_sem])
 refine rg [0,1,5] ?_
 intro k hk; simp -dsimp [go_sem, -decide_eq_true_eq, -decide_eq_false_iff_not, hw1, hdl, htl]
 repeat' first | apply And.intro | refine hk _ ?_ | intro hg | omega | exact True.intro
 all_goals clear hk k
 refine AW.seq ?_
 refine AW.cut ⟨75, [(0, .ptr 1900 2 0 0), (1, .int .i64 par), (5, .int .i64 (l.length : Nat)), (29, .bool (decide (parF l par = 3)))], [(7001, some ⟨1, l.map I1⟩), (7002, some ⟨1, d.map I1⟩), (1900, some ⟨2, [[.sl 7001 1 0 l.length, .sl 7002 1 0 l.length]]⟩)]⟩ ?_ ?_
 ·skip
  refine rgK ?_
  intro k hk; simp +contextual -dsimp (maxSteps := 2000000) [go_sem, -decide_eq_true_eq, -decide_eq_false_iff_not, hw1, hdl, htl]
  repeat' first | apply And.intro | refine hk _ ?_ | (intro hg; try simp only [decide_eq_true_eq, decide_eq_false_iff_not] at hg) | (refine CallK.intro (dc_impl_inRange _ _ _) ?_; simp +contextual -dsimp (maxSteps := 2000000) [go_sem, -decide_eq_true_eq, -decide_eq_false_iff_not, hw1, hdl, htl]) | omega | exact True.intro
  all_goals clear hk k
  all_goals (show St.Less _ _; exact Less.of rfl (by simp [go_sem, parF, inR] at * <;> grind) (by simp [go_sem, hdl]))
 ·skip
  refine AW.cond rfl ?_ ?_
  ·intro hc; try simp at hc
   all_goals try (exfalso; omega; done)
   all_goals (
 refine AW.fold (nd := ?nd_3) (c := ?c_3) (l := ?l_3) (es := ?es_3) (n := ?n_3) 1900 0 0 7001 ?h1_3 ?h2_3 ?h4_3 ?h3_3 ?hn_3 (by decide) ?h6_3 ?kk_3
 (case h1_3 => exact rfl)
 (case h2_3 => exact rfl)
 (case h4_3 => exact rfl)
 (case h3_3 => exact rfl)
 (case hn_3 => simp [hdl])
 (case h6_3 => simp [go_sem, hdl])
 refine AW.fold (nd := ?nd_4) (c := ?c_4) (l := ?l_4) (es := ?es_4) (n := ?n_4) 1900 0 1 7002 ?h1_4 ?h2_4 ?h4_4 ?h3_4 ?hn_4 (by decide) ?h6_4 ?kk_4
 (case h1_4 => exact rfl)
 (case h2_4 => exact rfl)
 (case h4_4 => exact rfl)
 (case h3_4 => exact rfl)
 (case hn_4 => simp [hdl])
 (case h6_4 => simp [go_sem, hdl])
 have hp3 : parF l par = 3 := by simpa using hc
 refine rg [0,4] ?_
 intro k hk; simp -dsimp [go_sem, -decide_eq_true_eq, -decide_eq_false_iff_not, hw1, hdl, htl]
 repeat' first | apply And.intro | refine hk _ ?_ | intro hg | omega | exact True.intro
 all_goals clear hk k
 refine rt ?_
 first | (simp [go_sem, Try.results41, nxtL, nxtD, hp3, hnl, hnd]; done) | (simp [go_sem, Try.results41, nxtL, nxtD, hp1, hnl, hnd]; done) | (simp [go_sem, Try.results41, hb, hnl2, hnd2, hp0, hnl, hnd, htl]; done))
  ·intro hc; try simp at hc
   all_goals try (exfalso; omega; done)
   all_goals (
 refine AW.skipN (fun _ h => h) ?_
 have hp3 : ¬ parF l par = 3 := by simpa using hc
 have hpr := parF_not3 hlp hp3
 refine rg [0,1,6] ?_
 intro k hk; simp -dsimp [go_sem, -decide_eq_true_eq, -decide_eq_false_iff_not, hw1, hdl, htl]
 repeat' first | apply And.intro | refine hk _ ?_ | intro hg | omega | exact True.intro
 all_goals clear hk k
 refine AW.seq ?_
 refine AW.block ?_
 refine AW.loopI (fun a : Int => ⟨75, [(0, .ptr 1900 2 0 0), (1, .int .i64 par), (6, .int .i64 a)], [(7001, some ⟨1, l.map I1⟩), (7002, some ⟨1, d.map I1⟩), (1900, some ⟨2, [[.sl 7001 1 0 l.length, .sl 7002 1 0 l.length]]⟩)]⟩) (fun a => -1 ≤ a ∧ a < l.length ∧ upB l a par = upB l ((l.length : Int) - 1) par) (fun a => (a + 1).toNat) ((l.length : Int) - 1) (by refine ⟨by omega, by omega, rfl⟩) (Less.of rfl (by simp [go_sem, hdl]) (by simp [go_sem, hdl])) ?_
 rintro a ⟨ha0, ha1, hinv⟩
 refine AW.seq ?_
 refine rg [0,1,6,34] ?_
 intro k hk; simp -dsimp [go_sem, -decide_eq_true_eq, -decide_eq_false_iff_not, hw1, hdl, htl]
 repeat' first | apply And.intro | refine hk _ ?_ | intro hg | omega | exact True.intro
 all_goals clear hk k
 refine AW.cond rfl ?_ ?_
 ·intro hc; try simp at hc
  all_goals try (exfalso; omega; done)
  all_goals (
 have hlt : par < a := by assumption
 obtain ⟨k, hk⟩ : ∃ k : Nat, a = k := ⟨_, (Int.toNat_of_nonneg (show 0 ≤ a by omega)).symm⟩
 subst hk
 obtain ⟨x, hx⟩ := at_some (l := l) (show k < l.length by omega)
 have hxg : l.getD k 0 = x := by rw [List.getD, hx]; rfl
 have hxl := hl k (by omega)
 rw [hxg] at hxl
 refine AW.skipN (fun _ h => h) ?_
 refine AW.block ?_
 refine rgK ?_
 intro k hk; simp -dsimp (maxSteps := 2000000) [go_sem, -decide_eq_true_eq, -decide_eq_false_iff_not, hw1, hdl, htl, hx]
 repeat' first | apply And.intro | refine hk _ ?_ | intro hg | omega | exact True.intro
 all_goals clear hk k
 show ∃ _, _
 refine ⟨x, ⟨by omega, by omega, ?_⟩, by omega, Less.of rfl (by simp [go_sem]) (by simp [go_sem])⟩
 rw [← hinv, upB_eq hl (show (0 : Int) ≤ (k : Int) by omega) (by omega), if_neg (by omega), Int.toNat_natCast, hxg])
 ·intro hc; try simp at hc
  all_goals try (exfalso; omega; done)
  all_goals (
 refine AW.exitN (fun _ h => h) ?_
 refine AW.seq ?_
 refine rg [0,1,44] ?_
 intro k hk; simp -dsimp [go_sem, -decide_eq_true_eq, -decide_eq_false_iff_not, hw1, hdl, htl]
 repeat' first | apply And.intro | refine hk _ ?_ | intro hg | omega | exact True.intro
 all_goals clear hk k
 refine AW.cond rfl ?_ ?_
 ·intro hc; try simp at hc
  all_goals try (exfalso; omega; done)
  all_goals (
 refine AW.fold (nd := ?nd_5) (c := ?c_5) (l := ?l_5) (es := ?es_5) (n := ?n_5) 1900 0 0 7001 ?h1_5 ?h2_5 ?h4_5 ?h3_5 ?hn_5 (by decide) ?h6_5 ?kk_5
 (case h1_5 => exact rfl)
 (case h2_5 => exact rfl)
 (case h4_5 => exact rfl)
 (case h3_5 => exact rfl)
 (case hn_5 => simp [hdl])
 (case h6_5 => simp [go_sem, hdl])
 refine AW.fold (nd := ?nd_6) (c := ?c_6) (l := ?l_6) (es := ?es_6) (n := ?n_6) 1900 0 1 7002 ?h1_6 ?h2_6 ?h4_6 ?h3_6 ?hn_6 (by decide) ?h6_6 ?kk_6
 (case h1_6 => exact rfl)
 (case h2_6 => exact rfl)
 (case h4_6 => exact rfl)
 (case h3_6 => exact rfl)
 (case hn_6 => simp [hdl])
 (case h6_6 => simp [go_sem, hdl])
 have hup : upB l ((l.length : Int) - 1) par = false := by rw [← hinv]; exact upB_lt hl l.length a (by omega) (by omega) (by omega)
 have hp1 : parF l par = 1 := by unfold parF; rw [if_neg (by omega), if_pos ⟨hlp, hup⟩]
 refine rg [0,4] ?_
 intro k hk; simp -dsimp [go_sem, -decide_eq_true_eq, -decide_eq_false_iff_not, hw1, hdl, htl]
 repeat' first | apply And.intro | refine hk _ ?_ | intro hg | omega | exact True.intro
 all_goals clear hk k
 refine rt ?_
 first | (simp [go_sem, Try.results41, nxtL, nxtD, hp3, hnl, hnd]; done) | (simp [go_sem, Try.results41, nxtL, nxtD, hp1, hnl, hnd]; done) | (simp [go_sem, Try.results41, hb, hnl2, hnd2, hp0, hnl, hnd, htl]; done))
 ·intro hc; try simp at hc
  all_goals try (exfalso; omega; done)
  all_goals (
 refine AW.skipN (fun _ h => h) ?_
 have hpa : a = par := by first | assumption | omega
 have hup : upB l ((l.length : Int) - 1) par = true := by rw [← hinv, upB_eq hl (by omega) (by omega), if_pos hpa]
 have hp0 : parF l par = 0 := by unfold parF; rw [if_neg (by omega), if_neg (by rw [hup]; simp)]
 refine rg [0,1,7] ?_
 intro k hk; simp -dsimp [go_sem, -decide_eq_true_eq, -decide_eq_false_iff_not, hw1, hdl, htl]
 repeat' first | apply And.intro | refine hk _ ?_ | intro hg | omega | exact True.intro
 all_goals clear hk k
 refine AW.seq ?_
 refine rg [0,1,7,46] ?_
 intro k hk; simp -dsimp [go_sem, -decide_eq_true_eq, -decide_eq_false_iff_not, hw1, hdl, htl]
 repeat' first | apply And.intro | refine hk _ ?_ | intro hg | omega | exact True.intro
 all_goals clear hk k
 refine AW.cond rfl ?_ ?_
 ·intro hc; try simp at hc
  all_goals try (exfalso; omega; done)
  all_goals (
 obtain ⟨b, hb⟩ : ∃ b : Nat, par = b := ⟨_, (Int.toNat_of_nonneg hpr.1).symm⟩
 have hdb : d[b]? = some (dep l b) := by rw [hd]; exact depsOf_at (by omega)
 have hds := dep_small hl (a := (b : Int)) (by omega)
 have hw2 : IntKind.wrap .i64 (dep l b + 1) = dep l b + 1 := wrap64 (by omega) (by omega)
 have hdg : d.getD b 0 = dep l b := by rw [List.getD, hdb]; rfl
 have hnl2 : nxtL l par = l ++ [par] := nxtL_app hp0
 have hnd2 : nxtD l d par = d ++ [dep l b + 1] := by rw [nxtD, if_pos hp0, if_pos hpr.1, hb, Int.toNat_natCast, hdg]
 rw [hb] at hnl2 hnd2 hp0
 refine rgN [0,1,7] (fun _ h => h) ?_
 intro k hk; simp -dsimp (maxSteps := 2000000) [go_sem, -decide_eq_true_eq, -decide_eq_false_iff_not, hw1, hdl, htl, hb, hdb, hw2]
 repeat' first | apply And.intro | refine hk _ ?_ | intro hg | omega | exact True.intro
 all_goals clear hk k
 refine rg [0] ?_
 intro k hk; simp -dsimp (maxSteps := 2000000) [go_sem, -decide_eq_true_eq, -decide_eq_false_iff_not, hw1, hdl, htl]
 repeat' first | ((refine Chk.keys ?_); simp only [go_sem, List.map_cons, List.map_nil, List.flatMap_cons, List.flatMap_nil, List.flatMap_append, List.append_nil, List.nil_append, List.cons_append]; decide +kernel) | apply And.intro | refine hk _ ?_ | intro hg | omega | exact True.intro
 all_goals clear hk k
 refine AW.fold (nd := ?nd_7) (c := ?c_7) (l := ?l_7) (es := ?es_7) (n := ?n_7) 1900 0 0 63 ?h1_7 ?h2_7 ?h4_7 ?h3_7 ?hn_7 (by decide) ?h6_7 ?kk_7
 (case h1_7 => exact rfl)
 (case h2_7 => exact rfl)
 (case h4_7 => exact rfl)
 (case h3_7 => exact rfl)
 (case hn_7 => simp [hdl])
 (case h6_7 => simp [go_sem, hdl])
 refine AW.fold (nd := ?nd_8) (c := ?c_8) (l := ?l_8) (es := ?es_8) (n := ?n_8) 1900 0 1 70 ?h1_8 ?h2_8 ?h4_8 ?h3_8 ?hn_8 (by decide) ?h6_8 ?kk_8
 (case h1_8 => exact rfl)
 (case h2_8 => exact rfl)
 (case h4_8 => exact rfl)
 (case h3_8 => exact rfl)
 (case hn_8 => simp [hdl])
 (case h6_8 => simp [go_sem, hdl])
 refine rg [0,4] ?_
 intro k hk; simp -dsimp [go_sem, -decide_eq_true_eq, -decide_eq_false_iff_not, hw1, hdl, htl]
 repeat' first | apply And.intro | refine hk _ ?_ | intro hg | omega | exact True.intro
 all_goals clear hk k
 refine rt ?_
 first | (simp [go_sem, Try.results41, nxtL, nxtD, hp3, hnl, hnd]; done) | (simp [go_sem, Try.results41, nxtL, nxtD, hp1, hnl, hnd]; done) | (simp [go_sem, Try.results41, hb, hnl2, hnd2, hp0, hnl, hnd, htl]; done))
 ·intro hc; try simp at hc
  all_goals try (exfalso; omega; done)
  all_goals (
 refine AW.skipN (fun _ h => h) ?_
 refine rg [0] ?_
 intro k hk; simp -dsimp (maxSteps := 2000000) [go_sem, -decide_eq_true_eq, -decide_eq_false_iff_not, hw1, hdl, htl]
 repeat' first | ((refine Chk.keys ?_); simp only [go_sem, List.map_cons, List.map_nil, List.flatMap_cons, List.flatMap_nil, List.flatMap_append, List.append_nil, List.nil_append, List.cons_append]; decide +kernel) | apply And.intro | refine hk _ ?_ | intro hg | omega | exact True.intro
 all_goals clear hk k
 refine AW.fold (nd := ?nd_9) (c := ?c_9) (l := ?l_9) (es := ?es_9) (n := ?n_9) 1900 0 0 63 ?h1_9 ?h2_9 ?h4_9 ?h3_9 ?hn_9 (by decide) ?h6_9 ?kk_9
 (case h1_9 => exact rfl)
 (case h2_9 => exact rfl)
 (case h4_9 => exact rfl)
 (case h3_9 => exact rfl)
 (case hn_9 => simp [hdl])
 (case h6_9 => simp [go_sem, hdl])
 refine AW.fold (nd := ?nd_10) (c := ?c_10) (l := ?l_10) (es := ?es_10) (n := ?n_10) 1900 0 1 70 ?h1_10 ?h2_10 ?h4_10 ?h3_10 ?hn_10 (by decide) ?h6_10 ?kk_10
 (case h1_10 => exact rfl)
 (case h2_10 => exact rfl)
 (case h4_10 => exact rfl)
 (case h3_10 => exact rfl)
 (case hn_10 => simp [hdl])
 (case h6_10 => simp [go_sem, hdl])
 refine rg [0,4] ?_
 intro k hk; simp -dsimp [go_sem, -decide_eq_true_eq, -decide_eq_false_iff_not, hw1, hdl, htl]
 repeat' first | apply And.intro | refine hk _ ?_ | intro hg | omega | exact True.intro
 all_goals clear hk k
 refine rt ?_
 first | (simp [go_sem, Try.results41, nxtL, nxtD, hp3, hnl, hnd]; done) | (simp [go_sem, Try.results41, nxtL, nxtD, hp1, hnl, hnd]; done) | (simp [go_sem, Try.results41, hb, hnl2, hnd2, hp0, hnl, hnd, htl]; done)))))
theorem dc_parents_next (l d : List Int) (par : Int) (hl : ParOk l) (hd : d = depsOf l) (h24 : l.length ≤ 24) : DC Try.prog 41 [.op [nlc 1 (l.map I1), nlc 1 (d.map I1)], .int .i64 par] (.int .i64 (parF l par)) [(0, .op [nlc 1 ((nxtL l par).map I1), nlc 1 ((nxtD l d par).map I1)])] := by
  by_cases hn : l = []
  · subst hn; subst hd; exact dc_impl_parents_next_z par
  · have hdl : d.length = l.length := by rw [hd]; exact depsOf_len l
    rw [nlc_map hn, nlc_map (l := d) (by intro h; rw [h] at hdl; exact hn (List.eq_nil_of_length_eq_zero hdl.symm))]
    exact dc_impl_parents_next_s l d par hl hd hn h24
theorem dc_impl_parents_last (L D : List (List AV)) (v : Int) (hD : D.length ≤ 1000) : DC Try.prog 42 [.ip [.isl 1 L, .isl 1 (D ++ [[.int .i64 v]])]] (.int .i64 v) [] := by
 have hw1 : IntKind.wrap .i64 (D.length : Int) = (D.length : Int) := wrap64 (by omega) (by omega)
 have hat : (D ++ [[AV.int .i64 v]])[D.length]? = some [AV.int .i64 v] := List.getElem?_concat_length
 refine DC.intro tiOk Try.func42 rfl rfl rfl rfl rfl rfl rfl rfl [] ?_
 refine rg [0] ?_
 intro k hk; simp -dsimp [go_sem, -decide_eq_true_eq, -decide_eq_false_iff_not, hw1, hat]
 repeat' first | apply And.intro | refine hk _ ?_ | intro hg | omega | exact True.intro
 all_goals clear hk k
 refine rg [2] ?_
 intro k hk; simp -dsimp (maxSteps := 2000000) [go_sem, -decide_eq_true_eq, -decide_eq_false_iff_not, hw1, hat]
 repeat' first | ((refine Chk.keys ?_); simp only [go_sem, List.map_cons, List.map_nil, List.flatMap_cons, List.flatMap_nil, List.flatMap_append, List.append_nil, List.nil_append, List.cons_append]; decide +kernel) | apply And.intro | refine hk _ ?_ | intro hg | omega | exact True.intro
 all_goals clear hk k
 refine rt ?_
 simp [go_sem, Try.results42]
end Go.AM
namespace Go.AM
open Go.Proofs
theorem dc_impl_kids (p : List TStep) (a : Int) (hp : p.length ≤ 24) : DC Try.prog 46 [.isl 6 (p.map TStep.ro), .int .i64 a] (.osl 1 ((kids p a).map I1)) [] := by
 refine DC.intro tiOk Try.func46 rfl rfl rfl rfl rfl rfl rfl rfl [1000] ?_
 refine rgA [0,1] ?_
 refine rgA [0,1,5] ?_
 refine AW.seq ?_
 refine rgA [1,5,9,10,11] ?_
 refine AW.block ?_
 refine AW.rename (nd := ?nd_1) 8 27 ?h1_1 ?h2_1 ?h4_1 ?kk_1
 (case h1_1 => exact rfl)
 (case h2_1 => simp [go_sem])
 (case h4_1 => simp [go_sem])
 refine AW.loopI (fun i : Nat => ⟨30, [(1, .int .i64 a), (5, .sl 27 1 0 (kidU p a i).length), (9, .isl 6 (p.map TStep.ro)), (10, .int .i64 p.length), (11, .int .i64 i)], [(27, some ⟨1, (kidU p a i).map I1⟩)]⟩) (fun i => i ≤ p.length) (fun i => p.length - i) (0) (by simp) (Less.of rfl (by simp [go_sem, kidU]) (by simp [go_sem, kidU])) ?_
 rintro i hi
 refine AW.rename (nd := ?nd_2) 27 8 ?h1_2 ?h2_2 ?h4_2 ?kk_2
 (case h1_2 => exact rfl)
 (case h2_2 => simp [go_sem])
 (case h4_2 => simp [go_sem])
 refine rgA [1,5,9,10,11,12] ?_
 refine AW.seq ?_
 refine AW.cond rfl ?_ ?_
 ·intro hc; try simp at hc
  all_goals (
 have hlt : i < p.length := by assumption
 obtain ⟨x, hx⟩ := at_some hlt
 have hkl := kidU_len p a i
 refine AW.skipN (fun _ h => h) ?_
 refine AW.seq ?_
 refine AW.block ?_
 refine rg [1,5,6,7,9,10,11] ?_
 intro k hk; simp -dsimp [go_sem, -decide_eq_true_eq, -decide_eq_false_iff_not, hx]
 repeat' first | apply And.intro | refine hk _ ?_ | intro hg | omega | exact True.intro
 all_goals clear hk k
 refine AW.cut ⟨30, [(1, .int .i64 a), (5, .sl 8 1 0 (kidU p a i).length), (6, .int .i64 i), (9, .isl 6 (p.map TStep.ro)), (10, .int .i64 p.length), (11, .int .i64 i), (23, .bool (decide (0 < i ∧ x.par = a)))], [(8, some ⟨1, (kidU p a i).map I1⟩)]⟩ ?_ ?_
 ·skip
  refine rgK ?_
  intro k hk; simp +contextual -dsimp (maxSteps := 2000000) [go_sem, -decide_eq_true_eq, -decide_eq_false_iff_not, hx]
  repeat' first | apply And.intro | refine hk _ ?_ | (intro hg; try simp only [decide_eq_true_eq, decide_eq_false_iff_not] at hg) | omega | exact True.intro
  all_goals clear hk k
  all_goals (show St.Less _ _; exact Less.of rfl (by simp [go_sem] <;> first | omega | grind) (by simp [go_sem]))
 ·skip
  refine AW.cond rfl ?_ ?_
  ·intro hc; try simp at hc
   all_goals (
 have hks := kidU_yes hx (by simpa using hc)
 refine rgN [1,5,9,10,11] (fun _ h => h) ?_
 intro k hk; simp -dsimp [go_sem, -decide_eq_true_eq, -decide_eq_false_iff_not, hx]
 repeat' first | apply And.intro | refine hk _ ?_ | intro hg | omega | exact True.intro
 all_goals clear hk k
 try (have hks := kidU_not hx (by simpa using hc))
 try (refine AW.rename (nd := ?nd_3) 8 27 ?h1_3 ?h2_3 ?h4_3 ?kk_3; (case h1_3 => exact rfl); (case h2_3 => simp [go_sem]); (case h4_3 => simp [go_sem]))
 refine rgK ?_
 intro k hk; simp -dsimp [go_sem, -decide_eq_true_eq, -decide_eq_false_iff_not, hx]
 repeat' first | apply And.intro | refine hk _ ?_ | intro hg | omega | exact True.intro
 all_goals clear hk k
 show ∃ _, _
 have hw := wrapi hlt (by omega)
 refine ⟨i + 1, by omega, by omega, Less.of rfl (by simp [go_sem, hw, hks] <;> omega) (by simp [go_sem, hks])⟩)
  ·intro hc; try simp at hc
   all_goals (
 refine AW.skipN (fun _ h => h) ?_
 try (have hks := kidU_not hx (by simpa using hc))
 try (refine AW.rename (nd := ?nd_4) 8 27 ?h1_4 ?h2_4 ?h4_4 ?kk_4; (case h1_4 => exact rfl); (case h2_4 => simp [go_sem]); (case h4_4 => simp [go_sem]))
 refine rgK ?_
 intro k hk; simp -dsimp [go_sem, -decide_eq_true_eq, -decide_eq_false_iff_not, hx]
 repeat' first | apply And.intro | refine hk _ ?_ | intro hg | omega | exact True.intro
 all_goals clear hk k
 show ∃ _, _
 have hw := wrapi hlt (by omega)
 refine ⟨i + 1, by omega, by omega, Less.of rfl (by simp [go_sem, hw, hks] <;> omega) (by simp [go_sem, hks])⟩))
 ·intro hc; try simp at hc
  all_goals (
 refine AW.exitN (fun _ h => h) ?_
 refine rgA [4] ?_
 refine rt ?_
 rw [kids_end (by omega)]; simp [go_sem, Try.results46])
theorem dc_spec_l4Kids (p : List TStep) (a : Int) (hp : p.length ≤ 24) (h0 : (nS p 0).par ≠ a) : DC Try.prog 77 [.isl 6 (p.map TStep.ro), .int .i64 a] (.osl 1 ((kids p a).map I1)) [] := by
 refine DC.intro tiOk Try.func77 rfl rfl rfl rfl rfl rfl rfl rfl [1000] ?_
 refine rgA [0,1] ?_
 refine rgA [0,1,5] ?_
 refine AW.seq ?_
 refine rgA [0,1,5,6] ?_
 refine AW.block ?_
 refine AW.rename (nd := ?nd_1) 7 24 ?h1_1 ?h2_1 ?h4_1 ?kk_1
 (case h1_1 => exact rfl)
 (case h2_1 => simp [go_sem])
 (case h4_1 => simp [go_sem])
 refine AW.loopI (fun i : Nat => ⟨26, [(0, .isl 6 (p.map TStep.ro)), (1, .int .i64 a), (5, .sl 24 1 0 (kidU p a i).length), (6, .int .i64 i)], [(24, some ⟨1, (kidU p a i).map I1⟩)]⟩) (fun i => i ≤ p.length) (fun i => p.length - i) (0) (by simp) (Less.of rfl (by simp [go_sem, kidU]) (by simp [go_sem, kidU])) ?_
 rintro i hi
 refine AW.rename (nd := ?nd_2) 24 7 ?h1_2 ?h2_2 ?h4_2 ?kk_2
 (case h1_2 => exact rfl)
 (case h2_2 => simp [go_sem])
 (case h4_2 => simp [go_sem])
 refine AW.seq ?_
 refine rgA [0,1,5,6,11] ?_
 refine AW.cond rfl ?_ ?_
 ·intro hc; try simp at hc
  all_goals (
 have hlt : i < p.length := by assumption
 obtain ⟨x, hx⟩ := at_some hlt
 have hi0 : x.par = a → 0 < i := fun h => by rcases Nat.eq_zero_or_pos i with h1 | h1; (exfalso; subst h1; rw [nS_at hx] at h0; exact h0 h); exact h1
 have hkl := kidU_len p a i
 refine AW.skipN (fun _ h => h) ?_
 refine AW.seq ?_
 refine AW.block ?_
 refine rg [0,1,5,6,20] ?_
 intro k hk; simp -dsimp (maxSteps := 2000000) [go_sem, -decide_eq_true_eq, -decide_eq_false_iff_not, hx]
 repeat' first | apply And.intro | refine hk _ ?_ | intro hg | omega | exact True.intro
 all_goals clear hk k
 refine AW.cond rfl ?_ ?_
 ·intro hc; try simp at hc
  all_goals (
 have hxa : x.par = a := by simpa using hc
 have hks := kidU_yes hx ⟨hi0 hxa, hxa⟩
 refine rgN [0,1,5,6] (fun _ h => h) ?_
 intro k hk; simp -dsimp [go_sem, -decide_eq_true_eq, -decide_eq_false_iff_not, hx]
 repeat' first | apply And.intro | refine hk _ ?_ | intro hg | omega | exact True.intro
 all_goals clear hk k
 try (have hks := kidU_not hx (fun h => absurd h.2 (by simpa using hc)))
 try (refine AW.rename (nd := ?nd_3) 7 24 ?h1_3 ?h2_3 ?h4_3 ?kk_3; (case h1_3 => exact rfl); (case h2_3 => simp [go_sem]); (case h4_3 => simp [go_sem]))
 refine rgK ?_
 intro k hk; simp -dsimp [go_sem, -decide_eq_true_eq, -decide_eq_false_iff_not, hx]
 repeat' first | apply And.intro | refine hk _ ?_ | intro hg | omega | exact True.intro
 all_goals clear hk k
 show ∃ _, _
 have hw := wrapi hlt (by omega)
 refine ⟨i + 1, by omega, by omega, Less.of rfl (by simp [go_sem, hw, hks] <;> omega) (by simp [go_sem, hks])⟩)
 ·intro hc; try simp at hc
  all_goals (
 refine AW.skipN (fun _ h => h) ?_
 try (have hks := kidU_not hx (fun h => absurd h.2 (by simpa using hc)))
 try (refine AW.rename (nd := ?nd_4) 7 24 ?h1_4 ?h2_4 ?h4_4 ?kk_4; (case h1_4 => exact rfl); (case h2_4 => simp [go_sem]); (case h4_4 => simp [go_sem]))
 refine rgK ?_
 intro k hk; simp -dsimp [go_sem, -decide_eq_true_eq, -decide_eq_false_iff_not, hx]
 repeat' first | apply And.intro | refine hk _ ?_ | intro hg | omega | exact True.intro
 all_goals clear hk k
 show ∃ _, _
 have hw := wrapi hlt (by omega)
 refine ⟨i + 1, by omega, by omega, Less.of rfl (by simp [go_sem, hw, hks] <;> omega) (by simp [go_sem, hks])⟩))
 ·intro hc; try simp at hc
  all_goals (
 refine AW.exitN (fun _ h => h) ?_
 refine rgA [4] ?_
 refine rt ?_
 rw [kids_end (by omega)]; simp [go_sem, Try.results77])
end Go.AM
namespace Go.AM
open Go.Proofs
set_option maxHeartbeats 8000000 in
theorem dc_impl_graphMaker_sequence (p : List TStep) (hP : ProcOk p) (f : Nat) (hS : ∀ (k : Int) (ns : List TGNode) (fs : List TFlow), 0 ≤ k → k.toNat < p.length → p.length ≤ k.toNat + f → ns.length + 3 * cK p f k ≤ 400 → fs.length + 5 * cK p f k ≤ 400 → DC Try.prog 31 [.op (mrow p ns fs), .int .i64 k] (.tup [.int .i64 (gstep p f k.toNat ns.length).en, .int .i64 (gstep p f k.toNat ns.length).lv]) [(0, .op (mrow p (ns ++ (gstep p f k.toNat ns.length).ns) (fs ++ (gstep p f k.toNat ns.length).fs)))]) (ns : List TGNode) (fs : List TFlow) (a : Nat) (ha : a < p.length) (hf : p.length ≤ a + f + 1) (hk1 : 1 ≤ (kids p (a : Int)).length) (hb1 : ns.length + 3 * cKs p f (kids p (a : Int)) ≤ 397) (hb2 : fs.length + 5 * cKs p f (kids p (a : Int)) ≤ 395) : DC Try.prog 50 [.op (mrow p ns fs), .osl 1 ((kids p (a : Int)).map I1)] (.tup [.int .i64 (seqN (gstep p f) ns.length (kids p (a : Int)) ((kids p (a : Int)).length - 1)).en, .int .i64 (seqN (gstep p f) ns.length (kids p (a : Int)) ((kids p (a : Int)).length - 1)).lv]) [(0, .op (mrow p (ns ++ (seqN (gstep p f) ns.length (kids p (a : Int)) ((kids p (a : Int)).length - 1)).ns) (fs ++ (seqN (gstep p f) ns.length (kids p (a : Int)) ((kids p (a : Int)).length - 1)).fs)))] := by
 have hkl := kids_len p (a : Int)
 have hp := hP.len.2
 have hfw : ∀ k2 ∈ (kids p (a : Int)), Few p f (gstep p f) k2 := fun k2 h9 => by obtain ⟨m, rfl, h1, h2, _, _⟩ := hP.kid h9; exact gstep_few hP f m h2
 have hne : (kids p (a : Int)) ≠ [] := List.ne_nil_of_length_pos (by omega)
 obtain ⟨u0, hu0⟩ := at_some (l := (kids p (a : Int))) (i := 0) (by omega)
 have hu03 := gel hu0
 obtain ⟨um0, hum0, hw1, hw2, hw4, hw5⟩ := hP.kid (List.mem_of_getElem? hu0)
 have hd0 : headI (kids p (a : Int)) = u0 := by unfold headI; rw [List.getD_eq_getElem?_getD, hu0]; rfl
 have hc00 : cKs p f (List.take 1 (kids p (a : Int))) = cKs p f (List.take 0 (kids p (a : Int))) + cK p f u0 := cKs_snoc hu0
 have hcl0 := cKs_le p f (kids p (a : Int)) 1
 have hce0 : cKs p f (List.take 0 (kids p (a : Int))) = 0 := rfl
 have hcall0 := hS u0 ns fs (by omega) (by omega) (by omega) (by omega) (by omega)
 obtain ⟨R0, hR0⟩ : ∃ R, seqN (gstep p f) ns.length (kids p (a : Int)) 0 = R := ⟨_, rfl⟩
 have hR1 := hR0
 rw [seq_zero, hd0] at hR1
 rw [hR1] at hcall0
 obtain ⟨N0, hN0⟩ : ∃ N, N = ns ++ R0.ns := ⟨_, rfl⟩
 obtain ⟨F0, hF0⟩ : ∃ N, N = fs ++ R0.fs := ⟨_, rfl⟩
 rw [← hN0, ← hF0] at hcall0
 refine DC.intro tiOk Try.func50 rfl rfl rfl rfl rfl rfl rfl (by simp [noW, noWo]) [] ?_
 refine rgA [0,1] ?_
 refine AW.reg tiOk (fun _ => [0]) [0,1,6,7] ?_
 intro k hk; simp -dsimp (maxSteps := 2000000) [go_sem, -decide_eq_true_eq, -decide_eq_false_iff_not, hu0, hu03]
 repeat' first | apply And.intro | refine hk _ ?_ | intro hg | (refine CallK.intro (hcall0) ?_; simp -dsimp (maxSteps := 2000000) [go_sem, -decide_eq_true_eq, -decide_eq_false_iff_not, hu0, hu03]) | omega | exact True.intro
 all_goals clear hk k
 refine AW.seq ?_
 have hlt0 : (1 : Int) ≤ ((kids p (a : Int)).length : Nat) := by omega
 refine rg [0,6,7,21,22,23] ?_
 intro k hk; simp -dsimp [go_sem, -decide_eq_true_eq, -decide_eq_false_iff_not, hk1, hlt0]
 repeat' first | apply And.intro | refine hk _ ?_ | intro hg | omega | exact True.intro
 all_goals clear hk k
 refine AW.block ?_
 refine AW.loopI (fun q : Nat × List TGNode × List TFlow => ⟨41, [(0, .ptr 1900 3 0 0), (6, .int .i64 (seqN (gstep p f) ns.length (kids p (a : Int)) q.1).en), (7, .int .i64 (seqN (gstep p f) ns.length (kids p (a : Int)) q.1).lv), (21, .sl 1901 1 1 ((kids p (a : Int)).length - 1)), (22, .int .i64 (((kids p (a : Int)).length - 1 : Nat) : Int)), (23, .int .i64 (q.1 : Nat))], [(1901, some ⟨1, (kids p (a : Int)).map I1⟩), (1900, some ⟨3, [mrow p q.2.1 q.2.2]⟩)]⟩) (fun q => q.1 ≤ (kids p (a : Int)).length - 1 ∧ q.2.1 = ns ++ (seqN (gstep p f) ns.length (kids p (a : Int)) q.1).ns ∧ q.2.2 = fs ++ (seqN (gstep p f) ns.length (kids p (a : Int)) q.1).fs) (fun q => (kids p (a : Int)).length - 1 - q.1) ((0, N0, F0)) (⟨Nat.zero_le _, by simp only; rw [hR0]; exact hN0, by simp only; rw [hR0]; exact hF0⟩) (Less.of rfl (by simp [go_sem, hR0]) (by simp [go_sem, hR0])) ?_
 rintro ⟨i, N1, F1⟩ ⟨hi, hN1, hF1⟩
 simp only at hi hN1 hF1
 refine rgA [0,6,7,21,22,23,24] ?_
 refine AW.seq ?_
 refine AW.cond rfl ?_ ?_
 ·intro hc; try simp at hc
  all_goals (
 have hlt : i < (kids p (a : Int)).length - 1 := by first | assumption | omega
 obtain ⟨u, hu⟩ := at_some (l := (kids p (a : Int))) (i := i + 1) (by omega)
 have hu3 := gel hu
 obtain ⟨um, hum, hu1, hu2, hu4, hu5⟩ := hP.kid (List.mem_of_getElem? hu)
 have hf1 := seq_few (n := ns.length) hne hfw i (by omega)
 have hc1 := cKs_snoc (p := p) (f := f) hu
 have hc2 := cKs_le p f (kids p (a : Int)) (i + 1 + 1)
 have hpz := cK_pos p f u
 have hNl : N1.length = ns.length + (seqN (gstep p f) ns.length (kids p (a : Int)) i).ns.length := by rw [hN1, List.length_append]
 have hFl : F1.length = fs.length + (seqN (gstep p f) ns.length (kids p (a : Int)) i).fs.length := by rw [hF1, List.length_append]
 have hcall := hS u N1 F1 (by omega) (by omega) (by omega) (by omega) (by omega)
 have hsq := seq_succ (g := gstep p f) (n := ns.length) hu
 rw [hNl] at hcall
 obtain ⟨R, hR⟩ : ∃ R, gstep p f u.toNat (ns.length + (seqN (gstep p f) ns.length (kids p (a : Int)) i).ns.length) = R := ⟨_, rfl⟩
 have hfR := hfw u (List.mem_of_getElem? hu) (ns.length + (seqN (gstep p f) ns.length (kids p (a : Int)) i).ns.length)
 unfold seqF at hsq
 rw [hR] at hcall hsq hfR
 obtain ⟨N2, hN2⟩ : ∃ N, N = N1 ++ R.ns := ⟨_, rfl⟩
 obtain ⟨F2, hF2⟩ : ∃ N, N = F1 ++ R.fs := ⟨_, rfl⟩
 rw [← hN2, ← hF2] at hcall
 refine AW.skipN (fun _ h => h) ?_
 refine AW.seq ?_
 refine AW.block ?_
 refine rg [0,6,7,9,21,22,23] ?_
 intro k hk; simp -dsimp [go_sem, -decide_eq_true_eq, -decide_eq_false_iff_not, hu, hu3, hu0, hu03, Nat.add_comm 1 i]
 repeat' first | apply And.intro | refine hk _ ?_ | intro hg | omega | exact True.intro
 all_goals clear hk k
 refine AW.reg tiOk (fun _ => [0]) [0,6,7,10,11,21,22,23] ?_
 intro k hk; simp -dsimp (maxSteps := 2000000) [go_sem, -decide_eq_true_eq, -decide_eq_false_iff_not, hu, hu3, hu0, hu03, Nat.add_comm 1 i]
 repeat' first | apply And.intro | refine hk _ ?_ | intro hg | (refine CallK.intro (hcall) ?_; simp -dsimp (maxSteps := 2000000) [go_sem, -decide_eq_true_eq, -decide_eq_false_iff_not, hu, hu3, hu0, hu03, Nat.add_comm 1 i]) | omega | exact True.intro
 all_goals clear hk k
 refine AW.reg tiOk (fun _ => [0]) [0,6,11,21,22,23] ?_
 intro k hk; simp -dsimp (maxSteps := 2000000) [go_sem, -decide_eq_true_eq, -decide_eq_false_iff_not, hu, hu3, hu0, hu03, Nat.add_comm 1 i]
 repeat' first | apply And.intro | refine hk _ ?_ | intro hg | (refine CallK.intro ((dc_impl_graphMaker_flow_n p N2 F2 (seqN (gstep p f) ns.length (kids p (a : Int)) i).lv R.en (by rw [hF2, hF1, List.length_append, List.length_append]; omega))) ?_; simp -dsimp (maxSteps := 2000000) [go_sem, -decide_eq_true_eq, -decide_eq_false_iff_not, hu, hu3, hu0, hu03, Nat.add_comm 1 i]) | omega | exact True.intro
 all_goals clear hk k
 refine rgN [0,6,7,21,22,23] (fun _ h => h) ?_
 intro k hk; simp -dsimp [go_sem, -decide_eq_true_eq, -decide_eq_false_iff_not, hu, hu3, hu0, hu03, Nat.add_comm 1 i]
 repeat' first | apply And.intro | refine hk _ ?_ | intro hg | omega | exact True.intro
 all_goals clear hk k
 refine rgK ?_
 intro k hk; simp -dsimp [go_sem, -decide_eq_true_eq, -decide_eq_false_iff_not, hu, hu3, hu0, hu03, Nat.add_comm 1 i]
 repeat' first | apply And.intro | refine hk _ ?_ | intro hg | omega | exact True.intro
 all_goals clear hk k
 show ∃ _, _
 have hww : IntKind.wrap .i64 ((i : Int) + 1) = (i : Int) + 1 := wrap64 (by omega) (by omega)
 refine ⟨(i + 1, N2, F2 ++ [⟨(seqN (gstep p f) ns.length (kids p (a : Int)) i).lv, R.en, []⟩]), ⟨by simp only; omega, by simp only; rw [hsq, hN2, hN1]; simp, by simp only; rw [hsq, hF2, hF1]; simp⟩, by simp only; omega, Less.of rfl (by simp [go_sem, hww, hsq]) (by simp [go_sem, hsq])⟩)
 ·intro hc; try simp at hc
  all_goals (
 refine AW.exitN (fun _ h => h) ?_
 refine rgA [0,4,5] ?_
 refine rt ?_
 obtain rfl : i = (kids p (a : Int)).length - 1 := (by omega)
 subst hN1 hF1
 simp [go_sem, Try.results50])
end Go.AM
