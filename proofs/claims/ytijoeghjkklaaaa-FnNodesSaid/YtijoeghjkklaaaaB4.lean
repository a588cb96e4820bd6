/- Joined texts: Am18 Am19 Am20 Am21 Am22 Enc Am23 Pu. -/
import Derived.Test.YtijoeghjkklaaaaB1
import Derived.Test.YtijoeghjkklaaaaB2
import Derived.Test.YtijoeghjkklaaaaB3
import Derived.WalkKit
import Derived.ProofKit
import Derived.ChangeSame
import Derived.ChangeArms
import Derived.WideKeyArgs
set_option linter.unusedVariables false
set_option linter.unusedSimpArgs false
namespace Go.AM
def leA0 : AV → AV → Prop
 | .osl es l, y => (match y with | .isl es' l' => es = es' ∧ l = [] ∧ l' = [] | y => .osl es l = y)
 | .nils, y => (match y with | .isl _ l' => l' = [] | y => .nils = y)
 | .zsl, y => (match y with | .isl _ l' => l' = [] | y => .zsl = y)
 | .nel, y => (match y with | .isl _ l' => l' = [] | y => .nel = y)
 | x, y => x = y
def leL : List AV → List AV → Prop
 | [], ys => ys = []
 | x :: xs, ys => (match ys with | y :: ys => leA0 x y ∧ leL xs ys | [] => False)
def leA : AV → AV → Prop
 | .agg cs, y => (match y with | .agg ds => leL cs ds | _ => False)
 | x, y => leA0 x y
def leLL : List AV → List AV → Prop
 | [], ys => ys = []
 | x :: xs, ys => (match ys with | y :: ys => leA x y ∧ leLL xs ys | [] => False)
def leT : AV → AV → Prop
 | .tup cs, y => (match y with | .tup ds => leLL cs ds | _ => False)
 | x, y => leA x y
theorem I.le0 {w : World} {lab : Labs} {x y : AV} {v : Value} (h : leA0 x y) (hI : I w lab x v) : I w lab y v := by
 unfold leA0 at h
 split at h
 ·split at h
  ·cases hI
  ·subst h; exact hI
 ·split at h
  ·subst h; cases hI; exact .nsl _
  ·subst h; exact hI
 ·split at h
  ·subst h
   cases hI with
   | zsl a =>
    cases a with
    | none => exact .nsl _
    | some a => exact .esl _ _ _
  ·subst h; exact hI
 ·split at h
  ·subst h; cases hI; exact .esl _ _ _
  ·subst h; exact hI
 ·subst h; exact hI
theorem T.le0 {w : World} {lab : Labs} {p : Lab} {x y : AV} {v : Value} (h : leA0 x y) (hT : T w lab p x v) : T w lab p y v := by
 cases hT with
 | imm _ _ _ hI => exact .imm _ _ _ (hI.le0 h)
 | osl _ es l b off cap vals hb hk hc hes hp hv hr =>
  simp only [leA0] at h
  split at h
  ·obtain ⟨rfl, rfl, rfl⟩ := h
   exact .imm _ _ _ (.esl _ _ _)
  ·subst h; exact .osl _ es l b off cap vals hb hk hc hes hp hv hr
 | op _ l b off vals hb hk hp hv hr => simp only [leA0] at h; subst h; exact .op _ l b off vals hb hk hp hv hr
 | agg _ cs vs hl hr => simp only [leA0] at h; subst h; exact .agg _ cs vs hl hr
 | tup _ cs vs hl hr => simp only [leA0] at h; subst h; exact .tup _ cs vs hl hr
theorem V.le0 {w : World} {lab : Labs} {loc : Locs} {x y : AV} {v : Value} (h : leA0 x y) (hV : V w lab loc x v) : V w lab loc y v := by
 cases hV with
 | imm _ _ hI => exact .imm _ _ (hI.le0 h)
 | undef _ => simp only [leA0] at h; subst h; exact .undef _
 | ptr id es i j _ hh => simp only [leA0] at h; subst h; exact .ptr id es i j _ hh
 | sl id es i n _ hh => simp only [leA0] at h; subst h; exact .sl id es i n _ hh
 | fn f cs vs hl hr => simp only [leA0] at h; subst h; exact .fn f cs vs hl hr
 | agg cs vs hl hr => simp only [leA0] at h; subst h; exact .agg cs vs hl hr
 | tup cs vs hl hr => simp only [leA0] at h; subst h; exact .tup cs vs hl hr
 | gate e x _ hh => simp only [leA0] at h; subst h; exact .gate e x _ hh
theorem leL_get {R : AV → Value → Prop} {Q : AV → Value → Prop} (hq : ∀ x y v, leA0 x y → R x v → Q y v) : ∀ {cs ds : List AV} {vs : List Value}, leL cs ds → cs.length = vs.length → (∀ (j : Nat) x y, cs[j]? = some x → vs[j]? = some y → R x y) →
  ds.length = vs.length ∧ ∀ (j : Nat) x y, ds[j]? = some x → vs[j]? = some y → Q x y := by
 intro cs
 induction cs with
 | nil =>
  intro ds vs h hl _
  simp only [leL] at h; subst h
  exact ⟨hl, by intro j x y hx; simp at hx⟩
 | cons c cs ih =>
  intro ds vs h hl hr
  simp only [leL] at h
  cases ds with
  | nil => exact h.elim
  | cons d ds =>
   cases vs with
   | nil => simp at hl
   | cons v vs =>
    obtain ⟨h1, h2⟩ := h
    obtain ⟨h3, h4⟩ := ih h2 (by simpa using hl) (fun j x y hx hy => hr (j + 1) x y (by simpa using hx) (by simpa using hy))
    refine ⟨by simp [h3], ?_⟩
    intro j x y hx hy
    cases j with
    | zero => simp at hx hy; subst hx; subst hy; exact hq _ _ _ h1 (hr 0 c v rfl rfl)
    | succ j => exact h4 j x y (by simpa using hx) (by simpa using hy)
theorem leL_get' {R Q : Nat → AV → Value → Prop} (hq : ∀ j x y v, leA0 x y → R j x v → Q j y v) {cs ds : List AV} {vs : List Value} (h : leL cs ds) (hl : cs.length = vs.length) (hr : ∀ (j : Nat) x y, cs[j]? = some x → vs[j]? = some y → R j x y) :
  ds.length = vs.length ∧ ∀ (j : Nat) x y, ds[j]? = some x → vs[j]? = some y → Q j x y := by
 induction cs generalizing ds vs R Q with
 | nil =>
  simp only [leL] at h; subst h
  exact ⟨hl, by intro j x y hx; simp at hx⟩
 | cons c cs ih =>
  simp only [leL] at h
  cases ds with
  | nil => exact h.elim
  | cons d ds =>
   cases vs with
   | nil => simp at hl
   | cons v vs =>
    obtain ⟨h1, h2⟩ := h
    obtain ⟨h3, h4⟩ := ih (R := fun j => R (j + 1)) (Q := fun j => Q (j + 1)) (fun j => hq (j + 1)) h2 (by simpa using hl) (fun j x y hx hy => hr (j + 1) x y (by simpa using hx) (by simpa using hy))
    refine ⟨by simp [h3], ?_⟩
    intro j x y hx hy
    cases j with
    | zero => simp at hx hy; subst hx; subst hy; exact hq 0 _ _ _ h1 (hr 0 c v rfl rfl)
    | succ j => exact h4 j x y (by simpa using hx) (by simpa using hy)
theorem V.le {w : World} {lab : Labs} {loc : Locs} {x y : AV} {v : Value} (h : leA x y) (hV : V w lab loc x v) : V w lab loc y v := by
 unfold leA at h
 split at h
 ·rename_i cs
  split at h <;> first | exact h.elim | skip
  rename_i ds
  obtain ⟨vs, rfl, hl, hr⟩ := hV.inv_agg
  obtain ⟨h1, h2⟩ := leL_get (R := V w lab loc) (Q := V w lab loc) (fun x y v h1 h2 => V.le0 h1 h2) h hl hr
  exact .agg _ _ h1 h2
 ·exact hV.le0 h
theorem T.inv_agg {w : World} {lab : Labs} {p : Lab} {cs : List AV} {v : Value} (h : T w lab p (.agg cs) v) : ∃ vs : List Value, v = .agg ⟨vs⟩ ∧ cs.length = vs.length ∧ ∀ (j : Nat) x y, cs[j]? = some x → vs[j]? = some y → T w lab (p.down 0 j) x y := by
 cases h with
 | imm _ _ _ hI => cases hI with | agg _ vs hl hr => exact ⟨vs, rfl, hl, fun j x y hx hy => .imm _ _ _ (hr j x y hx hy)⟩
 | agg _ _ vs hl hr => exact ⟨vs, rfl, hl, hr⟩
theorem T.inv_tup {w : World} {lab : Labs} {p : Lab} {cs : List AV} {v : Value} (h : T w lab p (.tup cs) v) : ∃ vs : List Value, v = .tuple ⟨vs⟩ ∧ cs.length = vs.length ∧ ∀ (j : Nat) x y, cs[j]? = some x → vs[j]? = some y → T w lab (p.down 1 j) x y := by
 cases h with
 | imm _ _ _ hI => cases hI with | tup _ vs hl hr => exact ⟨vs, rfl, hl, fun j x y hx hy => .imm _ _ _ (hr j x y hx hy)⟩
 | tup _ _ vs hl hr => exact ⟨vs, rfl, hl, hr⟩
theorem T.le {w : World} {lab : Labs} {p : Lab} {x y : AV} {v : Value} (h : leA x y) (hT : T w lab p x v) : T w lab p y v := by
 unfold leA at h
 split at h
 ·rename_i cs
  split at h <;> first | exact h.elim | skip
  rename_i ds
  obtain ⟨vs, rfl, hl, hr⟩ := hT.inv_agg
  obtain ⟨h1, h2⟩ := leL_get' (R := fun j => T w lab (p.down 0 j)) (Q := fun j => T w lab (p.down 0 j)) (fun j x y v h1 h2 => T.le0 h1 h2) h hl hr
  exact .agg _ _ _ h1 h2
 ·exact hT.le0 h
theorem leLL_T {w : World} {lab : Labs} {p : Lab} {cs ds : List AV} {vs : List Value} {k : Nat} (h : leLL cs ds) (hl : cs.length = vs.length) (hr : ∀ (j : Nat) x y, cs[j]? = some x → vs[j]? = some y → T w lab (p.down 1 (k + j)) x y) :
  ds.length = vs.length ∧ ∀ (j : Nat) x y, ds[j]? = some x → vs[j]? = some y → T w lab (p.down 1 (k + j)) x y := by
 induction cs generalizing ds vs k with
 | nil =>
  simp only [leLL] at h; subst h
  exact ⟨hl, by intro j x y hx; simp at hx⟩
 | cons c cs ih =>
  simp only [leLL] at h
  cases ds with
  | nil => exact h.elim
  | cons d ds =>
   cases vs with
   | nil => simp at hl
   | cons v vs =>
    obtain ⟨h1, h2⟩ := h
    obtain ⟨h3, h4⟩ := ih (k := k + 1) h2 (by simpa using hl) (fun j x y hx hy => by
     have := hr (j + 1) x y (by simpa using hx) (by simpa using hy)
     rw [show k + (j + 1) = k + 1 + j by omega] at this; exact this)
    refine ⟨by simp [h3], ?_⟩
    intro j x y hx hy
    cases j with
    | zero => simp at hx hy; subst hx; subst hy; exact (hr 0 c v rfl rfl).le h1
    | succ j =>
     have := h4 j x y (by simpa using hx) (by simpa using hy)
     rw [show k + 1 + j = k + (j + 1) by omega] at this; exact this
theorem T.leT {w : World} {lab : Labs} {p : Lab} {x y : AV} {v : Value} (h : Go.AM.leT x y) (hT : T w lab p x v) : T w lab p y v := by
 unfold Go.AM.leT at h
 split at h
 ·rename_i cs
  split at h <;> first | exact h.elim | skip
  rename_i ds
  obtain ⟨vs, rfl, hl, hr⟩ := hT.inv_tup
  obtain ⟨h1, h2⟩ := leLL_T (k := 0) h hl (fun j x y hx hy => by simpa using hr j x y hx hy)
  exact .tup _ _ _ h1 (fun j x y hx hy => by simpa using h2 j x y hx hy)
 ·exact hT.le h
def argIn (k : Nat) (x : AV) : Option (AV × PlanO) :=
 match x with
 | .fn f cs => some (.fn f cs, [])
 | x => match thw (900 + k) (.arg k, []) x with
  | some (y, po, _) => some (y, po)
  | none => none
def argsIn : Nat → List AV → Option (List AV × PlanO)
 | _, [] => some ([], [])
 | k, x :: xs => match argIn k x, argsIn (k + 1) xs with
  | some (y, p), some (ys, ps) => some (y :: ys, p ++ ps)
  | _, _ => none
def enumFrom (k : Nat) : List AV → List (Nat × AV)
 | [] => []
 | x :: xs => (k, x) :: enumFrom (k + 1) xs
theorem look_enumFrom {xs : List AV} {k s : Nat} {x : AV} (h : look s (enumFrom k xs) = some x) : k ≤ s ∧ xs[s - k]? = some x := by
 induction xs generalizing k with
 | nil => cases h
 | cons y xs ih =>
  simp only [enumFrom, look] at h
  split at h
  ·rename_i e; subst e; cases h; simp
  ·obtain ⟨h1, h2⟩ := ih h
   refine ⟨by omega, ?_⟩
   rw [show s - k = (s - (k + 1)) + 1 by omega]
   simpa using h2
def resA (ti : TI) (st : St) : ResultVar → Option (AV × Prop)
 | .tmp t => match st.slot t with
  | some x => some (x, True)
  | none => none
 | .cell a t => match st.slot a with
  | some (.ptr id es i j) => loadA ti st.obj t (.ptr id es i j)
  | _ => none
def resAll (ti : TI) (st : St) : List ResultVar → Option (List AV × Prop)
 | [] => some ([], True)
 | r :: rs => match resA ti st r, resAll ti st rs with
  | some (x, ok), some (xs, oks) => some (x :: xs, ok ∧ oks)
  | _, _ => none
def tupOf : List AV → AV
 | [t] => t
 | ts => .tup ts
def mutsF (st : St) : List (Nat × AV) → Option (PlanI × Prop)
 | [] => some ([], True)
 | (k, t) :: r => match st.slot k with
  | some x => match frz st.obj true k x, mutsF st r with
   | some (t', p, ok), some (ps, oks) => some (p ++ ps, leA t' t ∧ ok ∧ oks)
   | _, _ => none
  | none => none
def finOk (ti : TI) (rs : List ResultVar) (ow : List Nat) (muts : List (Nat × AV)) (st : St) (res : AV) : Prop :=
 match resAll ti st rs with
 | some (xs, ok1) => match frzAll st.obj ow (if xs.length = 1 then 1000 else 1001) xs, mutsF st muts with
  | some (ts, pl, ok2), some (pl2, ok3) => ok1 ∧ ok2 ∧ ok3 ∧ ((pl ++ pl2).all fun e => decide (look e.1 (pl ++ pl2) = some e.2)) = true ∧
    ((roOf ow (if xs.length = 1 then 1000 else 1001) xs).all fun i => (look i (pl ++ pl2)).isNone) = true ∧ leT (tupOf ts) res
  | _, _ => False
 | none => False
def mapR : Option Lab → Option Lab
 | some (.arg k, q) => if k = 1000 then some (.res, q) else if 1001 ≤ k then some (.res, (1, k - 1001) :: q) else some (.arg k, q)
 | none => none
 | some _ => some (.tmp, [])
def labF (lab : Labs) (pl : PlanI) (ro : List Nat) : Labs := fun b => if isTmp (lab b) = true then lab b else mapR (labC lab pl ro b)
def lab1 (lab : Labs) (po : PlanO) : Labs := fun b => if isTmp (lab b) = true then lab b else match lab b with
 | none => none
 | some (r, q) => match findP po r q with
  | some l => some l
  | none => some (.tmp, [])
section
variable {P : Program} {ti : TI} {w : World} {lab : Labs}
theorem argIn_sound {k : Nat} {x y : AV} {po : PlanO} {v : Value} (h : argIn k x = some (y, po)) (hx : T w lab (.arg k, []) x v) :
  ∃ L, Places w lab po L ∧ ∀ lab' loc', (∀ b, b < w.heap.size → lab b = none → lab' b = none) → (∀ l ∈ L, loc' l.1 = some l.2) → V w lab' loc' y v := by
 unfold argIn at h
 split at h
 ·cases h
  refine ⟨[], Places.nil, ?_⟩
  intro lab' loc' hk _
  cases hx with
  | imm _ _ _ hi => exact .imm _ _ (hi.mono (fun b hb hl => ⟨hk b hb hl, rfl⟩) (Nat.le_refl _))
 ·split at h <;> first | (cases h; done) | cases h
  rename_i ht
  obtain ⟨L, hP, hS⟩ := thw_sound ht hx
  exact ⟨L, hP, fun lab' loc' hk hL => hS lab' loc' (.inr hk) hL⟩
theorem argsIn_sound : ∀ (xs : List AV) (vs : List Value) (k : Nat) (ys : List AV) (po : PlanO), argsIn k xs = some (ys, po) → xs.length = vs.length →
  (∀ (i : Nat) x v, xs[i]? = some x → vs[i]? = some v → T w lab (.arg (k + i), []) x v) →
  ∃ L, Places w lab po L ∧ ys.length = vs.length ∧ ∀ lab' loc', (∀ b, b < w.heap.size → lab b = none → lab' b = none) → (∀ l ∈ L, loc' l.1 = some l.2) →
   ∀ (i : Nat) y v, ys[i]? = some y → vs[i]? = some v → V w lab' loc' y v := by
 intro xs
 induction xs with
 | nil =>
  intro vs k ys po h hl _
  simp [argsIn] at h
  obtain ⟨rfl, rfl⟩ := h
  exact ⟨[], Places.nil, hl, by intro _ _ _ _ i y v hi; simp at hi⟩
 | cons x xs ih =>
  intro vs k ys po h hl hv
  simp only [argsIn] at h
  split at h <;> first | (cases h; done) | cases h
  rename_i y p ys' ps h1 h2
  cases vs with
  | nil => simp at hl
  | cons v vs =>
   obtain ⟨L1, hP1, hS1⟩ := argIn_sound h1 (hv 0 x v rfl rfl)
   obtain ⟨L2, hP2, hl2, hS2⟩ := ih vs (k + 1) ys' ps h2 (by simpa using hl) (fun i z u hz hu => by
    have := hv (i + 1) z u (by simpa using hz) (by simpa using hu)
    rw [show k + (i + 1) = k + 1 + i by omega] at this; exact this)
   refine ⟨L1 ++ L2, hP1.append hP2, by simp [hl2], ?_⟩
   intro lab' loc' hk hL i y' v' hy hv'
   cases i with
   | zero =>
    simp at hy hv'; subst hy; subst hv'
    exact hS1 lab' loc' hk (fun l hl => hL l (List.mem_append_left _ hl))
   | succ i =>
    exact hS2 lab' loc' hk (fun l hl => hL l (List.mem_append_right _ hl)) i y' v' (by simpa using hy) (by simpa using hv')
theorem entry {args xs0 : List AV} {po : PlanO} {vals : List Value} {n : Nat} (h0 : argsIn 0 args = some (xs0, po)) (hap : apart po = true) (hnd : (po.map (·.2.1)).Nodup)
  (hroot : po.all (fun e => !decide (e.1.1 = .tmp)) = true) (hl : args.length = vals.length) (hn : args.length ≤ n)
  (hv : ∀ (k : Nat) x v, args[k]? = some x → vals[k]? = some v → T w lab (.arg k, []) x v) (hf : ∀ b, lab b ≠ none → b < w.heap.size) :
  Rep w lab ⟨n, enumFrom 0 xs0, po.map fun e => (e.2.1, some e.2.2)⟩ { tmps := (⟨vals⟩ : Array Value) ++ Array.replicate (n - (⟨vals⟩ : Array Value).size) undef, defers := [] } w := by
 rw [List.all_eq_true] at hroot
 obtain ⟨L, hP, hl2, hS⟩ := argsIn_sound args vals 0 xs0 po h0 hl (fun i x v hx hv' => by simpa using hv i x v hx hv')
 have hk : ∀ b, b < w.heap.size → lab b = none → lab1 lab po b = none := by
  intro b _ h; simp [lab1, h, isTmp]
 have h4 : ∀ e ∈ po, ∀ b q, lab b = some (e.1.app q) → lab1 lab po b = some (.obj e.2.1, q) := by
  intro e he b q hq
  have hr := hroot e he
  simp only [lab1]
  rw [if_neg]
  ·rw [hq]; simp only [Lab.app]; rw [findP_mem hap he q]
  ·intro ht
   rw [hq] at ht
   simp only [Lab.app, isTmp] at ht
   split at ht
   ·rename_i hh
    simp only [Option.some.injEq, Prod.mk.injEq] at hh
    simp [hh.1] at hr
   ·cases ht
 refine ⟨lab1 lab po, fun i => look i L, ?_, rfl, ?_, ?_, ?_, ?_, ?_⟩
 ·simp; omega
 ·intro s x hx
  obtain ⟨_, hx⟩ := look_enumFrom hx
  rw [Nat.sub_zero] at hx
  have hs : s < vals.length := by rw [← hl2]; exact (List.getElem?_eq_some_iff.1 hx).1
  have : (((⟨vals⟩ : Array Value) ++ Array.replicate (n - (⟨vals⟩ : Array Value).size) undef).getD s undef) = vals[s] := by
   simp [Array.getD_eq_getD_getElem?, Array.getElem?_append, hs]
  rw [this]
  exact hS (lab1 lab po) _ hk (fun l hl => look_places hP hnd hl) s x _ hx (List.getElem?_eq_getElem hs)
 ·intro id nd hi
  have hlk := obj_look hi
  obtain ⟨e, he, h2⟩ := List.mem_map.1 (look_mem hlk)
  simp only [Prod.mk.injEq, Option.some.injEq] at h2
  obtain ⟨rfl, rfl⟩ := h2
  obtain ⟨l, hl, h1, h2⟩ := places_of_mem hP he
  refine ⟨l.2.1, l.2.2, by rw [← h1]; exact look_places hP hnd hl, h4 e he _ [] (by rw [Lab.app_nil]; exact h2.hlab), h2.blk, h2.es, ?_⟩
  intro i c j y hi hj
  obtain ⟨v, hv, hT⟩ := h2.cells i c j y hi hj
  refine ⟨v, hv, Or.inr (hT.relab (Or.inr hk) ?_)⟩
  intro b q _ hq
  rw [Lab.down_app] at hq
  exact h4 e he b _ hq
 ·intro id hid
  show look id L = none
  cases hlk : look id L with
  | none => rfl
  | some bb =>
   exfalso
   obtain ⟨e, he, h1, _⟩ := look_L_mem hP hlk
   obtain ⟨x, hx⟩ := look_map_some (l := po.map fun e => (e.2.1, some e.2.2)) (i := id) (by
    simp only [List.map_map, List.mem_map, Function.comp]; exact ⟨e, he, h1⟩)
   have hm := look_mem hx
   obtain ⟨e', _, h2⟩ := List.mem_map.1 hm
   simp only [Prod.mk.injEq] at h2
   simp only [St.obj] at hid
   rw [hx, ← h2.2] at hid
   simp at hid
 ·intro b hb
  apply hf
  intro h
  exact hb (by simp [lab1, h, isTmp])
 ·refine ⟨Nat.le_refl _, rfl, rfl, fun b hb hs => ⟨?_, rfl⟩, fun b n h => h⟩
  simp only [lab1]
  split
  ·rfl
  ·rename_i ht
   cases hlb : lab b with
   | none => rfl
   | some l =>
    obtain ⟨r, q⟩ := l
    rw [hlb] at hs ht
    cases r with
    | tmp => simp [isTmp] at ht
    | _ => exact hs.elim
def resSem (tmps : Array Value) : ResultVar → Sem Value
 | .tmp t => pure (tmps.getD t undef)
 | .cell a t => do loadVar t (← asAddr (tmps.getD a undef))
theorem results_eq (fn : Func) (tmps : Array Value) : results fn tmps = (do
  let vs ← fn.results.mapM (resSem tmps)
  pure (if h : vs.size = 1 then vs[0] else .tuple vs)) := by
 unfold results
 congr 1
theorem results_run {fn : Func} {tmps : Array Value} {w : World} (vs : List Value) (hl : fn.results.toList.length = vs.length)
  (h : ∀ (i : Nat) r v, fn.results.toList[i]? = some r → vs[i]? = some v → (resSem tmps r).run P w = .ok v w) :
  (results fn tmps).run P w = .ok (if vs.length = 1 then vs.getD 0 undef else .tuple ⟨vs⟩) w := by
 have key : ∀ (rs : List ResultVar) (vs : List Value), rs.length = vs.length →
   (∀ (i : Nat) r v, rs[i]? = some r → vs[i]? = some v → (resSem tmps r).run P w = .ok v w) →
   (rs.mapM (m := Sem) (resSem tmps)).run P w = .ok vs w := by
  intro rs
  induction rs with
  | nil => intro vs hl _; cases vs with | nil => simp | cons => simp at hl
  | cons r rs ih =>
   intro vs hl h
   cases vs with
   | nil => simp at hl
   | cons v vs =>
    have h1 := h 0 r v rfl rfl
    have h2 := ih vs (by simpa using hl) fun i r v hr hv => h (i + 1) r v (by simpa using hr) (by simpa using hv)
    rw [List.mapM_cons]
    simp only [Sem.run_bind]
    rw [h1]
    simp only [Result.andThen_ok]
    rw [h2]
    simp
 have hm := key fn.results.toList vs hl h
 rw [results_eq, ← Array.toArray_toList (xs := fn.results), List.mapM_toArray]
 rw [Sem.run_bind]
 have hm2 : ((List.toArray <$> fn.results.toList.mapM (m := Sem) (resSem tmps)).run P w) = .ok ⟨vs⟩ w := by
  rw [map_eq_pure_bind, Sem.run_bind, hm]
  simp
 rw [hm2, Result.andThen_ok, Sem.run_pure]
 by_cases h1 : vs.length = 1
 ·simp [h1]
 ·simp [h1]
theorem mutsF_sound {w : World} {lab : Labs} {loc : Locs} {st : St} {a : Act} (hobjs : ∀ id nd, st.obj id = some nd → ∃ b base, loc id = some (b, base) ∧ ObjOk w lab loc id nd b base)
  (hslots : ∀ s x, st.slot s = some x → V w lab loc x (a.tmps.getD s undef)) {pl : PlanI} {ro : List Nat} : ∀ (muts : List (Nat × AV)) (p : PlanI) (ok : Prop), mutsF st muts = some (p, ok) → ok → (∀ e ∈ p, look e.1 pl = some e.2) →
  (∀ q ∈ muts, ∀ x, st.slot q.1 = some x → isFn x = false) → ∀ q ∈ muts, T w (labC lab pl ro) (.arg q.1, []) q.2 (a.tmps.getD q.1 undef) := by
 intro muts
 induction muts with
 | nil => intro p ok _ _ _ _ q hq; cases hq
 | cons m r ih =>
  intro p ok h hok hp hf q hq
  obtain ⟨k, t⟩ := m
  simp only [mutsF] at h
  split at h <;> first | (cases h; done) | skip
  rename_i x hx
  split at h <;> first | (cases h; done) | cases h
  rename_i t' p1 ok1 ps oks h1 h2
  obtain ⟨ht, hk1, hk2⟩ := hok
  rcases List.mem_cons.1 hq with rfl | hq
  ·refine T.le ht ?_
   refine frz_sound hobjs h1 hk1 (hslots k x hx) (fun e he => hp e (List.mem_append_left _ he)) ?_
   rintro (h | ⟨f, cs, rfl⟩)
   ·cases h
   ·have := hf (k, t) List.mem_cons_self _ hx; simp [isFn] at this
  ·exact ih ps oks h2 hk2 (fun e he => hp e (List.mem_append_right _ he)) (fun q hq => hf q (List.mem_cons_of_mem _ hq)) q hq
theorem leave {w0 : World} {lab0 : Labs} {fn : Func} {ow : List Nat} {muts : List (Nat × AV)} {st : St} {res : AV} {a : Act} {w : World} (hT : TOk P ti) (hR : Rep w0 lab0 st a w) (h : finOk ti fn.results.toList ow muts st res)
  (hmf : ∀ q ∈ muts, q.1 < 900 ∧ ∀ x, st.slot q.1 = some x → isFn x = false) :
  ∃ v labx, (results fn a.tmps).run P w = .ok v w ∧ T w labx (.res, []) res v ∧ (∀ q ∈ muts, T w labx (.arg q.1, []) q.2 (a.tmps.getD q.1 undef)) ∧ Ext lab0 w0 labx w ∧ ∀ b, labx b ≠ none → b < w.heap.size := by
 obtain ⟨lab, loc, hR⟩ := hR
 unfold finOk at h
 split at h <;> first | exact h.elim | skip
 rename_i xs ok1 hres
 split at h <;> first | exact h.elim | skip
 rename_i ts pl0 ok2 pl2 ok3 hfz hmu
 obtain ⟨pl, hpleq⟩ : ∃ pl, pl = pl0 ++ pl2 := ⟨_, rfl⟩
 rw [← hpleq] at h
 obtain ⟨hok1, hok2, hok3, hpl, hro, hle⟩ := h
 rw [List.all_eq_true] at hpl hro
 have hvals : ∀ (rs : List ResultVar) (xs : List AV) (ok : Prop), resAll ti st rs = some (xs, ok) → ok → ∃ vs : List Value, rs.length = vs.length ∧ xs.length = vs.length ∧
   (∀ (i : Nat) r v, rs[i]? = some r → vs[i]? = some v → (resSem a.tmps r).run P w = .ok v w) ∧ ∀ (i : Nat) x v, xs[i]? = some x → vs[i]? = some v → V w lab loc x v := by
  intro rs
  induction rs with
  | nil =>
   intro xs ok h _
   simp [resAll] at h
   obtain ⟨rfl, _⟩ := h
   exact ⟨[], rfl, rfl, by intro i r v hi; simp at hi, by intro i r v hi; simp at hi⟩
  | cons r rs ih =>
   intro xs ok h hok
   simp only [resAll] at h
   split at h <;> first | (cases h; done) | cases h
   rename_i x ok1 xs' oks h1 h2
   obtain ⟨vs, h3, h4, h5, h6⟩ := ih _ _ h2 hok.2
   have hx : ∃ v, (resSem a.tmps r).run P w = .ok v w ∧ V w lab loc x v := by
    unfold resA at h1
    split at h1
    ·split at h1 <;> first | (cases h1; done) | cases h1
     rename_i hs
     exact ⟨_, by simp only [resSem, Sem.run_pure], hR.slots _ _ hs⟩
    ·split at h1 <;> first | (cases h1; done) | skip
     rename_i t id es i j hs
     have hv := hR.slots _ _ hs
     obtain ⟨v, hr, hV⟩ := loadA_sound hT (P := P) (w := w) (lab := lab) (loc := loc) (nodes := st.obj) hR.objs h1 hok.1 hv
     refine ⟨v, ?_, hV⟩
     obtain ⟨nd, hnd⟩ : ∃ nd, st.obj id = some nd := by
      cases hn : st.obj id with
      | some nd => exact ⟨nd, rfl⟩
      | none => simp [loadA, hn] at h1
     obtain ⟨b, base, hl, _⟩ := hR.objs id nd hnd
     rw [hv.inv_ptr hl] at hr
     simp only [resSem]
     rw [hv.inv_ptr hl]
     simpa [Instr.loadAt, Instr.sureAddr, asAddr] using hr
   obtain ⟨v, hv1, hv2⟩ := hx
   refine ⟨v :: vs, by simp [h3], by simp [h4], ?_, ?_⟩
   ·intro i r' v' hr' hv'
    cases i with
    | zero => simp at hr' hv'; subst hr'; subst hv'; exact hv1
    | succ i => exact h5 i r' v' (by simpa using hr') (by simpa using hv')
   ·intro i r' v' hr' hv'
    cases i with
    | zero => simp at hr' hv'; subst hr'; subst hv'; exact hv2
    | succ i => exact h6 i r' v' (by simpa using hr') (by simpa using hv')
 obtain ⟨vs, hl1, hl2, hrun, hV⟩ := hvals _ _ _ hres hok1
 obtain ⟨k0, hk0⟩ : ∃ k, k = (if xs.length = 1 then 1000 else 1001) := ⟨_, rfl⟩
 rw [← hk0] at hfz hro
 obtain ⟨hts, hT'⟩ := frzAll_sound (w := w) (lab := lab) (loc := loc) (nodes := st.obj) hR.objs (pl := pl) (ro := roOf ow k0 xs) xs vs k0 ts pl0 ok2 hfz hok2 hl2 hV (fun e he => by simpa using hpl e (by rw [hpleq]; exact List.mem_append_left _ he)) (fun i hi => by
  have := hro i hi
  simp only [Option.isNone_iff_eq_none] at this
  exact ⟨this, hi⟩)
 have hC : ∀ b, isTmp (lab b) = true → labC lab pl (roOf ow k0 xs) b = some (.tmp, []) := by
  intro b h
  cases hlb : lab b with
  | none => rw [hlb] at h; simp [isTmp] at h
  | some l =>
   obtain ⟨r, q⟩ := l
   rw [hlb] at h
   cases r <;> first | (simp [isTmp] at h; done) | simp [labC, hlb]
 have n1 : ∀ b, labC lab pl (roOf ow k0 xs) b = none → labF lab pl (roOf ow k0 xs) b = none := by
  intro b h
  simp only [labF]
  rw [if_neg, h]; rfl
  intro ht; rw [hC b ht] at h; cases h
 have hMu := mutsF_sound (a := a) hR.objs hR.slots (pl := pl) (ro := roOf ow k0 xs) muts pl2 ok3 hmu hok3 (fun e he => by simpa using hpl e (by rw [hpleq]; exact List.mem_append_right _ he)) (fun q hq => (hmf q hq).2)
 have n2 : ∀ b k q, labC lab pl (roOf ow k0 xs) b = some (.arg k, q) → labF lab pl (roOf ow k0 xs) b = mapR (some (.arg k, q)) := by
  intro b k q h
  simp only [labF]
  rw [if_neg, h]
  intro ht; rw [hC b ht] at h; cases h
 refine ⟨_, labF lab pl (roOf ow k0 xs), results_run vs hl1 hrun, ?_, ?_, ?_, ?_⟩
 ·refine T.leT hle ?_
  have hmv : ∀ (i : Nat) t v (p' : Lab), ts[i]? = some t → vs[i]? = some v → (∀ q, mapR (some (.arg (k0 + i), q)) = some (p'.app q)) → T w (labF lab pl (roOf ow k0 xs)) p' t v := by
   intro i t v p' ht hv hp
   refine (hT' i t v ht hv).move (fun b _ hb => ⟨n1 b hb, rfl⟩) ?_ (Nat.le_refl _)
   intro b q _ hq
   refine ⟨?_, rfl⟩
   rw [n2 b (k0 + i) q (by simpa [Lab.app] using hq), hp]
  by_cases h1 : xs.length = 1
  ·rw [if_pos h1] at hk0
   have hv1 : vs.length = 1 := by rw [← hl2, h1]
   rw [if_pos hv1]
   obtain ⟨v, rfl⟩ := List.length_eq_one_iff.1 hv1
   obtain ⟨t, rfl⟩ := List.length_eq_one_iff.1 (show ts.length = 1 by rw [hts]; rfl)
   refine hmv 0 t v (.res, []) rfl rfl ?_
   intro q
   simp [mapR, hk0, Lab.app]
  ·rw [if_neg h1] at hk0
   have hv1 : ¬ vs.length = 1 := by rw [← hl2]; exact h1
   rw [if_neg hv1]
   have htup : tupOf ts = .tup ts := by
    match ts, hts with
    | [], _ => rfl
    | [t], hts => exact absurd hts.symm hv1
    | _ :: _ :: _, _ => rfl
   rw [htup]
   refine .tup _ _ _ hts ?_
   intro j x y hx hy
   refine hmv j x y _ hx hy ?_
   intro q
   simp only [mapR]
   rw [if_neg (by omega), if_pos (by omega)]
   rw [show k0 + j - 1001 = j by omega]
   simp [Lab.app, Lab.down]
 ·intro m hm
  refine (hMu m hm).move (fun b _ hb => ⟨n1 b hb, rfl⟩) ?_ (Nat.le_refl _)
  intro b q _ hq
  refine ⟨?_, rfl⟩
  have hlt := (hmf m hm).1
  rw [n2 b m.1 q (by simpa [Lab.app] using hq)]
  simp only [mapR]
  rw [if_neg (by omega), if_neg (by omega)]
  simp [Lab.app]
 ·refine ⟨hR.ext.size, hR.ext.os, hR.ext.out, ?_, hR.ext.blk⟩
  intro b hb hs
  have hk := hR.ext.kept b hb hs
  refine ⟨?_, hk.2⟩
  simp only [labF]
  cases hlb : lab0 b with
  | none =>
   rw [hlb] at hk
   rw [if_neg (by rw [hk.1]; simp [isTmp])]
   simp [labC, hk.1, mapR]
  | some l =>
   obtain ⟨r, q⟩ := l
   rw [hlb] at hs hk
   cases r with
   | tmp => rw [if_pos (by rw [hk.1]; rfl), hk.1]
   | _ => exact hs.elim
 ·intro b hb
  apply hR.fresh
  intro h
  exact hb (by simp [labF, h, isTmp, labC, mapR])
theorem DC.empty {f : FuncId} {es : Nat} {res : AV} {muts : List (Nat × AV)} (h1 : DC P f [.nils] res muts) (h2 : DC P f [.nel] res muts) : DC P f [.isl es []] res muts := by
 refine ⟨h1.body, ?_⟩
 intro w lab vals hl hv hf
 obtain ⟨v, rfl⟩ := List.length_eq_one_iff.1 (show vals.length = 1 by rw [← hl]; rfl)
 have h := hv 0 _ v rfl rfl
 have hI : I w lab (.isl es []) v := by cases h with | imm _ _ _ hI => exact hI
 have go : ∀ y, I w lab y v → ∀ (k : Nat) x u, [y][k]? = some x → [v][k]? = some u → T w lab (.arg k, []) x u := by
  intro y hy k x u hx hu
  cases k with
  | zero => simp at hx hu; subst hx; subst hu; exact .imm _ _ _ hy
  | succ k => simp at hx
 cases hI with
 | nsl => exact h1.calls w lab [_] rfl (go _ .nils) hf
 | esl _ a cap => exact h2.calls w lab [_] rfl (go _ (.nel a cap)) hf
 | isl _ _ b off cap vals hb hs hc hes hp hv hr => exact h2.calls w lab [_] rfl (go _ (.nel _ _)) hf
theorem DC.intro (hT : TOk P ti) {f : FuncId} {fn : Func} {c : Code} {args xs0 : List AV} {po : PlanO} {res : AV} {muts : List (Nat × AV)} (hfn : P.funcs[f]? = some fn) (hb : fn.body = some c) (hname : (fn.name == "runtime.NumGoroutine") = false)
  {rs : List ResultVar} (hrs : fn.results.toList = rs) {n : Nat} (hn' : fn.ntmps = n) (hn : (decide (args.length ≤ n)) = true) (h0 : argsIn 0 args = some (xs0, po)) (hc : (apart po && decide (po.map (·.2.1)).Nodup && po.all (fun e => !decide (e.1.1 = .tmp))) = true)
  (hm : (muts.all fun q => noW q.1 c && decide (q.1 < 900) && decide (q.1 < args.length)) = true) (ow : List Nat)
  (h : AW P c ⟨n, enumFrom 0 xs0, po.map fun e => (e.2.1, some e.2.2)⟩ fun e s => (e = .normal ∨ e = .ret) ∧ (muts.all fun q => match s.slot q.1 with | some x => !isFn x | none => true) = true ∧ finOk ti rs ow muts s res) : DC P f args res muts := by
 subst hrs; subst hn'
 simp only [Bool.and_eq_true, decide_eq_true_eq] at hc hn
 rw [List.all_eq_true] at hm
 obtain ⟨⟨h1, h2⟩, h3⟩ := hc
 refine ⟨⟨fn, hfn, by rw [hb]; rfl, hname⟩, ?_⟩
 intro w lab vals hl hv hf
 refine calls_of_wp hfn hb ?_
 refine wp_mono (h.go w lab _ w (entry h0 h1 h2 h3 hl hn hv hf)) ?_
 rintro e a' w' ⟨⟨s, ⟨he, hnf, hfin⟩, hR⟩, hpin⟩
 rw [List.all_eq_true] at hnf
 have hd : a'.defers = [] := by obtain ⟨_, _, hR'⟩ := hR; exact hR'.defers
 obtain ⟨v, labx, h4, h5, h8, h6, h7⟩ := leave hT hR hfin (fun q hq => ⟨by have := hm q hq; simp only [Bool.and_eq_true, decide_eq_true_eq] at this; exact this.1.2, fun x hx => by
  have := hnf q hq; rw [hx] at this; simpa using this⟩)
 have hpin' : e ≠ .outgrown → ∀ q ∈ muts, ∀ v, vals[q.1]? = some v → T w' labx (.arg q.1, []) q.2 v := by
  intro hne q hq v hv'
  have hq' := hm q hq
  simp only [Bool.and_eq_true, decide_eq_true_eq] at hq'
  have hp := hpin.resolve_left hne q.1 hq'.1.1
  have hx := h8 q hq
  rw [hp] at hx
  have hlt : q.1 < vals.length := by omega
  have hv2 : vals[q.1] = v := by rw [List.getElem?_eq_getElem hlt] at hv'; exact Option.some.inj hv'
  have : (((⟨vals⟩ : Array Value) ++ Array.replicate (fn.ntmps - (⟨vals⟩ : Array Value).size) undef).getD q.1 undef) = vals[q.1] := by
   simp [Array.getD_eq_getD_getElem?, Array.getElem?_append, hlt]
  rw [this, hv2] at hx
  exact hx
 rcases he with rfl | rfl
 ·exact ⟨hd, v, h4, v, labx, rfl, h5, hpin' (by simp), h6, h7⟩
 ·exact ⟨hd, v, h4, v, labx, rfl, h5, hpin' (by simp), h6, h7⟩
end
end Go.AM
namespace Go.AM
theorem info_of {P : Program} {t : Nat} {info : TypeInfo} (h : ∀ w, (typeInfo t).run P w = .ok info w) : P.info? t = some info := by
 have := h default
 simp only [typeInfo, Sem.run_bind, run_program, Result.andThen_ok] at this
 cases hi : P.info? t with
 | none => rw [hi] at this; simp [unsupported] at this
 | some i => rw [hi] at this; simp at this; rw [this]
theorem tok1 {P : Program} {t : Nat} {info : TypeInfo} {i : TInfo} (h1 : ∀ w, (typeInfo t).run P w = .ok info w) (h2 : info.size = i.size) (h3 : info.bytes = i.bytes)
  (h4 : ∀ z, i.zero = some z → ∃ zv, info.zero = some zv ∧ zv.cells.toList.mapM ofV = some z ∧ z.length = i.size) (h5 : KOk P t i.kind) (h0 : i.flat = true → FlatEq P t i.size) : TOk1 P t i :=
 ⟨h0, ⟨info, info_of h1, h2, h3, h4⟩, h5⟩
theorem run_part_int {P : Program} {t : TypeId} (ht : P.underlying t = some (.int .i64)) (l : List Int) (k : Nat) (hk : k < l.length) (w : World) : (part t ⟨l.map (Value.int .i64)⟩ k).run P w = .ok (.int .i64 l[k]) w := by
 have hg : (isAgg t).run P w = .ok false w := by simp [isAgg, run_underlying ht]
 simp [part, hg, hk]
theorem eqFields_run {P : Program} (w : World) (a b : List Int) (hab : a.length = b.length) : ∀ (fs : List Field) (k : Nat), (∀ (j : Nat) f, fs[j]? = some f → f.offset = k + j ∧ f.name ≠ "_" ∧ P.underlying f.type = some (.int .i64)) → k + fs.length = a.length →
  (Op.eqFields 9999 ⟨a.map (Value.int .i64)⟩ ⟨b.map (Value.int .i64)⟩ fs).run P w = .ok (decide (a.drop k = b.drop k)) w := by
 intro fs
 induction fs with
 | nil =>
  intro k _ hl
  simp only [List.length_nil, Nat.add_zero] at hl
  simp only [Op.eqFields, Sem.run_pure]
  rw [List.drop_eq_nil_of_le (by omega), List.drop_eq_nil_of_le (by omega)]; simp
 | cons f fs ih =>
  intro k hf hl
  obtain ⟨h1, h2, h3⟩ := hf 0 f rfl
  simp only [List.length_cons] at hl
  have hka : k < a.length := by omega
  have hkb : k < b.length := by omega
  have hr := ih (k + 1) (fun j g hg => by
   have := hf (j + 1) g (by simpa using hg)
   exact ⟨by omega, this.2.1, this.2.2⟩) (by omega)
  have h1' : f.offset = k := by omega
  simp only [Op.eqFields, if_pos h2, Sem.run_bind, h1', run_part_int h3 a k hka, run_part_int h3 b k hkb, Result.andThen_ok, run_equalIn_int w 9998 .i64 _ _ h3]
  have key : (a.drop k = b.drop k) ↔ (a[k] = b[k] ∧ a.drop (k + 1) = b.drop (k + 1)) := by
   rw [List.drop_eq_getElem_cons hka, List.drop_eq_getElem_cons hkb]
   exact ⟨fun h => by injection h with h1 h2; exact ⟨h1, h2⟩, fun ⟨h1, h2⟩ => by rw [h1, h2]⟩
  by_cases e : a[k] = b[k]
  ·have e1 : (a[k] == b[k]) = true := by simpa using e
   have e2 : decide (a.drop k = b.drop k) = decide (a.drop (k + 1) = b.drop (k + 1)) := by rw [decide_eq_decide, key]; exact ⟨fun h => h.2, fun h => ⟨e, h⟩⟩
   rw [e2]
   simp only [e1, Bool.not_true, Bool.false_eq_true, if_false, hr]
  ·have e1 : (a[k] == b[k]) = false := by simpa using e
   have e2 : decide (a.drop k = b.drop k) = false := by rw [decide_eq_false_iff_not, key]; exact fun h => e h.1
   rw [e2]
   simp only [e1, Bool.not_false, if_true, Sem.run_pure]
theorem flatEq {P : Program} {t n : Nat} {fs : List Field} (hu : P.underlying t = some (.struct (P.fieldsOf t))) (hfs : (P.fieldsOf t).toList = fs) (hp : P.stoodInHeld t = false) (hg : P.eqGuardType P.depth t = false) (hn : fs.length = n)
  (hf : ∀ (j : Nat) f, fs[j]? = some f → f.offset = 0 + j ∧ f.name ≠ "_" ∧ P.underlying f.type = some (.int .i64)) : FlatEq P t n := by
 refine ⟨hg, fun w a b ha hb => ?_⟩
 rw [run_equalIn_struct w 9999 t _ _ hu hp, hfs, eqFields_run w a b (by omega) fs 0 hf (by omega)]
 simp
theorem tz1 {info : TypeInfo} {i : TInfo} {z : List AV} (zv : Value) (hi : i.zero = some z) (h1 : info.zero = some zv) (h2 : zv.cells.toList.mapM ofV = some z) (h3 : z.length = i.size) :
  ∀ z, i.zero = some z → ∃ zv, info.zero = some zv ∧ zv.cells.toList.mapM ofV = some z ∧ z.length = i.size := by
 intro z' hz; rw [hi] at hz; cases hz; exact ⟨zv, h1, h2, h3⟩
theorem kstruct {P : Program} {t : Nat} {fields : Array Field} {fs : List (Nat × Nat)} (h : P.underlying t = some (.struct fields)) (hf : fields.toList.map (fun f => (f.offset, f.type)) = fs) : KOk P t (.struct fs) := ⟨fields, h, hf⟩
theorem tok_nil {P : Program} : TOk P fun _ => none := fun t i h => by cases h
def tiAdd (t : Nat) (i : TInfo) (ti : TI) : TI := fun u => if u = t then some i else ti u
theorem tok_add {P : Program} {t : Nat} {i : TInfo} {ti : TI} (h : TOk1 P t i) (h2 : TOk P ti) : TOk P (tiAdd t i ti) := by
 intro u j hu
 simp only [tiAdd] at hu
 split at hu
 ·rename_i e; cases hu; rw [e]; exact h
 ·exact h2 u j hu
end Go.AM
namespace Go.AM
def keepS (st : St) : List Nat → List (Nat × AV)
 | [] => []
 | s :: ks => match st.slot s with
  | some x => (s, x) :: keepS st ks
  | none => keepS st ks
def compact : List Nat → List (Nat × Option Node) → List (Nat × Option Node)
 | _, [] => []
 | seen, (i, o) :: r => if seen.contains i then compact seen r else match o with
  | some nd => (i, some nd) :: compact (i :: seen) r
  | none => compact (i :: seen) r
def gcO : Nat → List Nat → List (Nat × Option Node) → List (Nat × Option Node)
 | 0, seeds, l => l.filter fun p => seeds.contains p.1
 | k + 1, seeds, l => gcO k (seeds ++ objIds (l.filter fun p => seeds.contains p.1)) l
theorem gcO_sub : ∀ (k : Nat) (seeds : List Nat) (l : List (Nat × Option Node)) {i : Nat} {nd : Node}, look i (gcO k seeds l) = some (some nd) → (i, some nd) ∈ l := by
 intro k
 induction k with
 | zero => intro seeds l i nd h; exact (List.mem_filter.1 (look_mem h)).1
 | succ k ih =>
  intro seeds l i nd h
  exact ih _ _ h
theorem compact_keys {l : List (Nat × Option Node)} : ∀ {seen : List Nat} {i : Nat} {nd : Node}, (i, some nd) ∈ compact seen l → look i (compact seen l) = some (some nd) := by
 induction l with
 | nil => intro seen i nd h; simp [compact] at h
 | cons p l ih =>
  obtain ⟨k, o⟩ := p
  intro seen i nd h
  have hseen : ∀ {l : List (Nat × Option Node)} {seen : List Nat} {i : Nat} {nd : Node}, (i, some nd) ∈ compact seen l → i ∉ seen := by
   intro l
   induction l with
   | nil => intro seen i nd h; simp [compact] at h
   | cons q l ih =>
    obtain ⟨k, o⟩ := q
    intro seen i nd h
    simp only [compact] at h
    split at h
    ·exact ih h
    ·rename_i hk
     cases o with
     | none =>
      have := ih h
      simp only [List.mem_cons, not_or] at this
      exact this.2
     | some m =>
      rcases List.mem_cons.1 h with h | h
      ·cases h; simpa using hk
      ·have := ih h
       simp only [List.mem_cons, not_or] at this
       exact this.2
  simp only [compact] at h ⊢
  split at h
  ·rename_i hk; rw [if_pos hk]; exact ih h
  ·rename_i hk
   rw [if_neg hk]
   cases o with
   | none => exact ih h
   | some m =>
    simp only [look]
    rcases List.mem_cons.1 h with h | h
    ·cases h; rw [if_pos rfl]
    ·have hne := hseen h
     simp only [List.mem_cons, not_or] at hne
     rw [if_neg hne.1]
     exact ih h
def St.keep (ks : List Nat) (st : St) : St := ⟨st.n, keepS st ks, gcO 2 (slotIds (keepS st ks)) (compact [] st.objs)⟩
theorem look_keepS {st : St} {ks : List Nat} {s : Nat} {x : AV} (h : look s (keepS st ks) = some x) : st.slot s = some x := by
 induction ks with
 | nil => cases h
 | cons k ks ih =>
  simp only [keepS] at h
  split at h
  ·rename_i y hy
   simp only [look] at h
   split at h
   ·rename_i e; subst e; cases h; exact hy
   ·exact ih h
  ·exact ih h
theorem look_compact {l : List (Nat × Option Node)} {seen : List Nat} {i : Nat} {nd : Node} (h : look i (compact seen l) = some (some nd)) : i ∉ seen ∧ look i l = some (some nd) := by
 induction l generalizing seen with
 | nil => cases h
 | cons p l ih =>
  obtain ⟨k, o⟩ := p
  simp only [compact] at h
  simp only [look]
  split at h
  ·rename_i hk
   obtain ⟨h1, h2⟩ := ih h
   refine ⟨h1, ?_⟩
   rw [if_neg]
   ·exact h2
   ·rintro rfl; exact h1 (by simpa using hk)
  ·rename_i hk
   cases o with
   | none =>
    obtain ⟨h1, h2⟩ := ih h
    simp only [List.mem_cons, not_or] at h1
    exact ⟨h1.2, by rw [if_neg h1.1]; exact h2⟩
   | some m =>
    simp only [look] at h
    split at h
    ·rename_i e; subst e; cases h
     exact ⟨by simpa using hk, by rw [if_pos rfl]⟩
    ·rename_i e
     obtain ⟨h1, h2⟩ := ih h
     simp only [List.mem_cons, not_or] at h1
     exact ⟨h1.2, by rw [if_neg e]; exact h2⟩
theorem less_keep (ks : List Nat) (st : St) : St.Less st (st.keep ks) :=
 ⟨rfl, fun _ _ h => look_keepS h, fun i nd h => by
  have := compact_keys (gcO_sub _ _ _ (obj_look h))
  have h2 := (look_compact this).2
  simp [St.obj, h2]⟩
def St.keep0 (ks : List Nat) (st : St) : St := ⟨st.n, keepS st ks, compact [] st.objs⟩
theorem less_keep0 (ks : List Nat) (st : St) : St.Less st (st.keep0 ks) :=
 ⟨rfl, fun _ _ h => look_keepS h, fun i nd h => by
  have := obj_look h
  have h2 := (look_compact this).2
  simp [St.obj, h2]⟩
def Chk (draw : Bool) (ops : Array Oper) (es : List (Nat × Eff)) : Prop := draw = true → drawOk ops es = true
theorem Chk.no {ops : Array Oper} {es : List (Nat × Eff)} : Chk false ops es := fun h => by cases h
theorem Chk.keys {ops : Array Oper} {es : List (Nat × Eff)} (h : drawK ops (es.map kOf) = true) : Chk true ops es := fun _ => drawK_ok h
section
variable {P : Program} {ti : TI} {st : St} {K : Exit → St → Prop}
theorem AW.reg (hT : TOk P ti) (ow : Nat → List Nat) (ks : List Nat) {id : Nat} {ops : Array Oper} {draw : Bool} {y : Code}
  (h : ∀ k : St → Prop, (∀ s, AW P y s K → k s) → opsGo P ti ow ops 0 ops.toList st (fun es s => Chk draw ops es ∧ k (s.keep ks)) .mk) : AW P (.seq (.region id ops draw) y) st K := by
 refine AW.seq ((AW.region hT ow (K := thenK (fun s => AW P y (s.keep ks) K) K) (opsGo_all (h (fun s => AW P y s K) fun s h => h))).mono ?_)
 intro e s hs
 cases e with
 | normal => exact AW.less (less_keep ks s) hs
 | _ => exact hs
theorem AW.regN (hT : TOk P ti) (ow : Nat → List Nat) (ks : List Nat) {id : Nat} {ops : Array Oper} {draw : Bool} {y : Code} {K' : Exit → St → Prop} (hK : ∀ s, AW P y s K' → K .normal s)
  (h : ∀ k : St → Prop, (∀ s, AW P y s K' → k s) → opsGo P ti ow ops 0 ops.toList st (fun es s => Chk draw ops es ∧ k (s.keep ks)) .mk) : AW P (.region id ops draw) st K := by
 refine (AW.region hT ow (K := thenK (fun s => AW P y (s.keep ks) K') fun _ _ => False) (opsGo_all (h (fun s => AW P y s K') fun s h => h))).mono ?_
 intro e s hs
 cases e with
 | normal => exact hK _ (AW.less (less_keep ks s) hs)
 | _ => exact hs.elim
theorem AW.reg0 (hT : TOk P ti) (ow : Nat → List Nat) (ks : List Nat) {id : Nat} {ops : Array Oper} {draw : Bool} {y : Code}
  (h : ∀ k : St → Prop, (∀ s, AW P y s K → k s) → opsGo P ti ow ops 0 ops.toList st (fun es s => Chk draw ops es ∧ k (s.keep0 ks)) .mk) : AW P (.seq (.region id ops draw) y) st K := by
 refine AW.seq ((AW.region hT ow (K := thenK (fun s => AW P y (s.keep0 ks) K) K) (opsGo_all (h (fun s => AW P y s K) fun s h => h))).mono ?_)
 intro e s hs
 cases e with
 | normal => exact AW.less (less_keep0 ks s) hs
 | _ => exact hs
theorem AW.regN0 (hT : TOk P ti) (ow : Nat → List Nat) (ks : List Nat) {id : Nat} {ops : Array Oper} {draw : Bool} {y : Code} {K' : Exit → St → Prop} (hK : ∀ s, AW P y s K' → K .normal s)
  (h : ∀ k : St → Prop, (∀ s, AW P y s K' → k s) → opsGo P ti ow ops 0 ops.toList st (fun es s => Chk draw ops es ∧ k (s.keep0 ks)) .mk) : AW P (.region id ops draw) st K := by
 refine (AW.region hT ow (K := thenK (fun s => AW P y (s.keep0 ks) K') fun _ _ => False) (opsGo_all (h (fun s => AW P y s K') fun s h => h))).mono ?_
 intro e s hs
 cases e with
 | normal => exact hK _ (AW.less (less_keep0 ks s) hs)
 | _ => exact hs.elim
theorem AW.regK (hT : TOk P ti) (ow : Nat → List Nat) {id : Nat} {ops : Array Oper} {draw : Bool}
  (h : ∀ k : St → Prop, (∀ s, K .normal s → k s) → opsGo P ti ow ops 0 ops.toList st (fun es s => Chk draw ops es ∧ k s) .mk) : AW P (.region id ops draw) st K :=
 AW.region hT ow (opsGo_all (h (fun s => K .normal s) fun _ h => h))
theorem AW.loopI {ι : Type} (S : ι → St) (I : ι → Prop) (μ : ι → Nat) {c : Code} (i0 : ι) (hI : I i0) (hS : St.Less st (S i0))
  (h : ∀ i, I i → AW P c (S i) (thenK (fun s => ∃ j, I j ∧ μ j < μ i ∧ St.Less s (S j)) K)) : AW P (.loop c) st K := by
 refine AW.less hS ?_
 refine AW.loop (ι := {i : ι // I i}) (fun i => S i.1) (fun _ => K) (fun i => μ i.1) ?_ ⟨i0, hI⟩
 intro i
 refine (h i.1 i.2).mono ?_
 intro e s hs
 cases e with
 | normal =>
  obtain ⟨j, h1, h2, h3⟩ := hs
  exact ⟨⟨j, h1⟩, h2, h3, fun _ _ h => h⟩
 | _ => exact hs
theorem AW.skipN {y : Code} {K' : Exit → St → Prop} (hK : ∀ s, AW P y s K' → K .normal s) (h : AW P y st K') : AW P .skip st K := AW.skip (hK _ h)
theorem AW.exitN {y : Code} {id : Nat} {K' : Exit → St → Prop} (hK : ∀ s, AW P y s K' → K (.exit id) s) (h : AW P y st K') : AW P (.exit id) st K := AW.exit (hK _ h)
theorem AW.retF {rs : List ResultVar} {ow : List Nat} {muts : List (Nat × AV)} {res : AV} (h : (muts.all fun q => match st.slot q.1 with | some x => !isFn x | none => true) = true ∧ finOk ti rs ow muts st res)
  (hk : (muts.all fun q => match st.slot q.1 with | some x => !isFn x | none => true) = true ∧ finOk ti rs ow muts st res → K .ret st) : AW P .ret st K := AW.ret (hk h)
end
theorem Chk_false {ops : Array Oper} {es : List (Nat × Eff)} : Chk false ops es = True := eq_true Chk.no
@[go_sem] theorem AV_plain_undef : AV.plain (.undef) = false := rfl
@[go_sem] theorem AV_tree_undef : AV.tree (.undef) = false := rfl
@[go_sem] theorem leA0_undef {y : AV} : leA0 (.undef) y = ((.undef) = y) := rfl
@[go_sem] theorem leA_undef {y : AV} : leA (.undef) y = leA0 (.undef) y := rfl
@[go_sem] theorem leT_undef {y : AV} : leT (.undef) y = leA (.undef) y := rfl
@[go_sem] theorem AV_plain_bool {b : _} : AV.plain (.bool b) = true := rfl
@[go_sem] theorem AV_tree_bool {b : _} : AV.tree (.bool b) = true := rfl
@[go_sem] theorem leA0_bool {b : _} {y : AV} : leA0 (.bool b) y = ((.bool b) = y) := rfl
@[go_sem] theorem leA_bool {b : _} {y : AV} : leA (.bool b) y = leA0 (.bool b) y := rfl
@[go_sem] theorem leT_bool {b : _} {y : AV} : leT (.bool b) y = leA (.bool b) y := rfl
@[go_sem] theorem AV_plain_int {k : _} {n : _} : AV.plain (.int k n) = true := rfl
@[go_sem] theorem AV_tree_int {k : _} {n : _} : AV.tree (.int k n) = true := rfl
@[go_sem] theorem leA0_int {k : _} {n : _} {y : AV} : leA0 (.int k n) y = ((.int k n) = y) := rfl
@[go_sem] theorem leA_int {k : _} {n : _} {y : AV} : leA (.int k n) y = leA0 (.int k n) y := rfl
@[go_sem] theorem leT_int {k : _} {n : _} {y : AV} : leT (.int k n) y = leA (.int k n) y := rfl
@[go_sem] theorem AV_plain_str {s : _} : AV.plain (.str s) = true := rfl
@[go_sem] theorem AV_tree_str {s : _} : AV.tree (.str s) = true := rfl
@[go_sem] theorem leA0_str {s : _} {y : AV} : leA0 (.str s) y = ((.str s) = y) := rfl
@[go_sem] theorem leA_str {s : _} {y : AV} : leA (.str s) y = leA0 (.str s) y := rfl
@[go_sem] theorem leT_str {s : _} {y : AV} : leT (.str s) y = leA (.str s) y := rfl
@[go_sem] theorem AV_plain_nilp : AV.plain (.nilp) = true := rfl
@[go_sem] theorem AV_tree_nilp : AV.tree (.nilp) = true := rfl
@[go_sem] theorem leA0_nilp {y : AV} : leA0 (.nilp) y = ((.nilp) = y) := rfl
@[go_sem] theorem leA_nilp {y : AV} : leA (.nilp) y = leA0 (.nilp) y := rfl
@[go_sem] theorem leT_nilp {y : AV} : leT (.nilp) y = leA (.nilp) y := rfl
@[go_sem] theorem AV_plain_nils : AV.plain (.nils) = true := rfl
@[go_sem] theorem AV_tree_nils : AV.tree (.nils) = true := rfl
@[go_sem] theorem leA_nils {y : AV} : leA (.nils) y = leA0 (.nils) y := rfl
@[go_sem] theorem leT_nils {y : AV} : leT (.nils) y = leA (.nils) y := rfl
@[go_sem] theorem AV_plain_nel : AV.plain (.nel) = true := rfl
@[go_sem] theorem AV_plain_lns {n : Nat} : AV.plain (.lns n) = true := rfl
@[go_sem] theorem AV_tree_lns {n : Nat} : AV.tree (.lns n) = true := rfl
@[go_sem] theorem leA0_lns {n : Nat} {y : AV} : leA0 (.lns n) y = ((.lns n) = y) := rfl
@[go_sem] theorem leA_lns {n : Nat} {y : AV} : leA (.lns n) y = leA0 (.lns n) y := rfl
@[go_sem] theorem leT_lns {n : Nat} {y : AV} : leT (.lns n) y = leA (.lns n) y := rfl
@[go_sem] theorem AV_plain_val {v : Value} : AV.plain (.val v) = true := rfl
@[go_sem] theorem AV_tree_val {v : Value} : AV.tree (.val v) = true := rfl
@[go_sem] theorem leA0_val {v : Value} {y : AV} : leA0 (.val v) y = ((.val v) = y) := rfl
@[go_sem] theorem leA_val {v : Value} {y : AV} : leA (.val v) y = leA0 (.val v) y := rfl
@[go_sem] theorem leT_val {v : Value} {y : AV} : leT (.val v) y = leA (.val v) y := rfl
@[go_sem] theorem AV_plain_any : AV.plain (.any) = false := rfl
@[go_sem] theorem AV_tree_any : AV.tree (.any) = false := rfl
@[go_sem] theorem AV_tree_nel : AV.tree (.nel) = true := rfl
@[go_sem] theorem leA_nel {y : AV} : leA (.nel) y = leA0 (.nel) y := rfl
@[go_sem] theorem leT_nel {y : AV} : leT (.nel) y = leA (.nel) y := rfl
@[go_sem] theorem leA0_nelisl {b : Nat} {m : List (List AV)} : leA0 .nel (.isl b m) = (m = []) := rfl
@[go_sem] theorem AV_plain_zsl : AV.plain (.zsl) = true := rfl
@[go_sem] theorem AV_tree_zsl : AV.tree (.zsl) = true := rfl
@[go_sem] theorem leA_zsl {y : AV} : leA (.zsl) y = leA0 (.zsl) y := rfl
@[go_sem] theorem leT_zsl {y : AV} : leT (.zsl) y = leA (.zsl) y := rfl
@[go_sem] theorem AV_plain_isl {es : _} {l : _} : AV.plain (.isl es l) = true := rfl
@[go_sem] theorem AV_tree_isl {es : _} {l : _} : AV.tree (.isl es l) = true := rfl
@[go_sem] theorem leA0_isl {es : _} {l : _} {y : AV} : leA0 (.isl es l) y = ((.isl es l) = y) := rfl
@[go_sem] theorem leA_isl {es : _} {l : _} {y : AV} : leA (.isl es l) y = leA0 (.isl es l) y := rfl
@[go_sem] theorem leT_isl {es : _} {l : _} {y : AV} : leT (.isl es l) y = leA (.isl es l) y := rfl
@[go_sem] theorem AV_plain_osl {es : _} {l : _} : AV.plain (.osl es l) = false := rfl
@[go_sem] theorem AV_tree_osl {es : _} {l : _} : AV.tree (.osl es l) = true := rfl
@[go_sem] theorem leA_osl {es : _} {l : _} {y : AV} : leA (.osl es l) y = leA0 (.osl es l) y := rfl
@[go_sem] theorem leT_osl {es : _} {l : _} {y : AV} : leT (.osl es l) y = leA (.osl es l) y := rfl
@[go_sem] theorem AV_plain_ip {l : _} : AV.plain (.ip l) = true := rfl
@[go_sem] theorem AV_tree_ip {l : _} : AV.tree (.ip l) = true := rfl
@[go_sem] theorem leA0_ip {l : _} {y : AV} : leA0 (.ip l) y = ((.ip l) = y) := rfl
@[go_sem] theorem leA_ip {l : _} {y : AV} : leA (.ip l) y = leA0 (.ip l) y := rfl
@[go_sem] theorem leT_ip {l : _} {y : AV} : leT (.ip l) y = leA (.ip l) y := rfl
@[go_sem] theorem AV_plain_op {l : _} : AV.plain (.op l) = false := rfl
@[go_sem] theorem AV_tree_op {l : _} : AV.tree (.op l) = true := rfl
@[go_sem] theorem leA0_op {l : _} {y : AV} : leA0 (.op l) y = ((.op l) = y) := rfl
@[go_sem] theorem leA_op {l : _} {y : AV} : leA (.op l) y = leA0 (.op l) y := rfl
@[go_sem] theorem leT_op {l : _} {y : AV} : leT (.op l) y = leA (.op l) y := rfl
@[go_sem] theorem AV_plain_ptr {a : _} {b : _} {c : _} {d : _} : AV.plain (.ptr a b c d) = true := rfl
@[go_sem] theorem AV_tree_ptr {a : _} {b : _} {c : _} {d : _} : AV.tree (.ptr a b c d) = false := rfl
@[go_sem] theorem leA0_ptr {a : _} {b : _} {c : _} {d : _} {y : AV} : leA0 (.ptr a b c d) y = ((.ptr a b c d) = y) := rfl
@[go_sem] theorem leA_ptr {a : _} {b : _} {c : _} {d : _} {y : AV} : leA (.ptr a b c d) y = leA0 (.ptr a b c d) y := rfl
@[go_sem] theorem leT_ptr {a : _} {b : _} {c : _} {d : _} {y : AV} : leT (.ptr a b c d) y = leA (.ptr a b c d) y := rfl
@[go_sem] theorem AV_plain_sl {a : _} {b : _} {c : _} {d : _} : AV.plain (.sl a b c d) = true := rfl
@[go_sem] theorem AV_tree_sl {a : _} {b : _} {c : _} {d : _} : AV.tree (.sl a b c d) = false := rfl
@[go_sem] theorem leA0_sl {a : _} {b : _} {c : _} {d : _} {y : AV} : leA0 (.sl a b c d) y = ((.sl a b c d) = y) := rfl
@[go_sem] theorem leA_sl {a : _} {b : _} {c : _} {d : _} {y : AV} : leA (.sl a b c d) y = leA0 (.sl a b c d) y := rfl
@[go_sem] theorem leT_sl {a : _} {b : _} {c : _} {d : _} {y : AV} : leT (.sl a b c d) y = leA (.sl a b c d) y := rfl
@[go_sem] theorem AV_plain_fn {f : _} {c : _} : AV.plain (.fn f c) = true := rfl
@[go_sem] theorem AV_tree_fn {f : _} {c : _} : AV.tree (.fn f c) = false := rfl
@[go_sem] theorem leA0_fn {f : _} {c : _} {y : AV} : leA0 (.fn f c) y = ((.fn f c) = y) := rfl
@[go_sem] theorem leA_fn {f : _} {c : _} {y : AV} : leA (.fn f c) y = leA0 (.fn f c) y := rfl
@[go_sem] theorem leT_fn {f : _} {c : _} {y : AV} : leT (.fn f c) y = leA (.fn f c) y := rfl
@[go_sem] theorem AV_plain_agg {c : _} : AV.plain (.agg c) = false := rfl
@[go_sem] theorem AV_tree_agg {c : _} : AV.tree (.agg c) = false := rfl
@[go_sem] theorem leA0_agg {c : _} {y : AV} : leA0 (.agg c) y = ((.agg c) = y) := rfl
@[go_sem] theorem leT_agg {c : _} {y : AV} : leT (.agg c) y = leA (.agg c) y := rfl
@[go_sem] theorem AV_plain_tup {c : _} : AV.plain (.tup c) = false := rfl
@[go_sem] theorem AV_tree_tup {c : _} : AV.tree (.tup c) = false := rfl
@[go_sem] theorem leA0_tup {c : _} {y : AV} : leA0 (.tup c) y = ((.tup c) = y) := rfl
@[go_sem] theorem leA_tup {c : _} {y : AV} : leA (.tup c) y = leA0 (.tup c) y := rfl
@[go_sem] theorem AV_plain_gate {e : _} {x : _} : AV.plain (.gate e x) = false := rfl
@[go_sem] theorem AV_tree_gate {e : _} {x : _} : AV.tree (.gate e x) = false := rfl
@[go_sem] theorem leA0_gate {e : _} {x : _} {y : AV} : leA0 (.gate e x) y = ((.gate e x) = y) := rfl
@[go_sem] theorem leA_gate {e : _} {x : _} {y : AV} : leA (.gate e x) y = leA0 (.gate e x) y := rfl
@[go_sem] theorem leT_gate {e : _} {x : _} {y : AV} : leT (.gate e x) y = leA (.gate e x) y := rfl
@[go_sem] theorem leA_aggagg {c d : List AV} : leA (.agg c) (.agg d) = leL c d := rfl
@[go_sem] theorem leT_tuptup {c d : List AV} : leT (.tup c) (.tup d) = leLL c d := rfl
@[go_sem] theorem leA0_oslisl {a b : Nat} {l m : List (List AV)} : leA0 (.osl a l) (.isl b m) = (a = b ∧ l = [] ∧ m = []) := rfl
@[go_sem] theorem leA0_oslosl {a b : Nat} {l m : List (List AV)} : leA0 (.osl a l) (.osl b m) = (AV.osl a l = .osl b m) := rfl
@[go_sem] theorem leA0_nilsisl {b : Nat} {m : List (List AV)} : leA0 .nils (.isl b m) = (m = []) := rfl
@[go_sem] theorem leA0_nilsnils : leA0 .nils .nils = True := by simp [leA0]
@[go_sem] theorem leA0_zslisl {b : Nat} {m : List (List AV)} : leA0 .zsl (.isl b m) = (m = []) := rfl
@[go_sem] theorem leA0_zslzsl : leA0 .zsl .zsl = True := by simp [leA0]
attribute [go_sem low] Way_t Way_f
attribute [go_sem] brkL hasS exF
attribute [go_sem] kOf keys Eff.outIds Lab.down
attribute [go_sem] obsN obsA rowIds Way_tt Way_ff Way_tf Way_ft Chk_false opsGo opRun gd callIn opEff obF evs Op.operands Call.operands opA dstOk evalP wrD obsOf ofV rdOf idsL AV.ids nodesOf St.slot St.obj look Eff.apply grdE enumFrom keepS compact gcO St.keep St.keep0
 slotIds objIds oids Node.ids St.ids
 tkind TKind.agg intBin strBin intsA binA unA zerosA indexA esize indexAddrA fieldOf fieldAddrA fieldA loadA extractA lenA capA appNilA encB byteOfCell decB intOf sliceA convA AV.cellsA okCell isCells fillA placeOf allFields buildA minmaxA
 liveA takeOpt elemsA newA storeA appA unown unownL unownLL AV.ownd owndL owndLL strip cmpb findP apart frzAll 
 finOk leL leLL mutsF resAll resA frzAll frz frzL frz0 roOf isFn frzAllC frzC lnsC lnsL frzBL frzB boxIds boxF roC obsC clearA tupOf callOut thw thw1 thw0 thwL thwT gbAll gb gb0 gbL
end Go.AM
namespace Go.AM
open Go.ChangeShapes Go.WideShapes Go.RowKit
structure Kept (W W' : World) : Prop where
 size : W.heap.size ≤ W'.heap.size
 os : W'.os = W.os
 out : W'.output = W.output
 heap : ∀ b, b < W.heap.size → W'.heap[b]? = W.heap[b]?
theorem Kept.but {W W' : World} (h : Kept W W') (may : MemPlace → Prop) : W.keptBut W' may := by
 refine ⟨h.os, h.out, fun i hi => ?_⟩
 rw [h.heap i hi]
 split
 ·rename_i h1 h2
  rw [h1] at h2; cases h2
  exact ⟨rfl, rfl, rfl, fun _ _ => rfl⟩
 ·rename_i h1 h2
  rw [h1] at h2; cases h2
  exact .inr ⟨rfl, rfl⟩
 ·rfl
theorem Kept.frozen {W W' : World} (h : Kept W W') (a : Addr) (ha : a.block < W.heap.size) : W'.frozen? a = W.frozen? a := by
 unfold World.frozen?
 rw [h.heap _ ha]
theorem law_calls {P : Program} {f : FuncId} {args : List AV} (h : DC P f args (.bool true) []) {w : World} {vals : Array Value} (hl : args.length = vals.toList.length)
  (hv : ∀ (k : Nat) x v, args[k]? = some x → vals.toList[k]? = some v → I w (fun _ => none) x v) :
  Calls P f vals w fun e w' => e = .returned (.bool true) ∧ Kept w w' := by
 refine (h.calls w (fun _ => none) vals.toList hl (fun k x v hx hv' => .imm _ _ _ (hv k x v hx hv')) (by simp)).mono ?_
 rintro e w' ⟨v, lab', rfl, hr, _, hext, _⟩
 have : v = .bool true := by
  cases hr with
  | imm _ _ _ hi => exact hi.inv_bool
 subst this
 exact ⟨rfl, hext.size, hext.os, hext.out, fun b hb => (hext.kept b hb trivial).2⟩
section
variable {H : Type} {enc : TypeId × Value → H} {P : Program}
theorem post_same {f : Func} {s : ChangeSpec} {apart fresh handsOn again : Bool} {W W' : World} {args : Array Value} {v : Value} {ds gs : List (DataW H)} {before pa pv : List MemPlace}
  (hW : DataW.Whole enc P f.params.toList s.vars apart W args.toList ds gs before)
  (hres : ∀ (b : Nat) (sp : Nat → Bool) (hd : Bool), DataW.TrodAll enc P W' b sp hd f.resultTypes.toList (v.resultList f.resultTypes.size) (s.fn H (ds ++ gs)).results [])
  (hargs : ∀ sp : Nat → Bool, (∀ p ∈ before, sp p.block = true) → DataW.TrodAll enc P W' 0 sp true f.params.toList args.toList (s.fn H (ds ++ gs)).args pa)
  (hvars : ∀ sp : Nat → Bool, (∀ p ∈ before, sp p.block = true) → DataW.TrodVars enc P W' sp s.vars (s.fn H (ds ++ gs)).vars pv)
  (hps : before = pa ++ pv) (hk : Kept W W')
  (hok : ∀ (j : Nat) (t : TypeId) (r : Value), f.resultTypes[j]? = some t → (v.resultList f.resultTypes.size)[j]? = some r → Value.okWide P W' .any 0 t r) :
  s.post enc P f apart fresh handsOn again W args v W' := by
 have hold : ∀ p ∈ before, (fun b => decide (b < W.heap.size)) p.block = true := fun p hp => by simpa using hW.lt p hp
 have hlt := hW.lt
 refine ⟨ds, gs, before, [], pa, pv, hW, hres _ _ _, hargs _ hold, hvars _ hold, hk.but _, fun _ => ?_⟩
 obtain ⟨_, _, _, _, _, hz, hn⟩ := hW
 refine ⟨hok, _, _, ([] ++ pa) ++ pv, ⟨[] ++ pa, pv, trodAll_append (hargs _ (fun _ _ => rfl)) (hres _ _ _), hvars _ (fun _ _ => rfl), rfl, ?_, ?_⟩, ?_⟩
 ·intro b off hp
  have hp' : MemPlace.cell b off ∈ before := by rw [hps]; simpa using hp
  rw [hk.frozen ⟨b, off, none⟩ (hlt _ hp')]
  exact hz b off hp'
 ·intro ha
  have := hn ha
  rw [hps] at this
  simpa using this
 ·intro p hp _
  rw [hps]
  simpa using hp
end
theorem I.ofString {w : World} {lab : Labs} (a : ByteArray) : I w lab (.str a.data.toList) (.string a) := by
 have := I.str (w := w) (lab := lab) a.data.toList
 simpa using this
end Go.AM
namespace Go.AM
section
variable {P : Program} {st : St} {K : Exit → St → Prop}
theorem AW.ghost {c : Code} {st' : St} (hg : ∀ w0 lab0 a w, Rep w0 lab0 st a w → Rep w0 lab0 st' a w) (h : AW P c st' K) : AW P c st K :=
 ⟨fun w0 lab0 a w hR => h.go w0 lab0 a w (hg _ _ _ _ hR)⟩
def labT (lab : Labs) (id i j id' : Nat) : Labs := fun b => match lab b with
 | some (.obj k, p :: q) => if k = id ∧ p = (i, j) then some (.obj id', q) else some (.obj k, p :: q)
 | l => l
theorem labT_hit {lab : Labs} {id i j id' b : Nat} {q : List (Nat × Nat)} (h : lab b = some (.obj id, (i, j) :: q)) : labT lab id i j id' b = some (.obj id', q) := by simp [labT, h]
theorem labT_miss {lab : Labs} {id i j id' b : Nat} (h : ∀ q, lab b ≠ some (.obj id, (i, j) :: q)) : labT lab id i j id' b = lab b := by
 unfold labT
 split
 ·rename_i k p q hb
  split
  ·rename_i hk
   obtain ⟨rfl, rfl⟩ := hk
   exact absurd hb (h q)
  ·rw [hb]
 ·rfl
theorem set_get {α : Type} {l : List α} {i k : Nat} {x y : α} (h : (l.set i x)[k]? = some y) : (k = i ∧ y = x ∧ i < l.length) ∨ (k ≠ i ∧ l[k]? = some y) := by
 rw [List.getElem?_set] at h
 split at h
 ·rename_i e
  split at h
  ·cases h; exact Or.inl ⟨e.symm, rfl, by assumption⟩
  ·cases h
 ·rename_i e; exact Or.inr ⟨fun h => e h.symm, h⟩
theorem Rep.thaw {w0 : World} {lab0 : Labs} {a : Act} {w : World} (h : Rep w0 lab0 st a w) {id i j id' es : Nat} {nd : Node} {c : List AV} {l : List (List AV)} (h1 : st.obj id = some nd) (h2 : nd.l[i]? = some c)
  (h3 : c[j]? = some (.osl es l)) (h4 : st.obj id' = none) (h5 : id' ∉ st.ids) :
  Rep w0 lab0 ⟨st.n, st.slots, (id', some ⟨es, l⟩) :: (id, some ⟨nd.es, nd.l.set i (c.set j (.sl id' es 0 l.length))⟩) :: st.objs⟩ a w := by
 obtain ⟨lab, loc, hR⟩ := h
 obtain ⟨b, base, hl, ho⟩ := hR.objs id nd h1
 obtain ⟨v, hv, hc⟩ := ho.cells i c j _ h2 h3
 have hne : id ≠ id' := by rintro rfl; rw [h1] at h4; cases h4
 have hT : T w lab (.obj id, [(i, j)]) (.osl es l) v := by
  rcases hc with hc | hc
  ·cases hc with | imm _ _ h => cases h
  ·exact hc
 obtain ⟨b2, base2, cap, rfl, hcap, hblk, hN⟩ := NodeAt.osl hT
 have hlab : lab b = some (.obj id, []) := ho.hlab
 refine ⟨labT lab id i j id', fun k => if k = id' then some (b2, base2) else loc k, ?_⟩
 have hloc : ∀ k, k ∈ st.ids → (if k = id' then some (b2, base2) else loc k) = loc k := fun k hk => by rw [if_neg]; rintro rfl; exact h5 hk
 have hstill : ∀ b, still (lab b) → labT lab id i j id' b = lab b := fun b hs => labT_miss fun q hq => by rw [hq] at hs; exact hs.elim
 have hext : Ext lab w (labT lab id i j id') w := ⟨Nat.le_refl _, rfl, rfl, fun b _ hs => ⟨hstill b hs, rfl⟩, fun _ _ h => h⟩
 have := RepL.step (lab' := labT lab id i j id') (loc' := fun k => if k = id' then some (b2, base2) else loc k) hR
  { up := [(id', some ⟨es, l⟩), (id, some ⟨nd.es, nd.l.set i (c.set j (.sl id' es 0 l.length))⟩)] } (a' := a) (w' := w) rfl hR.defers hext (fun _ _ => rfl) (by intro s x hx; cases hx) ?_ ?_ ?_ ?_ ?_
 ·exact this
 ·intro k nk bk basek hk hu hlk
  simp only [look] at hu
  split at hu <;> first | (cases hu; done) | skip
  rename_i hk1
  split at hu <;> first | (cases hu; done) | skip
  rename_i hk2
  refine ⟨by rw [if_neg hk1]; exact hlk, fun b' q _ hb' => ⟨labT_miss fun q' hq' => ?_, rfl⟩⟩
  rw [hb'] at hq'; simp at hq'; exact hk2 hq'.1
 ·intro k nk hk
  simp only [look] at hk
  split at hk
  ·rename_i e; subst e
   simp at hk; subst hk
   refine ⟨b2, base2, by simp, labT_hit hN.hlab, hN.blk, hN.es, ?_⟩
   intro i2 c2 j2 x hi hj
   obtain ⟨v, hv, hx⟩ := hN.cells i2 c2 j2 x hi hj
   refine ⟨v, hv, Or.inr (hx.move (fun b _ hb => ⟨by rw [hstill b (by rw [hb]; trivial)]; exact hb, rfl⟩) ?_ (Nat.le_refl _))⟩
   intro b' q _ hq
   exact ⟨labT_hit (by rw [hq]; rfl), rfl⟩
  ·split at hk <;> first | (cases hk; done) | skip
   rename_i hk1 e; subst e
   simp at hk; subst hk
   refine ⟨b, base, by simp only [if_neg hk1]; exact hl, by rw [labT_miss (by rw [hlab]; simp)]; exact hlab, by simpa using ho.blk, ?_, ?_⟩
   ·intro x hx
    rcases List.mem_or_eq_of_mem_set hx with hx | rfl
    ·exact ho.es x hx
    ·rw [List.length_set]; exact ho.es c (List.mem_of_getElem? h2)
   ·intro i2 c2 j2 x hi hj
    have hold : ∀ (c3 : List AV), nd.l[i2]? = some c3 → c3[j2]? = some x → (i2, j2) ≠ (i, j) → ∃ v, w.cell? ⟨b, base + i2 * nd.es + j2, none⟩ = some v ∧ Cell w (labT lab k i j id') (fun k => if k = id' then some (b2, base2) else loc k) (.obj k, [(i2, j2)]) x v := by
     intro c3 hi hj hne2
     obtain ⟨v, hv, hx⟩ := ho.cells i2 c3 j2 x hi hj
     refine ⟨v, hv, ?_⟩
     rcases hx with hx | hx
     ·exact Or.inl (hx.mono (fun b _ hb => ⟨by rw [hstill b (by rw [hb]; trivial)]; exact hb, rfl⟩) (Nat.le_refl _) fun m hm bb bs hb => ⟨by rw [hloc m (ids_of_obj h1 (ids_of_cell hi hj hm))] at hb; exact hb, fun _ h => h⟩)
     ·refine Or.inr (hx.move (fun b _ hb => ⟨by rw [hstill b (by rw [hb]; trivial)]; exact hb, rfl⟩) ?_ (Nat.le_refl _))
      intro b' q _ hq
      refine ⟨?_, rfl⟩
      rw [labT_miss, hq]
      intro q' hq'; rw [hq] at hq'; simp only [Lab.app, List.cons_append, List.nil_append, Option.some.injEq, Prod.mk.injEq, List.cons.injEq] at hq'
      exact hne2 (Prod.ext hq'.2.1.1 hq'.2.1.2)
    rcases set_get hi with ⟨rfl, rfl, hlt⟩ | ⟨hne2, hi⟩
    ·rcases set_get hj with ⟨rfl, rfl, hlt⟩ | ⟨hne3, hj⟩
     ·refine ⟨_, hv, Or.inl (.sl _ _ _ _ _ fun b' base' hb => ?_)⟩
      simp at hb
      obtain ⟨rfl, rfl⟩ := hb
      exact ⟨_, cap, rfl, hcap, Or.inr (by simp), by simpa using hblk⟩
     ·exact hold c h2 hj (by intro e; cases e; exact hne3 rfl)
    ·exact hold c2 hi hj (by intro e; cases e; exact hne2 rfl)
 ·intro k hk
  have hk' : k ≠ id' ∧ st.obj k = none := by
   rcases hk with hk | ⟨hk, h0⟩
   ·simp only [look] at hk
    split at hk <;> first | (cases hk; done) | skip
    split at hk <;> cases hk
   ·simp only [look] at hk
    split at hk <;> first | (cases hk; done) | skip
    exact ⟨by assumption, h0⟩
  simp only [if_neg hk'.1]
  exact hR.dead k hk'.2
 ·intro b' hb'
  apply hR.fresh
  intro e; apply hb'
  simp [labT, e]
 ·intro k hk bk basek hb
  rw [hloc k hk] at hb; exact hb
theorem AW.thaw {code : Code} (id i j id' : Nat) {es : Nat} {nd : Node} {c : List AV} {l : List (List AV)} (h1 : st.obj id = some nd) (h2 : nd.l[i]? = some c)
  (h3 : c[j]? = some (.osl es l)) (h45 : st.obj id' = none ∧ id' ∉ st.ids) (h : AW P code ⟨st.n, st.slots, (id', some ⟨es, l⟩) :: (id, some ⟨nd.es, nd.l.set i (c.set j (.sl id' es 0 l.length))⟩) :: st.objs⟩ K) : AW P code st K :=
 AW.ghost (fun _ _ _ _ hR => hR.thaw h1 h2 h3 h45.1 h45.2) h
def labFo (lab : Labs) (id i j id' : Nat) : Labs := fun b => match lab b with
 | some (.obj k, q) => if k = id' then some (.obj id, (i, j) :: q) else some (.obj k, q)
 | l => l
theorem labFo_hit {lab : Labs} {id i j id' b : Nat} {q : List (Nat × Nat)} (h : lab b = some (.obj id', q)) : labFo lab id i j id' b = some (.obj id, (i, j) :: q) := by simp [labFo, h]
theorem labFo_miss {lab : Labs} {id i j id' b : Nat} (h : ∀ q, lab b ≠ some (.obj id', q)) : labFo lab id i j id' b = lab b := by
 unfold labFo
 split
 ·rename_i k q hb
  split
  ·rename_i hk
   subst hk
   exact absurd hb (h q)
  ·rw [hb]
 ·rfl
theorem Rep.fold {w0 : World} {lab0 : Labs} {a : Act} {w : World} (h : Rep w0 lab0 st a w) {id i j id' es : Nat} {nd : Node} {c : List AV} {l : List (List AV)} (h1 : st.obj id = some nd) (h2 : nd.l[i]? = some c)
  (h3 : c[j]? = some (.sl id' es 0 l.length)) (h4 : st.obj id' = some ⟨es, l⟩) (h5 : id ≠ id') (h6 : ∀ c ∈ l, ∀ x ∈ c, AV.tree x = true) :
  Rep w0 lab0 ⟨st.n, st.slots, (id', none) :: (id, some ⟨nd.es, nd.l.set i (c.set j (.osl es l))⟩) :: st.objs⟩ a w := by
 obtain ⟨lab, loc, hR⟩ := h
 obtain ⟨b, base, hl, ho⟩ := hR.objs id nd h1
 obtain ⟨b2, base2, hl2, ho2⟩ := hR.objs id' _ h4
 obtain ⟨v, hv, hc⟩ := ho.cells i c j _ h2 h3
 have hV : V w lab loc (.sl id' es 0 l.length) v := by
  rcases hc with hc | hc
  ·exact hc
  ·cases hc with | imm _ _ _ h => cases h
 obtain ⟨a0, cap, rfl, hcap, ha, hblk⟩ := hV.inv_sl hl2
 have ha : a0 = ⟨b2, base2, none⟩ := by rcases ha with h | h; omega; simpa using h
 subst ha
 have hlab : lab b = some (.obj id, []) := ho.hlab
 have hstill : ∀ b, still (lab b) → labFo lab id i j id' b = lab b := fun b hs => labFo_miss fun q hq => by rw [hq] at hs; exact hs.elim
 have himm : ∀ b, b < w.heap.size → lab b = none → labFo lab id i j id' b = none ∧ w.heap[b]? = w.heap[b]? := fun b _ hb => ⟨by rw [hstill b (by rw [hb]; trivial)]; exact hb, rfl⟩
 have hloc : ∀ k bb, (if k = id' then none else loc k) = some bb → loc k = some bb := fun k bb hb => by split at hb; cases hb; exact hb
 have hext : Ext lab w (labFo lab id i j id') w := ⟨Nat.le_refl _, rfl, rfl, fun b _ hs => ⟨hstill b hs, rfl⟩, fun _ _ h => h⟩
 refine ⟨labFo lab id i j id', fun k => if k = id' then none else loc k, ?_⟩
 have := RepL.step (lab' := labFo lab id i j id') (loc' := fun k => if k = id' then none else loc k) hR
  { up := [(id', none), (id, some ⟨nd.es, nd.l.set i (c.set j (.osl es l))⟩)] } (a' := a) (w' := w) rfl hR.defers hext (fun _ _ => rfl) (by intro s x hx; cases hx) ?_ ?_ ?_ ?_ ?_
 ·exact this
 ·intro k nk bk basek hk hu hlk
  simp only [look] at hu
  split at hu <;> first | (cases hu; done) | skip
  rename_i hk1
  split at hu <;> first | (cases hu; done) | skip
  rename_i hk2
  refine ⟨by rw [if_neg hk1]; exact hlk, fun b' q _ hb' => ⟨labFo_miss fun q' hq' => ?_, rfl⟩⟩
  rw [hb'] at hq'; simp at hq'; exact hk1 hq'.1
 ·intro k nk hk
  simp only [look] at hk
  split at hk
  ·simp at hk
  ·split at hk <;> first | (cases hk; done) | skip
   rename_i hk1 e; subst e
   simp at hk; subst hk
   refine ⟨b, base, by simp only [if_neg hk1]; exact hl, by rw [labFo_miss (by rw [hlab]; simp; exact fun h => absurd h hk1)]; exact hlab, by simpa using ho.blk, ?_, ?_⟩
   ·intro x hx
    rcases List.mem_or_eq_of_mem_set hx with hx | rfl
    ·exact ho.es x hx
    ·rw [List.length_set]; exact ho.es c (List.mem_of_getElem? h2)
   ·intro i2 c2 j2 x hi hj
    have hold : ∀ (c3 : List AV), nd.l[i2]? = some c3 → c3[j2]? = some x → ∃ v, w.cell? ⟨b, base + i2 * nd.es + j2, none⟩ = some v ∧ Cell w (labFo lab k i j id') (fun k => if k = id' then none else loc k) (.obj k, [(i2, j2)]) x v := by
     intro c3 hi hj
     obtain ⟨v, hv, hx⟩ := ho.cells i2 c3 j2 x hi hj
     refine ⟨v, hv, ?_⟩
     rcases hx with hx | hx
     ·exact Or.inl (hx.mono himm (Nat.le_refl _) fun m hm bb bs hb => ⟨hloc m _ hb, fun _ h => h⟩)
     ·refine Or.inr (hx.move himm ?_ (Nat.le_refl _))
      intro b' q _ hq
      refine ⟨?_, rfl⟩
      rw [labFo_miss, hq]
      intro q' hq'; rw [hq] at hq'; simp only [Lab.app, Option.some.injEq, Prod.mk.injEq, Root.obj.injEq] at hq'
      exact hk1 hq'.1
    rcases set_get hi with ⟨rfl, rfl, hlt⟩ | ⟨hne2, hi⟩
    ·rcases set_get hj with ⟨rfl, rfl, hlt⟩ | ⟨hne3, hj⟩
     ·refine ⟨_, hv, Or.inr ?_⟩
      have hcl := ho2.cells
      have hch : ∃ vals : Nat → Nat → Value, ∀ i c j x, l[i]? = some c → c[j]? = some x → w.cell? ⟨b2, base2 + i * es + j, none⟩ = some (vals i j) ∧ Cell w lab loc (.obj id', [(i, j)]) x (vals i j) := by
       refine ⟨fun i j => (w.cell? ⟨b2, base2 + i * es + j, none⟩).getD undef, ?_⟩
       intro i c j x hi hj
       obtain ⟨v, hv, hx⟩ := hcl i c j x hi hj
       simp only at hv
       exact ⟨by simp only [hv, Option.getD_some], by simp only [hv, Option.getD_some]; exact hx⟩
      obtain ⟨vals, hvals⟩ := hch
      have hlen : ∀ i, i < l.length → ∃ c, l[i]? = some c ∧ c.length = es := fun i hi => ⟨l[i], List.getElem?_eq_getElem hi, ho2.es _ (List.getElem_mem hi)⟩
      refine .osl _ es l b2 base2 cap vals (labFo_hit ho2.hlab) (by simpa using hblk) hcap ho2.es h6 ?_ ?_
      ·intro i3 j3 hi3 hj3
       obtain ⟨c3, h7, h8⟩ := hlen i3 hi3
       exact (hvals i3 c3 j3 _ h7 (List.getElem?_eq_getElem (by omega))).1
      ·intro i3 c3 j3 x3 h7 h8
       have h9 := ((hvals i3 c3 j3 x3 h7 h8).2).tree (h6 c3 (List.mem_of_getElem? h7) x3 (List.mem_of_getElem? h8))
       refine h9.move himm ?_ (Nat.le_refl _)
       intro b' q _ hq
       exact ⟨by rw [labFo_hit hq]; simp [Lab.app, Lab.down], rfl⟩
     ·exact hold c h2 hj
    ·exact hold c2 hi hj
 ·intro k hk
  by_cases e : k = id'
  ·simp only [if_pos e]
  ·simp only [if_neg e]
   rcases hk with hk | ⟨hk, h0⟩
   ·simp only [look, if_neg e] at hk
    split at hk <;> cases hk
   ·exact hR.dead k h0
 ·intro b' hb'
  apply hR.fresh
  intro e; apply hb'
  simp [labFo, e]
 ·intro k hk bk basek hb
  exact hloc k _ hb
theorem AW.fold {code : Code} (id i j id' : Nat) {es n : Nat} {nd : Node} {c : List AV} {l : List (List AV)} (h1 : st.obj id = some nd) (h2 : nd.l[i]? = some c)
  (h4 : st.obj id' = some ⟨es, l⟩) (h3 : c[j]? = some (.sl id' es 0 n)) (hn : n = l.length) (h5 : id ≠ id') (h6 : ∀ c ∈ l, ∀ x ∈ c, AV.tree x = true)
  (h : AW P code ⟨st.n, st.slots, (id', none) :: (id, some ⟨nd.es, nd.l.set i (c.set j (.osl es l))⟩) :: st.objs⟩ K) : AW P code st K :=
 AW.ghost (fun _ _ _ _ hR => hR.fold h1 h2 (by rw [h3, hn]) h4 h5 h6) h
mutual
def AV.ren (a b : Nat) : AV → AV
 | .ptr id es i j => .ptr (if id = a then b else id) es i j
 | .sl id es i n => .sl (if id = a then b else id) es i n
 | .fn f cs => .fn f (renL a b cs)
 | .agg cs => .agg (renL a b cs)
 | .tup cs => .tup (renL a b cs)
 | .gate e x => .gate e (x.ren a b)
 | .undef => .undef
 | .bool x => .bool x
 | .int k n => .int k n
 | .str s => .str s
 | .nilp => .nilp
 | .nils => .nils
 | .zsl => .zsl
 | .nel => .nel
 | .lns n => .lns n
 | .any => .any
 | .val v => .val v
 | .isl es l => .isl es l
 | .osl es l => .osl es l
 | .ip l => .ip l
 | .op l => .op l
def renL (a b : Nat) : List AV → List AV
 | [] => []
 | x :: xs => x.ren a b :: renL a b xs
end
theorem renL_eq (a b : Nat) (l : List AV) : renL a b l = l.map (AV.ren a b) := by induction l with | nil => rfl | cons x l ih => simp [renL, ih]
theorem I.ren {w : World} {lab : Labs} {x : AV} {v : Value} (h : I w lab x v) (a b : Nat) : x.ren a b = x := by
 have key : ∀ (cs : List AV) (vs : List Value), cs.length = vs.length → (∀ (j : Nat) x y, cs[j]? = some x → vs[j]? = some y → x.ren a b = x) → renL a b cs = cs := by
  intro cs vs hl ih
  rw [renL_eq]
  apply List.ext_getElem?
  intro j
  rw [List.getElem?_map]
  cases hj : cs[j]? with
  | none => rfl
  | some x =>
   have : j < vs.length := by rw [← hl]; exact (List.getElem?_eq_some_iff.1 hj).1
   simp [ih j x _ hj (List.getElem?_eq_getElem this)]
 induction h with
 | fn f cs vs hl _ ih => simp only [AV.ren]; rw [key cs vs hl ih]
 | agg cs vs hl _ ih => simp only [AV.ren]; rw [key cs vs hl ih]
 | tup cs vs hl _ ih => simp only [AV.ren]; rw [key cs vs hl ih]
 | _ => rfl
theorem V.ren {w : World} {lab lab' : Labs} {loc : Locs} {x : AV} {v : Value} (h : V w lab loc x v) {a b : Nat} (hlab : ∀ c, c < w.heap.size → lab c = none → lab' c = none) (hb : b ∉ x.ids) :
  V w lab' (fun k => if k = b then loc a else if k = a then none else loc k) (x.ren a b) v := by
 have key : ∀ id, id ≠ b → ∀ p, (if (if id = a then b else id) = b then loc a else if (if id = a then b else id) = a then none else loc (if id = a then b else id)) = some p → loc id = some p := by
  intro id hid p hp
  by_cases e : id = a
  ·subst e; simpa using hp
  ·simpa [e, hid] using hp
 have sub : ∀ (cs : List AV) (vs : List Value), cs.length = vs.length → b ∉ idsL cs → (∀ (j : Nat) x y, cs[j]? = some x → vs[j]? = some y → b ∉ x.ids → V w lab' (fun k => if k = b then loc a else if k = a then none else loc k) (x.ren a b) y) →
   (renL a b cs).length = vs.length ∧ ∀ (j : Nat) x y, (renL a b cs)[j]? = some x → vs[j]? = some y → V w lab' (fun k => if k = b then loc a else if k = a then none else loc k) x y := by
  intro cs vs hl hnb ih
  rw [renL_eq]
  refine ⟨by simp [hl], ?_⟩
  intro j x y hx hy
  rw [List.getElem?_map] at hx
  cases hj : cs[j]? with
  | none => rw [hj] at hx; cases hx
  | some z =>
   rw [hj] at hx; cases hx
   exact ih j z y hj hy fun h => hnb (mem_idsL (List.mem_of_getElem? hj) h)
 induction h with
 | imm x v h => rw [h.ren]; exact .imm _ _ (h.mono (fun c hc hl => ⟨hlab c hc hl, rfl⟩) (Nat.le_refl _))
 | undef v => exact .undef v
 | ptr id es i j v h =>
  simp only [AV.ids, List.mem_singleton] at hb
  exact .ptr _ _ _ _ _ fun bb base hh => h bb base (key id (fun e => hb e.symm) _ hh)
 | sl id es i len v h =>
  simp only [AV.ids, List.mem_singleton] at hb
  exact .sl _ _ _ _ _ fun bb base hh => h bb base (key id (fun e => hb e.symm) _ hh)
 | fn f cs vs hl _ ih =>
  obtain ⟨h1, h2⟩ := sub cs vs hl (by simpa [AV.ids] using hb) ih
  exact .fn f _ vs h1 h2
 | agg cs vs hl _ ih =>
  obtain ⟨h1, h2⟩ := sub cs vs hl (by simpa [AV.ids] using hb) ih
  exact .agg _ vs h1 h2
 | tup cs vs hl _ ih =>
  obtain ⟨h1, h2⟩ := sub cs vs hl (by simpa [AV.ids] using hb) ih
  exact .tup _ vs h1 h2
 | gate e x v _ ih => exact .gate e _ v fun he => ih he (by simpa [AV.ids] using hb)
def renS (a b : Nat) (l : List (Nat × AV)) : List (Nat × AV) := l.map fun p => (p.1, p.2.ren a b)
theorem look_renS {a b s : Nat} : ∀ {l : List (Nat × AV)}, look s (renS a b l) = (look s l).map (AV.ren a b) := by
 intro l
 induction l with
 | nil => rfl
 | cons p l ih =>
  simp only [renS, List.map_cons, look]
  split
  ·rfl
  ·exact ih
theorem Rep.rename {w0 : World} {lab0 : Labs} {ac : Act} {w : World} (h : Rep w0 lab0 st ac w) {a b : Nat} {nd : Node} (h1 : st.obj a = some nd) (h2 : st.obj b = none) (h3 : b ∉ st.ids) (h4 : a ∉ objIds st.objs) :
  Rep w0 lab0 ⟨st.n, renS a b st.slots, (b, some nd) :: (a, none) :: st.objs⟩ ac w := by
 obtain ⟨lab, loc, hR⟩ := h
 obtain ⟨bk, base, hl, ho⟩ := hR.objs a nd h1
 have hne : a ≠ b := by rintro rfl; rw [h1] at h2; cases h2
 have hstill : ∀ c, still (lab c) → labR lab a b c = lab c := fun c hs => labR_still hs
 have himm : ∀ c, c < w.heap.size → lab c = none → labR lab a b c = none ∧ w.heap[c]? = w.heap[c]? := fun c _ hc => ⟨labR_none hc, rfl⟩
 have hext : Ext lab w (labR lab a b) w := ⟨Nat.le_refl _, rfl, rfl, fun c _ hs => ⟨hstill c hs, rfl⟩, fun _ _ h => h⟩
 have hlocO : ∀ k, k ∈ objIds st.objs → ∀ bb, (if k = b then loc a else if k = a then none else loc k) = some bb → loc k = some bb := by
  intro k hk bb hb
  have hkb : k ≠ b := by rintro rfl; exact h3 (by simp only [St.ids, List.mem_append]; exact Or.inr hk)
  have hka : k ≠ a := by rintro rfl; exact h4 hk
  rw [if_neg hkb, if_neg hka] at hb; exact hb
 have hidO : ∀ {k : Nat} {nk : Node} {m : Nat}, st.obj k = some nk → m ∈ nk.ids → m ∈ objIds st.objs := by
  intro k nk m hk hm
  simp only [objIds, List.mem_flatMap]
  exact ⟨(k, some nk), look_mem (obj_look hk), hm⟩
 refine ⟨labR lab a b, fun k => if k = b then loc a else if k = a then none else loc k, hR.size, hR.defers, ?_, ?_, ?_, ?_, hR.ext.trans hext⟩
 ·intro s x hx
  simp only [St.slot] at hx
  rw [look_renS] at hx
  cases hy : look s st.slots with
  | none => rw [hy] at hx; cases hx
  | some y =>
   rw [hy] at hx; cases hx
   exact (hR.slots s y hy).ren (fun c hc hl => labR_none hl) (fun hm => h3 (ids_of_slot (st := st) (s := s) hy hm))
 ·intro k nk hk
  simp only [St.obj, look] at hk
  split at hk
  ·rename_i e; subst e
   simp at hk; subst hk
   refine ⟨bk, base, by simp [hl], labR_same ho.hlab, ho.blk, ho.es, ?_⟩
   intro i c j x hi hj
   obtain ⟨v, hv, hx⟩ := ho.cells i c j x hi hj
   refine ⟨v, hv, ?_⟩
   rcases hx with hx | hx
   ·exact Or.inl (hx.mono himm (Nat.le_refl _) fun m hm bb bs hb => ⟨hlocO m (hidO h1 (ids_of_cell hi hj hm)) _ hb, fun _ h => h⟩)
   ·refine Or.inr (hx.move himm ?_ (Nat.le_refl _))
    intro b' q _ hq
    exact ⟨labR_same hq, rfl⟩
  ·rename_i hkb
   split at hk
   ·simp at hk
   ·rename_i hka
    have hk' : st.obj k = some nk := hk
    obtain ⟨b2, base2, hl2, ho2⟩ := hR.objs k nk hk'
    refine ⟨b2, base2, by simp only [if_neg hkb, if_neg hka]; exact hl2, by rw [labR_other ho2.hlab hka]; exact ho2.hlab, ho2.blk, ho2.es, ?_⟩
    intro i c j x hi hj
    obtain ⟨v, hv, hx⟩ := ho2.cells i c j x hi hj
    refine ⟨v, hv, ?_⟩
    rcases hx with hx | hx
    ·exact Or.inl (hx.mono himm (Nat.le_refl _) fun m hm bb bs hb => ⟨hlocO m (hidO hk' (ids_of_cell hi hj hm)) _ hb, fun _ h => h⟩)
    ·refine Or.inr (hx.move himm ?_ (Nat.le_refl _))
     intro b' q _ hq
     exact ⟨by rw [labR_other hq hka]; exact hq, rfl⟩
 ·intro k hk
  simp only [St.obj, look] at hk
  split at hk
  ·simp at hk
  ·rename_i hkb
   simp only [if_neg hkb]
   split at hk
   ·rename_i hka; simp only [if_pos hka]
   ·rename_i hka; simp only [if_neg hka]; exact hR.dead k hk
 ·intro c hc
  exact hR.fresh c (labR_ne hc)
theorem AW.rename {code : Code} (a b : Nat) {nd : Node} (h1 : st.obj a = some nd) (h2 : st.obj b = none ∧ b ∉ st.ids) (h4 : a ∉ objIds st.objs)
  (h : AW P code ⟨st.n, renS a b st.slots, (b, some nd) :: (a, none) :: st.objs⟩ K) : AW P code st K :=
 AW.ghost (fun _ _ _ _ hR => hR.rename h1 h2.1 h2.2 h4) h
theorem Rep.slotLe {w0 : World} {lab0 : Labs} {ac : Act} {w : World} (h : Rep w0 lab0 st ac w) {s : Nat} {x y : AV} (h1 : st.slot s = some x) (h2 : leA x y) : Rep w0 lab0 ⟨st.n, (s, y) :: st.slots, st.objs⟩ ac w := by
 obtain ⟨lab, loc, hR⟩ := h
 refine ⟨lab, loc, hR.size, hR.defers, ?_, hR.objs, hR.dead, hR.fresh, hR.ext⟩
 intro s' z hz
 simp only [St.slot, look] at hz
 split at hz
 ·rename_i e; subst e; cases hz; exact (hR.slots _ _ h1).le h2
 ·exact hR.slots s' z hz
theorem AW.slotLe {code : Code} (s : Nat) {x : AV} (y : AV) (h1 : st.slot s = some x) (h2 : leA x y) (h : AW P code ⟨st.n, (s, y) :: st.slots, st.objs⟩ K) : AW P code st K :=
 AW.ghost (fun _ _ _ _ hR => hR.slotLe h1 h2) h
theorem Rep.cellLe {w0 : World} {lab0 : Labs} {ac : Act} {w : World} (h : Rep w0 lab0 st ac w) {id i j : Nat} {nd : Node} {c : List AV} {x y : AV} (h1 : st.obj id = some nd) (h2 : nd.l[i]? = some c) (h3 : c[j]? = some x) (h4 : leA0 x y) :
  Rep w0 lab0 ⟨st.n, st.slots, (id, some ⟨nd.es, nd.l.set i (c.set j y)⟩) :: st.objs⟩ ac w := by
 obtain ⟨lab, loc, hR⟩ := h
 refine ⟨lab, loc, hR.size, hR.defers, hR.slots, ?_, ?_, hR.fresh, hR.ext⟩
 ·intro k nk hk
  simp only [St.obj, look] at hk
  split at hk
  ·rename_i e; subst e
   simp at hk; subst hk
   obtain ⟨b, base, hl, ho⟩ := hR.objs k nd h1
   refine ⟨b, base, hl, ho.hlab, by simpa using ho.blk, ?_, ?_⟩
   ·intro z hz
    rcases List.mem_or_eq_of_mem_set hz with hz | rfl
    ·exact ho.es z hz
    ·rw [List.length_set]; exact ho.es c (List.mem_of_getElem? h2)
   ·intro i2 c2 j2 z hi hj
    rcases set_get hi with ⟨rfl, rfl, hlt⟩ | ⟨hne2, hi⟩
    ·rcases set_get hj with ⟨rfl, rfl, hlt⟩ | ⟨hne3, hj⟩
     ·obtain ⟨v, hv, hx⟩ := ho.cells i2 c j2 x h2 h3
      exact ⟨v, hv, hx.imp (fun h => h.le0 h4) (fun h => h.le0 h4)⟩
     ·exact ho.cells i2 c j2 z h2 hj
    ·exact ho.cells i2 c2 j2 z hi hj
  ·exact hR.objs k nk hk
 ·intro k hk
  simp only [St.obj, look] at hk
  split at hk
  ·simp at hk
  ·exact hR.dead k hk
theorem AW.cellLe {code : Code} (id i j : Nat) {nd : Node} {c : List AV} {x : AV} (y : AV) (h1 : st.obj id = some nd) (h2 : nd.l[i]? = some c) (h3 : c[j]? = some x) (h4 : leA0 x y)
  (h : AW P code ⟨st.n, st.slots, (id, some ⟨nd.es, nd.l.set i (c.set j y)⟩) :: st.objs⟩ K) : AW P code st K :=
 AW.ghost (fun _ _ _ _ hR => hR.cellLe h1 h2 h3 h4) h
theorem node_here {es i : Nat} {l : List (List AV)} {c : List AV} (h : i < l.length) : (⟨es, l.set i c⟩ : Node).l[i]? = some c := List.getElem?_set_self h
end
end Go.AM
namespace Go.AM
def I1 (n : Int) : List AV := [.int .i64 n]
def B1 (b : UInt8) : List AV := [.int .u8 b.toNat]
def S1 (s : List UInt8) : List AV := [.str s]
@[go_sem] theorem I1_eq (n : Int) : I1 n = [.int .i64 n] := rfl
@[go_sem] theorem B1_eq (n : UInt8) : B1 n = [.int .u8 n.toNat] := rfl
@[go_sem] theorem S1_eq (n : List UInt8) : S1 n = [.str n] := rfl
def owc (es : Nat) (l : List (List AV)) : AV := match l with
  | [] => .isl es []
  | x :: r => .osl es (x :: r)
@[go_sem high] theorem owc_nil (es : Nat) : owc es [] = .isl es [] := rfl
@[go_sem high] theorem owc_cons (es : Nat) (x : List AV) (r : List (List AV)) : owc es (x :: r) = .osl es (x :: r) := rfl
theorem owc_ne {es : Nat} {l : List (List AV)} (h : l ≠ []) : owc es l = .osl es l := by cases l; exact absurd rfl h; rfl
@[go_sem high] theorem owc_tree (es : Nat) (l : List (List AV)) : (owc es l).tree = true := by cases l <;> rfl
@[go_sem high] theorem owc_ids (es : Nat) (l : List (List AV)) : (owc es l).ids = [] := by cases l <;> simp [owc, AV.ids]
@[go_sem high] theorem owc_unown (es : Nat) (l : List (List AV)) : unown (owc es l) = .isl es (unownLL l) := by cases l <;> simp [owc, unown, unownLL]
@[go_sem high] theorem owc_ownd (es : Nat) (l : List (List AV)) : (owc es l).ownd = owndLL l := by cases l <;> simp [owc, AV.ownd, owndLL]
@[go_sem high] theorem owc_le (es : Nat) (l : List (List AV)) : leA0 (.osl es l) (owc es l) := by cases l <;> simp [owc, leA0]
@[go_sem high] theorem owc_le' (es : Nat) (l m : List (List AV)) : leA0 (.osl es l) (owc es m) ↔ l = m := by cases m <;> simp [owc, leA0]
@[go_sem high] theorem owc_lenil (es : Nat) (m : List (List AV)) : leA0 .nils (owc es m) ↔ m = [] := by cases m <;> simp [owc, leA0]
@[go_sem high] theorem owc_lezsl (es : Nat) (m : List (List AV)) : leA0 .zsl (owc es m) ↔ m = [] := by cases m <;> simp [owc, leA0]
@[go_sem high] theorem owc_leisl (es : Nat) (m : List (List AV)) : leA0 (.isl es []) (owc es m) ↔ m = [] := by cases m <;> simp [owc, leA0]
@[go_sem high] theorem owc_leowc (es : Nat) (l : List (List AV)) : leA0 (owc es l) (owc es l) := by cases l <;> simp [owc, leA0]
theorem unownLL_map {α : Type} {f g : α → List AV} (h : ∀ x, (f x).map unown = g x) (l : List α) : unownLL (l.map f) = l.map g := by
  rw [unownLL_eq]; simp [h]
theorem mapun {α : Type} {f g : α → List AV} (h : ∀ x, (f x).map unown = g x) (l : List α) : (l.map f).map (List.map unown) = l.map g := by simp [h]
theorem owndLL_map {α : Type} {f : α → List AV} (h : ∀ x, owndL (f x) = true) (l : List α) : owndLL (l.map f) = true := by rw [owndLL_eq, List.all_map]; exact List.all_eq_true.2 fun x _ => by simpa [owndL_eq] using h x
theorem flatids {α : Type} {f : α → List AV} (h : ∀ x, idsL (f x) = []) (l : List α) : (l.map f).flatMap idsL = [] := by simp [h]
@[go_sem] theorem flat_set {l : List (List AV)} {i : Nat} {c : List AV} (h : l.flatMap idsL = []) (hc : idsL c = []) : (l.set i c).flatMap idsL = [] := by
  simp only [List.flatMap_eq_nil_iff] at h ⊢
  intro x hx
  rcases List.mem_or_eq_of_mem_set hx with hx | rfl
  · exact h x hx
  · exact hc
theorem maptree {α : Type} {f : α → List AV} (h : ∀ a, ∀ x ∈ f a, x.tree = true) (l : List α) : (∀ c ∈ l.map f, ∀ x ∈ c, AV.tree x = true) ↔ True := by simpa using fun a _ => h a
@[go_sem] theorem take_len_map {α β : Type} (f : α → β) (l : List α) : List.take l.length (l.map f) = l.map f := List.take_of_length_le (by simp)
@[go_sem] theorem I1_un (x : Int) : (I1 x).map unown = I1 x := rfl
@[go_sem] theorem B1_un (x : UInt8) : (B1 x).map unown = B1 x := rfl
@[go_sem] theorem S1_un (x : List UInt8) : (S1 x).map unown = S1 x := rfl
@[go_sem high] theorem I1_unL (l : List _) : unownLL (l.map I1) = l.map I1 := unownLL_map I1_un l
@[go_sem high] theorem I1_unM (l : List _) : (l.map I1).map (List.map unown) = l.map I1 := mapun I1_un l
@[go_sem] theorem I1_ownd (x) : owndL (I1 x) = true := by simp [I1, go_sem]
@[go_sem high] theorem I1_owndL (l : List _) : owndLL (l.map I1) = true := owndLL_map I1_ownd l
@[go_sem] theorem I1_ids (x) : idsL (I1 x) = [] := by simp [I1, go_sem]
@[go_sem high] theorem I1_idsL (l : List _) : (l.map I1).flatMap idsL = [] := flatids I1_ids l
theorem I1_tree (a) : ∀ x ∈ I1 a, x.tree = true := by simp [I1, go_sem]
@[go_sem high] theorem I1_treeL (l : List _) : (∀ c ∈ l.map I1, ∀ x ∈ c, AV.tree x = true) ↔ True := maptree I1_tree l
@[go_sem high] theorem B1_unL (l : List _) : unownLL (l.map B1) = l.map B1 := unownLL_map B1_un l
@[go_sem high] theorem B1_unM (l : List _) : (l.map B1).map (List.map unown) = l.map B1 := mapun B1_un l
@[go_sem] theorem B1_ownd (x) : owndL (B1 x) = true := by simp [B1, go_sem]
@[go_sem high] theorem B1_owndL (l : List _) : owndLL (l.map B1) = true := owndLL_map B1_ownd l
@[go_sem] theorem B1_ids (x) : idsL (B1 x) = [] := by simp [B1, go_sem]
@[go_sem high] theorem B1_idsL (l : List _) : (l.map B1).flatMap idsL = [] := flatids B1_ids l
theorem B1_tree (a) : ∀ x ∈ B1 a, x.tree = true := by simp [B1, go_sem]
@[go_sem high] theorem B1_treeL (l : List _) : (∀ c ∈ l.map B1, ∀ x ∈ c, AV.tree x = true) ↔ True := maptree B1_tree l
@[go_sem high] theorem S1_unL (l : List _) : unownLL (l.map S1) = l.map S1 := unownLL_map S1_un l
@[go_sem high] theorem S1_unM (l : List _) : (l.map S1).map (List.map unown) = l.map S1 := mapun S1_un l
@[go_sem] theorem S1_ownd (x) : owndL (S1 x) = true := by simp [S1, go_sem]
@[go_sem high] theorem S1_owndL (l : List _) : owndLL (l.map S1) = true := owndLL_map S1_ownd l
@[go_sem] theorem S1_ids (x) : idsL (S1 x) = [] := by simp [S1, go_sem]
@[go_sem high] theorem S1_idsL (l : List _) : (l.map S1).flatMap idsL = [] := flatids S1_ids l
theorem S1_tree (a) : ∀ x ∈ S1 a, x.tree = true := by simp [S1, go_sem]
@[go_sem high] theorem S1_treeL (l : List _) : (∀ c ∈ l.map S1, ∀ x ∈ c, AV.tree x = true) ↔ True := maptree S1_tree l
structure TNode where
  kind : Int
  val : Int
  left : Int
  right : Int
  deriving DecidableEq
def TNode.ro (x : TNode) : List AV := [.int .i64 x.kind, .int .i64 x.val, .int .i64 x.left, .int .i64 x.right]
@[go_sem] theorem TNode_ro_eq (x : TNode) : x.ro = [.int .i64 x.kind, .int .i64 x.val, .int .i64 x.left, .int .i64 x.right] := rfl
theorem TNode_ro_un (x : TNode) : x.ro.map unown = x.ro := by simp [TNode.ro, go_sem]
@[go_sem high] theorem TNode_ro_unL (l : List _) : unownLL (l.map TNode.ro) = l.map TNode.ro := unownLL_map TNode_ro_un l
@[go_sem high] theorem TNode_ro_unM (l : List _) : (l.map TNode.ro).map (List.map unown) = l.map TNode.ro := mapun TNode_ro_un l
@[go_sem] theorem TNode_ro_ownd (x) : owndL (TNode.ro x) = true := by simp [TNode.ro, go_sem]
@[go_sem high] theorem TNode_ro_owndL (l : List _) : owndLL (l.map TNode.ro) = true := owndLL_map TNode_ro_ownd l
@[go_sem] theorem TNode_ro_ids (x) : idsL (TNode.ro x) = [] := by simp [TNode.ro, go_sem]
@[go_sem high] theorem TNode_ro_idsL (l : List _) : (l.map TNode.ro).flatMap idsL = [] := flatids TNode_ro_ids l
theorem TNode_ro_tree (a) : ∀ x ∈ TNode.ro a, x.tree = true := by simp [TNode.ro, go_sem]
@[go_sem high] theorem TNode_ro_treeL (l : List _) : (∀ c ∈ l.map TNode.ro, ∀ x ∈ c, AV.tree x = true) ↔ True := maptree TNode_ro_tree l
structure TStep where
  kind : Int
  par : Int
  name : List UInt8
  arg : Int
  cond : List TNode
  expr : List TNode
  deriving DecidableEq
def TStep.ro (x : TStep) : List AV := [.int .i64 x.kind, .int .i64 x.par, .str x.name, .int .i64 x.arg, .isl 4 (x.cond.map TNode.ro), .isl 4 (x.expr.map TNode.ro)]
@[go_sem] theorem TStep_ro_eq (x : TStep) : x.ro = [.int .i64 x.kind, .int .i64 x.par, .str x.name, .int .i64 x.arg, .isl 4 (x.cond.map TNode.ro), .isl 4 (x.expr.map TNode.ro)] := rfl
def TStep.oc (x : TStep) : List AV := [.int .i64 x.kind, .int .i64 x.par, .str x.name, .int .i64 x.arg, owc 4 (x.cond.map TNode.ro), owc 4 (x.expr.map TNode.ro)]
theorem TStep_oc_un (x : TStep) : x.oc.map unown = x.ro := by simp [TStep.oc, TStep.ro, go_sem]
@[go_sem] theorem TStep_oc_eq (x : TStep) : x.oc = [.int .i64 x.kind, .int .i64 x.par, .str x.name, .int .i64 x.arg, owc 4 (x.cond.map TNode.ro), owc 4 (x.expr.map TNode.ro)] := rfl
@[go_sem high] theorem TStep_oc_unL (l : List _) : unownLL (l.map TStep.oc) = l.map TStep.ro := unownLL_map TStep_oc_un l
@[go_sem high] theorem TStep_oc_unM (l : List _) : (l.map TStep.oc).map (List.map unown) = l.map TStep.ro := mapun TStep_oc_un l
@[go_sem] theorem TStep_oc_ownd (x) : owndL (TStep.oc x) = true := by simp [TStep.oc, go_sem]
@[go_sem high] theorem TStep_oc_owndL (l : List _) : owndLL (l.map TStep.oc) = true := owndLL_map TStep_oc_ownd l
@[go_sem] theorem TStep_oc_ids (x) : idsL (TStep.oc x) = [] := by simp [TStep.oc, go_sem]
@[go_sem high] theorem TStep_oc_idsL (l : List _) : (l.map TStep.oc).flatMap idsL = [] := flatids TStep_oc_ids l
theorem TStep_oc_tree (a) : ∀ x ∈ TStep.oc a, x.tree = true := by simp [TStep.oc, go_sem]
@[go_sem high] theorem TStep_oc_treeL (l : List _) : (∀ c ∈ l.map TStep.oc, ∀ x ∈ c, AV.tree x = true) ↔ True := maptree TStep_oc_tree l
structure TGNode where
  kind : Int
  step : Int
  name : List UInt8
  arg : Int
  expr : List TNode
  deriving DecidableEq
def TGNode.ro (x : TGNode) : List AV := [.int .i64 x.kind, .int .i64 x.step, .str x.name, .int .i64 x.arg, .isl 4 (x.expr.map TNode.ro)]
@[go_sem] theorem TGNode_ro_eq (x : TGNode) : x.ro = [.int .i64 x.kind, .int .i64 x.step, .str x.name, .int .i64 x.arg, .isl 4 (x.expr.map TNode.ro)] := rfl
def TGNode.oc (x : TGNode) : List AV := [.int .i64 x.kind, .int .i64 x.step, .str x.name, .int .i64 x.arg, owc 4 (x.expr.map TNode.ro)]
theorem TGNode_oc_un (x : TGNode) : x.oc.map unown = x.ro := by simp [TGNode.oc, TGNode.ro, go_sem]
@[go_sem] theorem TGNode_oc_eq (x : TGNode) : x.oc = [.int .i64 x.kind, .int .i64 x.step, .str x.name, .int .i64 x.arg, owc 4 (x.expr.map TNode.ro)] := rfl
@[go_sem high] theorem TGNode_oc_unL (l : List _) : unownLL (l.map TGNode.oc) = l.map TGNode.ro := unownLL_map TGNode_oc_un l
@[go_sem high] theorem TGNode_oc_unM (l : List _) : (l.map TGNode.oc).map (List.map unown) = l.map TGNode.ro := mapun TGNode_oc_un l
@[go_sem] theorem TGNode_oc_ownd (x) : owndL (TGNode.oc x) = true := by simp [TGNode.oc, go_sem]
@[go_sem high] theorem TGNode_oc_owndL (l : List _) : owndLL (l.map TGNode.oc) = true := owndLL_map TGNode_oc_ownd l
@[go_sem] theorem TGNode_oc_ids (x) : idsL (TGNode.oc x) = [] := by simp [TGNode.oc, go_sem]
@[go_sem high] theorem TGNode_oc_idsL (l : List _) : (l.map TGNode.oc).flatMap idsL = [] := flatids TGNode_oc_ids l
theorem TGNode_oc_tree (a) : ∀ x ∈ TGNode.oc a, x.tree = true := by simp [TGNode.oc, go_sem]
@[go_sem high] theorem TGNode_oc_treeL (l : List _) : (∀ c ∈ l.map TGNode.oc, ∀ x ∈ c, AV.tree x = true) ↔ True := maptree TGNode_oc_tree l
structure TFlow where
  frm : Int
  to : Int
  cond : List TNode
  deriving DecidableEq
def TFlow.ro (x : TFlow) : List AV := [.int .i64 x.frm, .int .i64 x.to, .isl 4 (x.cond.map TNode.ro)]
@[go_sem] theorem TFlow_ro_eq (x : TFlow) : x.ro = [.int .i64 x.frm, .int .i64 x.to, .isl 4 (x.cond.map TNode.ro)] := rfl
def TFlow.oc (x : TFlow) : List AV := [.int .i64 x.frm, .int .i64 x.to, owc 4 (x.cond.map TNode.ro)]
theorem TFlow_oc_un (x : TFlow) : x.oc.map unown = x.ro := by simp [TFlow.oc, TFlow.ro, go_sem]
@[go_sem] theorem TFlow_oc_eq (x : TFlow) : x.oc = [.int .i64 x.frm, .int .i64 x.to, owc 4 (x.cond.map TNode.ro)] := rfl
@[go_sem high] theorem TFlow_oc_unL (l : List _) : unownLL (l.map TFlow.oc) = l.map TFlow.ro := unownLL_map TFlow_oc_un l
@[go_sem high] theorem TFlow_oc_unM (l : List _) : (l.map TFlow.oc).map (List.map unown) = l.map TFlow.ro := mapun TFlow_oc_un l
@[go_sem] theorem TFlow_oc_ownd (x) : owndL (TFlow.oc x) = true := by simp [TFlow.oc, go_sem]
@[go_sem high] theorem TFlow_oc_owndL (l : List _) : owndLL (l.map TFlow.oc) = true := owndLL_map TFlow_oc_ownd l
@[go_sem] theorem TFlow_oc_ids (x) : idsL (TFlow.oc x) = [] := by simp [TFlow.oc, go_sem]
@[go_sem high] theorem TFlow_oc_idsL (l : List _) : (l.map TFlow.oc).flatMap idsL = [] := flatids TFlow_oc_ids l
theorem TFlow_oc_tree (a) : ∀ x ∈ TFlow.oc a, x.tree = true := by simp [TFlow.oc, go_sem]
@[go_sem high] theorem TFlow_oc_treeL (l : List _) : (∀ c ∈ l.map TFlow.oc, ∀ x ∈ c, AV.tree x = true) ↔ True := maptree TFlow_oc_tree l
structure TChart where
  status : Int
  now : Int
  vars : List Int
  acts : List Int
  dues : List Int
  deriving DecidableEq
def TChart.ro (x : TChart) : List AV := [.int .i64 x.status, .int .i64 x.now, .isl 1 (x.vars.map I1), .isl 1 (x.acts.map I1), .isl 1 (x.dues.map I1)]
@[go_sem] theorem TChart_ro_eq (x : TChart) : x.ro = [.int .i64 x.status, .int .i64 x.now, .isl 1 (x.vars.map I1), .isl 1 (x.acts.map I1), .isl 1 (x.dues.map I1)] := rfl
def TChart.oc (x : TChart) : List AV := [.int .i64 x.status, .int .i64 x.now, owc 1 (x.vars.map I1), owc 1 (x.acts.map I1), owc 1 (x.dues.map I1)]
theorem TChart_oc_un (x : TChart) : x.oc.map unown = x.ro := by simp [TChart.oc, TChart.ro, go_sem]
@[go_sem] theorem TChart_oc_eq (x : TChart) : x.oc = [.int .i64 x.status, .int .i64 x.now, owc 1 (x.vars.map I1), owc 1 (x.acts.map I1), owc 1 (x.dues.map I1)] := rfl
@[go_sem high] theorem TChart_oc_unL (l : List _) : unownLL (l.map TChart.oc) = l.map TChart.ro := unownLL_map TChart_oc_un l
@[go_sem high] theorem TChart_oc_unM (l : List _) : (l.map TChart.oc).map (List.map unown) = l.map TChart.ro := mapun TChart_oc_un l
@[go_sem] theorem TChart_oc_ownd (x) : owndL (TChart.oc x) = true := by simp [TChart.oc, go_sem]
@[go_sem high] theorem TChart_oc_owndL (l : List _) : owndLL (l.map TChart.oc) = true := owndLL_map TChart_oc_ownd l
@[go_sem] theorem TChart_oc_ids (x) : idsL (TChart.oc x) = [] := by simp [TChart.oc, go_sem]
@[go_sem high] theorem TChart_oc_idsL (l : List _) : (l.map TChart.oc).flatMap idsL = [] := flatids TChart_oc_ids l
theorem TChart_oc_tree (a) : ∀ x ∈ TChart.oc a, x.tree = true := by simp [TChart.oc, go_sem]
@[go_sem high] theorem TChart_oc_treeL (l : List _) : (∀ c ∈ l.map TChart.oc, ∀ x ∈ c, AV.tree x = true) ↔ True := maptree TChart_oc_tree l
structure TProc where
  steps : List TStep
  deriving DecidableEq
def TProc.ro (x : TProc) : List AV := [.isl 6 (x.steps.map TStep.ro)]
@[go_sem] theorem TProc_ro_eq (x : TProc) : x.ro = [.isl 6 (x.steps.map TStep.ro)] := rfl
def TProc.oc (x : TProc) : List AV := [owc 6 (x.steps.map TStep.oc)]
theorem TProc_oc_un (x : TProc) : x.oc.map unown = x.ro := by simp [TProc.oc, TProc.ro, go_sem]
@[go_sem] theorem TProc_oc_eq (x : TProc) : x.oc = [owc 6 (x.steps.map TStep.oc)] := rfl
@[go_sem high] theorem TProc_oc_unL (l : List _) : unownLL (l.map TProc.oc) = l.map TProc.ro := unownLL_map TProc_oc_un l
@[go_sem high] theorem TProc_oc_unM (l : List _) : (l.map TProc.oc).map (List.map unown) = l.map TProc.ro := mapun TProc_oc_un l
@[go_sem] theorem TProc_oc_ownd (x) : owndL (TProc.oc x) = true := by simp [TProc.oc, go_sem]
@[go_sem high] theorem TProc_oc_owndL (l : List _) : owndLL (l.map TProc.oc) = true := owndLL_map TProc_oc_ownd l
@[go_sem] theorem TProc_oc_ids (x) : idsL (TProc.oc x) = [] := by simp [TProc.oc, go_sem]
@[go_sem high] theorem TProc_oc_idsL (l : List _) : (l.map TProc.oc).flatMap idsL = [] := flatids TProc_oc_ids l
theorem TProc_oc_tree (a) : ∀ x ∈ TProc.oc a, x.tree = true := by simp [TProc.oc, go_sem]
@[go_sem high] theorem TProc_oc_treeL (l : List _) : (∀ c ∈ l.map TProc.oc, ∀ x ∈ c, AV.tree x = true) ↔ True := maptree TProc_oc_tree l
structure TInst where
  proc : Int
  chart : TChart
  deriving DecidableEq
def TInst.ro (x : TInst) : List AV := [.int .i64 x.proc, .int .i64 x.chart.status, .int .i64 x.chart.now, .isl 1 (x.chart.vars.map I1), .isl 1 (x.chart.acts.map I1), .isl 1 (x.chart.dues.map I1)]
@[go_sem] theorem TInst_ro_eq (x : TInst) : x.ro = [.int .i64 x.proc, .int .i64 x.chart.status, .int .i64 x.chart.now, .isl 1 (x.chart.vars.map I1), .isl 1 (x.chart.acts.map I1), .isl 1 (x.chart.dues.map I1)] := rfl
def TInst.oc (x : TInst) : List AV := [.int .i64 x.proc, .int .i64 x.chart.status, .int .i64 x.chart.now, owc 1 (x.chart.vars.map I1), owc 1 (x.chart.acts.map I1), owc 1 (x.chart.dues.map I1)]
theorem TInst_oc_un (x : TInst) : x.oc.map unown = x.ro := by simp [TInst.oc, TInst.ro, go_sem]
@[go_sem] theorem TInst_oc_eq (x : TInst) : x.oc = [.int .i64 x.proc, .int .i64 x.chart.status, .int .i64 x.chart.now, owc 1 (x.chart.vars.map I1), owc 1 (x.chart.acts.map I1), owc 1 (x.chart.dues.map I1)] := rfl
@[go_sem high] theorem TInst_oc_unL (l : List _) : unownLL (l.map TInst.oc) = l.map TInst.ro := unownLL_map TInst_oc_un l
@[go_sem high] theorem TInst_oc_unM (l : List _) : (l.map TInst.oc).map (List.map unown) = l.map TInst.ro := mapun TInst_oc_un l
@[go_sem] theorem TInst_oc_ownd (x) : owndL (TInst.oc x) = true := by simp [TInst.oc, go_sem]
@[go_sem high] theorem TInst_oc_owndL (l : List _) : owndLL (l.map TInst.oc) = true := owndLL_map TInst_oc_ownd l
@[go_sem] theorem TInst_oc_ids (x) : idsL (TInst.oc x) = [] := by simp [TInst.oc, go_sem]
@[go_sem high] theorem TInst_oc_idsL (l : List _) : (l.map TInst.oc).flatMap idsL = [] := flatids TInst_oc_ids l
theorem TInst_oc_tree (a) : ∀ x ∈ TInst.oc a, x.tree = true := by simp [TInst.oc, go_sem]
@[go_sem high] theorem TInst_oc_treeL (l : List _) : (∀ c ∈ l.map TInst.oc, ∀ x ∈ c, AV.tree x = true) ↔ True := maptree TInst_oc_tree l
structure TClaim where
  inst : Int
  step : Int
  user : Int
  deriving DecidableEq
def TClaim.ro (x : TClaim) : List AV := [.int .i64 x.inst, .int .i64 x.step, .int .i64 x.user]
@[go_sem] theorem TClaim_ro_eq (x : TClaim) : x.ro = [.int .i64 x.inst, .int .i64 x.step, .int .i64 x.user] := rfl
theorem TClaim_ro_un (x : TClaim) : x.ro.map unown = x.ro := by simp [TClaim.ro, go_sem]
@[go_sem high] theorem TClaim_ro_unL (l : List _) : unownLL (l.map TClaim.ro) = l.map TClaim.ro := unownLL_map TClaim_ro_un l
@[go_sem high] theorem TClaim_ro_unM (l : List _) : (l.map TClaim.ro).map (List.map unown) = l.map TClaim.ro := mapun TClaim_ro_un l
@[go_sem] theorem TClaim_ro_ownd (x) : owndL (TClaim.ro x) = true := by simp [TClaim.ro, go_sem]
@[go_sem high] theorem TClaim_ro_owndL (l : List _) : owndLL (l.map TClaim.ro) = true := owndLL_map TClaim_ro_ownd l
@[go_sem] theorem TClaim_ro_ids (x) : idsL (TClaim.ro x) = [] := by simp [TClaim.ro, go_sem]
@[go_sem high] theorem TClaim_ro_idsL (l : List _) : (l.map TClaim.ro).flatMap idsL = [] := flatids TClaim_ro_ids l
theorem TClaim_ro_tree (a) : ∀ x ∈ TClaim.ro a, x.tree = true := by simp [TClaim.ro, go_sem]
@[go_sem high] theorem TClaim_ro_treeL (l : List _) : (∀ c ∈ l.map TClaim.ro, ∀ x ∈ c, AV.tree x = true) ↔ True := maptree TClaim_ro_tree l
structure TJournal where
  sure : List UInt8
  loose : List UInt8
  deriving DecidableEq
def TJournal.ro (x : TJournal) : List AV := [.isl 1 (x.sure.map B1), .isl 1 (x.loose.map B1)]
@[go_sem] theorem TJournal_ro_eq (x : TJournal) : x.ro = [.isl 1 (x.sure.map B1), .isl 1 (x.loose.map B1)] := rfl
def TJournal.oc (x : TJournal) : List AV := [owc 1 (x.sure.map B1), owc 1 (x.loose.map B1)]
theorem TJournal_oc_un (x : TJournal) : x.oc.map unown = x.ro := by simp [TJournal.oc, TJournal.ro, go_sem]
@[go_sem] theorem TJournal_oc_eq (x : TJournal) : x.oc = [owc 1 (x.sure.map B1), owc 1 (x.loose.map B1)] := rfl
@[go_sem high] theorem TJournal_oc_unL (l : List _) : unownLL (l.map TJournal.oc) = l.map TJournal.ro := unownLL_map TJournal_oc_un l
@[go_sem high] theorem TJournal_oc_unM (l : List _) : (l.map TJournal.oc).map (List.map unown) = l.map TJournal.ro := mapun TJournal_oc_un l
@[go_sem] theorem TJournal_oc_ownd (x) : owndL (TJournal.oc x) = true := by simp [TJournal.oc, go_sem]
@[go_sem high] theorem TJournal_oc_owndL (l : List _) : owndLL (l.map TJournal.oc) = true := owndLL_map TJournal_oc_ownd l
@[go_sem] theorem TJournal_oc_ids (x) : idsL (TJournal.oc x) = [] := by simp [TJournal.oc, go_sem]
@[go_sem high] theorem TJournal_oc_idsL (l : List _) : (l.map TJournal.oc).flatMap idsL = [] := flatids TJournal_oc_ids l
theorem TJournal_oc_tree (a) : ∀ x ∈ TJournal.oc a, x.tree = true := by simp [TJournal.oc, go_sem]
@[go_sem high] theorem TJournal_oc_treeL (l : List _) : (∀ c ∈ l.map TJournal.oc, ∀ x ∈ c, AV.tree x = true) ↔ True := maptree TJournal_oc_tree l
end Go.AM
namespace Go.AM
open Go.ChangeShapes Go.WideShapes Go.RowKit
def RdC (w : World) (cs : List Value) (ys : List AV) : Prop :=
 ys.length = cs.length ∧ (∀ (j : Nat) y v, ys[j]? = some y → cs[j]? = some v → I w (fun _ => none) y v) ∧ ∀ y ∈ ys, AV.plain y = true
theorem RdC.nil {w : World} {cs : List Value} (h : cs = []) : RdC w cs [] := by subst h; exact ⟨rfl, by intro j y v h; simp at h, by simp⟩
theorem RdC.one {w : World} {v : Value} {y : AV} (h : I w (fun _ => none) y v) (hp : y.plain = true) : RdC w [v] [y] := by
 refine ⟨rfl, ?_, by simpa using hp⟩
 intro j y' v' hy hv
 cases j with
 | zero => simp at hy hv; subst hy; subst hv; exact h
 | succ j => simp at hy
theorem RdC.cons {w : World} {cs : List Value} {o s : Nat} {ys zs : List AV} (h1 : RdC w ((cs.drop o).take s) ys) (h2 : RdC w (cs.drop (o + s)) zs) : RdC w (cs.drop o) (ys ++ zs) := by
 have e : cs.drop o = (cs.drop o).take s ++ cs.drop (o + s) := by rw [← List.drop_drop, List.take_append_drop]
 rw [e]
 obtain ⟨a1, a2, a3⟩ := h1
 obtain ⟨b1, b2, b3⟩ := h2
 refine ⟨by rw [List.length_append, List.length_append, a1, b1], ?_, ?_⟩
 ·intro j y v hy hv
  rw [List.getElem?_append] at hy hv
  rw [a1] at hy
  split at hy
  ·rename_i h; rw [if_pos h] at hv; exact a2 j y v hy hv
  ·rename_i h; rw [if_neg h] at hv; exact b2 _ y v hy hv
 ·intro y hy
  rcases List.mem_append.1 hy with hy | hy
  ·exact a3 y hy
  ·exact b3 y hy
structure Rd (P : Program) (t : TypeId) (α : Type) (f : α → List AV) (ok : α → Prop) (n : Nat) : Prop where
 size : P.cellsOf t = n
 read : ∀ {H : Type} (enc : TypeId × Value → H) (w : World) (base : Nat) (spare : Nat → Bool) (held : Bool) (fuel : Nat) (cs : List Value) (x : DataW H × List MemPlace),
  DataW.trod enc P w base spare held fuel t cs = some x → ∃ a : α, ok a ∧ RdC w cs (f a) ∧ cs.length = n
theorem cellsOf_of {P : Program} {ti : TI} (hT : TOk P ti) {t : Nat} {i : TInfo} (h : ti t = some i) : P.cellsOf t = i.size := by
 obtain ⟨info, h1, h2, _⟩ := (hT t i h).info
 simp [Program.cellsOf, h1, h2]
section
variable {P : Program} {t : TypeId}
theorem trod_int' {k : IntKind} {H : Type} {enc : TypeId × Value → H} {w : World} {base : Nat} {spare : Nat → Bool} {held : Bool} {fuel : Nat} {cs : List Value} {x : DataW H × List MemPlace} (ht : P.underlying t = some (.int k))
  (h : DataW.trod enc P w base spare held fuel t cs = some x) : ∃ n, cs = [.int k n] ∧ (Lit.int k n).wf = true := by
 cases fuel with
 | zero => simp [DataW.trod] at h
 | succ m =>
  unfold DataW.trod at h
  rw [ht] at h
  split at h <;> simp_all
theorem Rd.int (hs : P.cellsOf t = 1) (ht : P.underlying t = some (.int .i64)) : Rd P t Int I1 (fun n => -9223372036854775808 ≤ n ∧ n ≤ 9223372036854775807) 1 := by
 refine ⟨hs, ?_⟩
 intro H enc w base spare held fuel cs x h
 obtain ⟨n, rfl, hw⟩ := trod_int' ht h
 refine ⟨n, ?_, .one (.int _ _) rfl, rfl⟩
 simp [Lit.wf, IntKind.min, IntKind.max, IntKind.bits, IntKind.signed] at hw
 first | exact hw | omega
theorem Rd.byte (hs : P.cellsOf t = 1) (ht : P.underlying t = some (.int .u8)) : Rd P t UInt8 B1 (fun _ => True) 1 := by
 refine ⟨hs, ?_⟩
 intro H enc w base spare held fuel cs x h
 obtain ⟨n, rfl, hw⟩ := trod_int' ht h
 simp [Lit.wf, IntKind.min, IntKind.max, IntKind.bits, IntKind.signed] at hw
 refine ⟨UInt8.ofNat n.toNat, trivial, ?_, rfl⟩
 have e : ((UInt8.ofNat n.toNat).toNat : Int) = n := by rw [UInt8.toNat_ofNat']; omega
 unfold B1
 rw [e]
 exact .one (.int _ _) rfl
theorem trod_str' {H : Type} {enc : TypeId × Value → H} {w : World} {base : Nat} {spare : Nat → Bool} {held : Bool} {fuel : Nat} {cs : List Value} {x : DataW H × List MemPlace} (ht : P.underlying t = some .string)
  (h : DataW.trod enc P w base spare held fuel t cs = some x) : ∃ s, cs = [.string s] ∧ s.size ≤ maxLen := by
 cases fuel with
 | zero => simp [DataW.trod] at h
 | succ m =>
  unfold DataW.trod at h
  rw [ht] at h
  split at h <;> simp_all
theorem Rd.str (hs : P.cellsOf t = 1) (ht : P.underlying t = some .string) : Rd P t (List UInt8) S1 (fun s => s.length ≤ 9223372036854775807) 1 := by
 refine ⟨hs, ?_⟩
 intro H enc w base spare held fuel cs x h
 obtain ⟨s, rfl, hw⟩ := trod_str' ht h
 refine ⟨s.data.toList, ?_, .one (I.ofString s) rfl, rfl⟩
 unfold maxLen at hw
 exact hw
theorem cell_spot {w : World} {a : Addr} {v : Value} (h : w.cell? a = some v) : a.spot = none ∧ a.block < w.heap.size := by
 unfold World.cell? at h
 split at h
 ·rename_i hb
  refine ⟨?_, ?_⟩
  ·split at h
   ·cases h
   ·rename_i hs; simpa using hs
  rcases Nat.lt_or_ge a.block w.heap.size with h1 | h1
  ·exact h1
  ·simp [Array.getElem?_eq_none h1] at hb
 ·cases h
theorem mapM_get {α β : Type} {f : α → Option β} : ∀ {l : List α} {r : List β}, l.mapM f = some r → r.length = l.length ∧ ∀ (i : Nat) a, l[i]? = some a → f a = r[i]? := by
 intro l
 induction l with
 | nil => intro r h; simp at h; subst h; exact ⟨rfl, by intro i a h; simp at h⟩
 | cons x l ih =>
  intro r h
  simp only [List.mapM_cons, Option.bind_eq_bind] at h
  cases hx : f x with
  | none => simp [hx] at h
  | some y =>
   cases hl : l.mapM f with
   | none => simp [hx, hl] at h
   | some ys =>
    simp [hx, hl] at h
    subst h
    obtain ⟨h1, h2⟩ := ih hl
    refine ⟨by simp [h1], ?_⟩
    intro i a hi
    cases i with
    | zero => simp at hi; subst hi; simp [hx]
    | succ i => simpa using h2 i a (by simpa using hi)
theorem Rd.slice {e : TypeId} {α : Type} {f : α → List AV} {ok : α → Prop} {n : Nat} (he : Rd P e α f ok n) (hn : 0 < n) (hs : P.cellsOf t = 1) (ht : P.underlying t = some (.slice e)) :
  Rd P t (List α) (fun l => [.isl n (l.map f)]) (fun l => l.length ≤ 9223372036854775807 ∧ ∀ a ∈ l, ok a) 1 := by
 refine ⟨hs, ?_⟩
 intro H enc w base spare held fuel cs x h
 rcases DataW.trod_slice ht h with ⟨rfl, _⟩ | ⟨a, len, cap, elems, rest, m, rfl, rfl, _, hb, hlc, hcap, hel, hget, _⟩
 ·exact ⟨[], ⟨Nat.zero_le _, by simp⟩, .one (.nsl _) rfl, rfl⟩
 ·rw [he.size] at hget
  have hrow : ∀ i, i < len → ∃ (b : α) (vs : List Value), ok b ∧ RdC w vs (f b) ∧ vs.length = n ∧ ∀ j, j < n → w.cell? ((a.add (i * n)).add j) = vs[j]? := by
   intro i hi
   have h1 := hget i hi
   have h2 : ∃ y, elems[i]? = some y := ⟨elems[i]'(by omega), List.getElem?_eq_getElem _⟩
   obtain ⟨y, hy⟩ := h2
   rw [hy, Option.bind_eq_some_iff] at h1
   obtain ⟨vs, h3, h4⟩ := h1
   obtain ⟨b, h5, h6, h7⟩ := he.read enc w base spare held m vs y h4
   refine ⟨b, vs, h5, h6, h7, ?_⟩
   unfold World.cells? at h3
   split at h3
   ·obtain ⟨_, h8⟩ := mapM_get h3
    intro j hj
    exact h8 j j (by simp [hj])
   ·cases h3
  by_cases hz : len = 0
  ·subst hz
   exact ⟨[], ⟨Nat.zero_le _, by simp⟩, .one (.esl _ _ _) rfl, rfl⟩
  obtain ⟨b0, vs0, hb0⟩ := hrow 0 (by omega)
  obtain ⟨g, gv, hg⟩ : ∃ (g : Nat → α) (gv : Nat → List Value), ∀ i, i < len → ok (g i) ∧ RdC w (gv i) (f (g i)) ∧ (gv i).length = n ∧ ∀ j, j < n → w.cell? ((a.add (i * n)).add j) = (gv i)[j]? := by
   refine ⟨fun i => if h : i < len then (hrow i h).choose else b0, fun i => if h : i < len then (hrow i h).choose_spec.choose else vs0, ?_⟩
   intro i hi
   simp only [dif_pos hi]
   exact (hrow i hi).choose_spec.choose_spec
  have hsp : a.spot = none ∧ a.block < w.heap.size := by
   obtain ⟨_, _, h3, h4⟩ := hg 0 (by omega)
   have h5 := h4 0 hn
   have h6 : ∃ v, (gv 0)[0]? = some v := ⟨(gv 0)[0]'(by omega), List.getElem?_eq_getElem _⟩
   obtain ⟨v, h6⟩ := h6
   rw [h6] at h5
   have h7 := cell_spot h5
   simpa [Addr.add] using h7
  obtain ⟨ab, ao, asp⟩ := a
  obtain ⟨hsp1, hsp2⟩ := hsp
  simp only at hsp1 hsp2
  subst hsp1
  simp only [addr_add] at hg
  have hmap : ∀ i, i < len → ((List.range len).map g)[i]? = some (g i) := by intro i hi; simp [hi]
  refine ⟨(List.range len).map g, ⟨by simp; unfold maxLen at hcap; omega, ?_⟩, .one ?_ rfl, rfl⟩
  ·intro b hb
   obtain ⟨i, hi, rfl⟩ := List.mem_map.1 hb
   exact (hg i (by simpa using hi)).1
  ·have := I.isl (w := w) (lab := fun _ => none) n (((List.range len).map g).map f) ab ao cap (fun i j => (gv i).getD j undef) rfl hsp2 (by simpa using hlc) ?_ ?_ ?_ ?_
   ·simpa using this
   ·intro c hc
    obtain ⟨b, hb, rfl⟩ := List.mem_map.1 hc
    obtain ⟨i, hi, rfl⟩ := List.mem_map.1 hb
    obtain ⟨_, h2, h3, _⟩ := hg i (by simpa using hi)
    rw [h2.1, h3]
   ·intro c hc y hy
    obtain ⟨b, hb, rfl⟩ := List.mem_map.1 hc
    obtain ⟨i, hi, rfl⟩ := List.mem_map.1 hb
    exact (hg i (by simpa using hi)).2.1.2.2 y hy
   ·intro i j hi hj
    have hi : i < len := by simpa using hi
    obtain ⟨_, h2, h3, h4⟩ := hg i hi
    rw [h4 j hj]
    simp [List.getD, h3, hj]
   ·intro i c j y hi hj
    have hi' : i < len := by have := (List.getElem?_eq_some_iff.1 hi).1; simpa using this
    obtain ⟨_, h2, h3, h4⟩ := hg i hi'
    rw [List.getElem?_map, hmap i hi'] at hi
    cases hi
    have hj' : j < (gv i).length := by rw [← h2.1]; exact (List.getElem?_eq_some_iff.1 hj).1
    have := h2.2.1 j y (gv i)[j] hj (List.getElem?_eq_getElem hj')
    simpa [List.getD, hj'] using this
theorem Rd.arg {α : Type} {f : α → List AV} {ok : α → Prop} {n : Nat} (h : Rd P t α f ok n) {w : World} {H : Type} {enc : TypeId × Value → H} {base : Nat} {spare : Nat → Bool} {held : Bool} {v : Value} {d : DataW H} {ps : List MemPlace}
  (hd : DataW.Trod enc P w base spare held t v d ps) : ∃ a, ok a ∧ RdC w v.cells.toList (f a) := by
 obtain ⟨fuel, hd⟩ := hd
 obtain ⟨a, h1, h2, _⟩ := h.read enc w base spare held fuel _ _ hd
 exact ⟨a, h1, h2⟩
theorem RdC.agg {w : World} {cs : Array Value} {ys : List AV} (h : RdC w cs.toList ys) : I w (fun _ => none) (.agg ys) (.agg cs) := by
 have := I.agg (w := w) (lab := fun _ => none) ys cs.toList h.1 h.2.1
 simpa using this
theorem cells_slice {w : World} {base : Nat} {e : TypeId} {v : Value} (ht : P.underlying t = some (.slice e)) (hv : Value.okWide P w .any base t v) : v.cells.toList = [v] := by
 unfold Value.okWide at hv
 rw [ht] at hv
 unfold Cell.okWide at hv
 rw [ht] at hv
 cases v with
 | agg cs => simp [Cell.ok, ht] at hv
 | _ => rfl
theorem Rd.arg1 {α : Type} {f : α → List AV} {ok : α → Prop} {n : Nat} (h : Rd P t α f ok n) {g : α → AV} (hg : ∀ a, f a = [g a]) {w : World} {H : Type} {enc : TypeId × Value → H} {base : Nat} {spare : Nat → Bool} {held : Bool} {v : Value} {d : DataW H} {ps : List MemPlace}
  (hv : v.cells.toList = [v]) (hd : DataW.Trod enc P w base spare held t v d ps) : ∃ a, ok a ∧ I w (fun _ => none) (g a) v := by
 obtain ⟨a, h1, h2⟩ := h.arg hd
 rw [hv, hg] at h2
 exact ⟨a, h1, h2.2.1 0 _ _ rfl rfl⟩
theorem Kept.trod {H : Type} {enc : TypeId × Value → H} (hl : laidOutB P = true) (hr : P.readableRec t = true) (hrow : t < P.types.size) {W W' : World} {v : Value} {d : DataW H} {ps : List MemPlace} (hk : Kept W W')
  (h : DataW.Trod enc P W 0 (fun _ => true) true t v d ps) (hlt : ∀ x ∈ ps, x.block < W.heap.size) {sp : Nat → Bool} (hs : ∀ p ∈ ps, sp p.block = true) : DataW.Trod enc P W' 0 sp true t v d ps := by
 refine WideElems.Trod_stays hl hr hrow h (fun x hx => ?_) hs
 cases x with
 | cell b o => exact World.cell?_of_block (w := W) (hk.heap b (hlt _ hx))
 | map b => exact hk.heap b (hlt _ hx)
end
end Go.AM
namespace Go.AM
theorem wrap64 {n : Int} (h1 : -9223372036854775808 ≤ n) (h2 : n ≤ 9223372036854775807) : IntKind.wrap .i64 n = n := by
 simp [IntKind.wrap, IntKind.bits, IntKind.signed]
 omega
theorem wrapi {i n : Nat} (h : i < n) (hn : n ≤ 9223372036854775807) : IntKind.wrap .i64 ((i : Int) + 1) = (i : Int) + 1 := wrap64 (by omega) (by omega)
theorem at_some {α : Type} {l : List α} {i : Nat} (h : i < l.length) : ∃ x, l[i]? = some x := ⟨l[i], List.getElem?_eq_getElem h⟩
theorem at_lt {α : Type} {l : List α} {i : Nat} {x : α} (h : l[i]? = some x) : i < l.length := (List.getElem?_eq_some_iff.1 h).1
def fill {α : Type} (f : α → List AV) (z : List AV) (l : List α) (i : Nat) : List (List AV) := (l.take i).map f ++ List.replicate (l.length - i) z
def TStep.gok (x : TStep) : Prop := x.name.length ≤ 9223372036854775807 ∧ x.cond.length ≤ 9223372036854775807 ∧ x.expr.length ≤ 9223372036854775807
def TGNode.gok (x : TGNode) : Prop := x.name.length ≤ 9223372036854775807 ∧ x.expr.length ≤ 9223372036854775807
def TFlow.gok (x : TFlow) : Prop := x.cond.length ≤ 9223372036854775807
def TChart.gok (x : TChart) : Prop := x.vars.length ≤ 9223372036854775807 ∧ x.acts.length ≤ 9223372036854775807 ∧ x.dues.length ≤ 9223372036854775807
def TProc.gok (x : TProc) : Prop := (x.steps.length ≤ 9223372036854775807 ∧ ∀ e ∈ x.steps, e.gok)
def TInst.gok (x : TInst) : Prop := x.chart.gok
def TJournal.gok (x : TJournal) : Prop := x.sure.length ≤ 9223372036854775807 ∧ x.loose.length ≤ 9223372036854775807
end Go.AM
