/- The abstract machine, part 18: a function's contract from its body. -/
import Derived.Test.YtefkpiameojpoaaAm17
set_option linter.unusedVariables false
set_option linter.unusedSimpArgs false
namespace Go.AM

/-! ### what says less: an empty slice, whoever it belongs to -/
def leA0 : AV → AV → Prop
  | .osl es l, y => (match y with | .isl es' l' => es = es' ∧ l = [] ∧ l' = [] | y => .osl es l = y)
  | .nils, y => (match y with | .isl _ l' => l' = [] | y => .nils = y)
  | .zsl, y => (match y with | .isl _ l' => l' = [] | y => .zsl = y)
  | .nel, y => (match y with | .isl _ l' => l' = [] | y => .nel = y)
  | x, y => x = y
def leL : List AV → List AV → Prop
  | [], ys => ys = []
  | x :: xs, ys => (match ys with | y :: ys => leA0 x y ∧ leL xs ys | [] => False)
def leA : AV → AV → Prop
  | .agg cs, y => (match y with | .agg ds => leL cs ds | _ => False)
  | x, y => leA0 x y
def leLL : List AV → List AV → Prop
  | [], ys => ys = []
  | x :: xs, ys => (match ys with | y :: ys => leA x y ∧ leLL xs ys | [] => False)
def leT : AV → AV → Prop
  | .tup cs, y => (match y with | .tup ds => leLL cs ds | _ => False)
  | x, y => leA x y

theorem I.le0 {w : World} {lab : Labs} {x y : AV} {v : Value} (h : leA0 x y) (hI : I w lab x v) : I w lab y v := by
  unfold leA0 at h
  split at h
  · split at h
    · cases hI
    · subst h; exact hI
  · split at h
    · subst h; cases hI; exact .nsl _
    · subst h; exact hI
  · split at h
    · subst h
      cases hI with
      | zsl a =>
        cases a with
        | none => exact .nsl _
        | some a => exact .esl _ _ _
    · subst h; exact hI
  · split at h
    · subst h; cases hI; exact .esl _ _ _
    · subst h; exact hI
  · subst h; exact hI

theorem T.le0 {w : World} {lab : Labs} {p : Lab} {x y : AV} {v : Value} (h : leA0 x y) (hT : T w lab p x v) : T w lab p y v := by
  cases hT with
  | imm _ _ _ hI => exact .imm _ _ _ (hI.le0 h)
  | osl _ es l b off cap vals hb hk hc hes hp hv hr =>
    simp only [leA0] at h
    split at h
    · obtain ⟨rfl, rfl, rfl⟩ := h
      exact .imm _ _ _ (.esl _ _ _)
    · subst h; exact .osl _ es l b off cap vals hb hk hc hes hp hv hr
  | op _ l b off vals hb hk hp hv hr => simp only [leA0] at h; subst h; exact .op _ l b off vals hb hk hp hv hr
  | agg _ cs vs hl hr => simp only [leA0] at h; subst h; exact .agg _ cs vs hl hr
  | tup _ cs vs hl hr => simp only [leA0] at h; subst h; exact .tup _ cs vs hl hr

theorem V.le0 {w : World} {lab : Labs} {loc : Locs} {x y : AV} {v : Value} (h : leA0 x y) (hV : V w lab loc x v) : V w lab loc y v := by
  cases hV with
  | imm _ _ hI => exact .imm _ _ (hI.le0 h)
  | undef _ => simp only [leA0] at h; subst h; exact .undef _
  | ptr id es i j _ hh => simp only [leA0] at h; subst h; exact .ptr id es i j _ hh
  | sl id es i n _ hh => simp only [leA0] at h; subst h; exact .sl id es i n _ hh
  | fn f cs vs hl hr => simp only [leA0] at h; subst h; exact .fn f cs vs hl hr
  | agg cs vs hl hr => simp only [leA0] at h; subst h; exact .agg cs vs hl hr
  | tup cs vs hl hr => simp only [leA0] at h; subst h; exact .tup cs vs hl hr
  | gate e x _ hh => simp only [leA0] at h; subst h; exact .gate e x _ hh

theorem leL_get {R : AV → Value → Prop} {Q : AV → Value → Prop} (hq : ∀ x y v, leA0 x y → R x v → Q y v) : ∀ {cs ds : List AV} {vs : List Value}, leL cs ds → cs.length = vs.length → (∀ (j : Nat) x y, cs[j]? = some x → vs[j]? = some y → R x y) →
    ds.length = vs.length ∧ ∀ (j : Nat) x y, ds[j]? = some x → vs[j]? = some y → Q x y := by
  intro cs
  induction cs with
  | nil =>
    intro ds vs h hl _
    simp only [leL] at h; subst h
    exact ⟨hl, by intro j x y hx; simp at hx⟩
  | cons c cs ih =>
    intro ds vs h hl hr
    simp only [leL] at h
    cases ds with
    | nil => exact h.elim
    | cons d ds =>
      cases vs with
      | nil => simp at hl
      | cons v vs =>
        obtain ⟨h1, h2⟩ := h
        obtain ⟨h3, h4⟩ := ih h2 (by simpa using hl) (fun j x y hx hy => hr (j + 1) x y (by simpa using hx) (by simpa using hy))
        refine ⟨by simp [h3], ?_⟩
        intro j x y hx hy
        cases j with
        | zero => simp at hx hy; subst hx; subst hy; exact hq _ _ _ h1 (hr 0 c v rfl rfl)
        | succ j => exact h4 j x y (by simpa using hx) (by simpa using hy)

theorem leL_get' {R Q : Nat → AV → Value → Prop} (hq : ∀ j x y v, leA0 x y → R j x v → Q j y v) {cs ds : List AV} {vs : List Value} (h : leL cs ds) (hl : cs.length = vs.length) (hr : ∀ (j : Nat) x y, cs[j]? = some x → vs[j]? = some y → R j x y) :
    ds.length = vs.length ∧ ∀ (j : Nat) x y, ds[j]? = some x → vs[j]? = some y → Q j x y := by
  induction cs generalizing ds vs R Q with
  | nil =>
    simp only [leL] at h; subst h
    exact ⟨hl, by intro j x y hx; simp at hx⟩
  | cons c cs ih =>
    simp only [leL] at h
    cases ds with
    | nil => exact h.elim
    | cons d ds =>
      cases vs with
      | nil => simp at hl
      | cons v vs =>
        obtain ⟨h1, h2⟩ := h
        obtain ⟨h3, h4⟩ := ih (R := fun j => R (j + 1)) (Q := fun j => Q (j + 1)) (fun j => hq (j + 1)) h2 (by simpa using hl) (fun j x y hx hy => hr (j + 1) x y (by simpa using hx) (by simpa using hy))
        refine ⟨by simp [h3], ?_⟩
        intro j x y hx hy
        cases j with
        | zero => simp at hx hy; subst hx; subst hy; exact hq 0 _ _ _ h1 (hr 0 c v rfl rfl)
        | succ j => exact h4 j x y (by simpa using hx) (by simpa using hy)

theorem V.le {w : World} {lab : Labs} {loc : Locs} {x y : AV} {v : Value} (h : leA x y) (hV : V w lab loc x v) : V w lab loc y v := by
  unfold leA at h
  split at h
  · rename_i cs
    split at h <;> first | exact h.elim | skip
    rename_i ds
    obtain ⟨vs, rfl, hl, hr⟩ := hV.inv_agg
    obtain ⟨h1, h2⟩ := leL_get (R := V w lab loc) (Q := V w lab loc) (fun x y v h1 h2 => V.le0 h1 h2) h hl hr
    exact .agg _ _ h1 h2
  · exact hV.le0 h

theorem T.inv_agg {w : World} {lab : Labs} {p : Lab} {cs : List AV} {v : Value} (h : T w lab p (.agg cs) v) : ∃ vs : List Value, v = .agg ⟨vs⟩ ∧ cs.length = vs.length ∧ ∀ (j : Nat) x y, cs[j]? = some x → vs[j]? = some y → T w lab (p.down 0 j) x y := by
  cases h with
  | imm _ _ _ hI => cases hI with | agg _ vs hl hr => exact ⟨vs, rfl, hl, fun j x y hx hy => .imm _ _ _ (hr j x y hx hy)⟩
  | agg _ _ vs hl hr => exact ⟨vs, rfl, hl, hr⟩

theorem T.inv_tup {w : World} {lab : Labs} {p : Lab} {cs : List AV} {v : Value} (h : T w lab p (.tup cs) v) : ∃ vs : List Value, v = .tuple ⟨vs⟩ ∧ cs.length = vs.length ∧ ∀ (j : Nat) x y, cs[j]? = some x → vs[j]? = some y → T w lab (p.down 1 j) x y := by
  cases h with
  | imm _ _ _ hI => cases hI with | tup _ vs hl hr => exact ⟨vs, rfl, hl, fun j x y hx hy => .imm _ _ _ (hr j x y hx hy)⟩
  | tup _ _ vs hl hr => exact ⟨vs, rfl, hl, hr⟩

theorem T.le {w : World} {lab : Labs} {p : Lab} {x y : AV} {v : Value} (h : leA x y) (hT : T w lab p x v) : T w lab p y v := by
  unfold leA at h
  split at h
  · rename_i cs
    split at h <;> first | exact h.elim | skip
    rename_i ds
    obtain ⟨vs, rfl, hl, hr⟩ := hT.inv_agg
    obtain ⟨h1, h2⟩ := leL_get' (R := fun j => T w lab (p.down 0 j)) (Q := fun j => T w lab (p.down 0 j)) (fun j x y v h1 h2 => T.le0 h1 h2) h hl hr
    exact .agg _ _ _ h1 h2
  · exact hT.le0 h

theorem leLL_T {w : World} {lab : Labs} {p : Lab} {cs ds : List AV} {vs : List Value} {k : Nat} (h : leLL cs ds) (hl : cs.length = vs.length) (hr : ∀ (j : Nat) x y, cs[j]? = some x → vs[j]? = some y → T w lab (p.down 1 (k + j)) x y) :
    ds.length = vs.length ∧ ∀ (j : Nat) x y, ds[j]? = some x → vs[j]? = some y → T w lab (p.down 1 (k + j)) x y := by
  induction cs generalizing ds vs k with
  | nil =>
    simp only [leLL] at h; subst h
    exact ⟨hl, by intro j x y hx; simp at hx⟩
  | cons c cs ih =>
    simp only [leLL] at h
    cases ds with
    | nil => exact h.elim
    | cons d ds =>
      cases vs with
      | nil => simp at hl
      | cons v vs =>
        obtain ⟨h1, h2⟩ := h
        obtain ⟨h3, h4⟩ := ih (k := k + 1) h2 (by simpa using hl) (fun j x y hx hy => by
          have := hr (j + 1) x y (by simpa using hx) (by simpa using hy)
          rw [show k + (j + 1) = k + 1 + j by omega] at this; exact this)
        refine ⟨by simp [h3], ?_⟩
        intro j x y hx hy
        cases j with
        | zero => simp at hx hy; subst hx; subst hy; exact (hr 0 c v rfl rfl).le h1
        | succ j =>
          have := h4 j x y (by simpa using hx) (by simpa using hy)
          rw [show k + 1 + j = k + (j + 1) by omega] at this; exact this

theorem T.leT {w : World} {lab : Labs} {p : Lab} {x y : AV} {v : Value} (h : Go.AM.leT x y) (hT : T w lab p x v) : T w lab p y v := by
  unfold Go.AM.leT at h
  split at h
  · rename_i cs
    split at h <;> first | exact h.elim | skip
    rename_i ds
    obtain ⟨vs, rfl, hl, hr⟩ := hT.inv_tup
    obtain ⟨h1, h2⟩ := leLL_T (k := 0) h hl (fun j x y hx hy => by simpa using hr j x y hx hy)
    exact .tup _ _ _ h1 (fun j x y hx hy => by simpa using h2 j x y hx hy)
  · exact hT.le h

def argIn (k : Nat) (x : AV) : Option (AV × PlanO) :=
  match x with
  | .fn f cs => some (.fn f cs, [])
  | x => match thw (900 + k) (.arg k, []) x with
    | some (y, po, _) => some (y, po)
    | none => none

def argsIn : Nat → List AV → Option (List AV × PlanO)
  | _, [] => some ([], [])
  | k, x :: xs => match argIn k x, argsIn (k + 1) xs with
    | some (y, p), some (ys, ps) => some (y :: ys, p ++ ps)
    | _, _ => none

def enumFrom (k : Nat) : List AV → List (Nat × AV)
  | [] => []
  | x :: xs => (k, x) :: enumFrom (k + 1) xs

theorem look_enumFrom {xs : List AV} {k s : Nat} {x : AV} (h : look s (enumFrom k xs) = some x) : k ≤ s ∧ xs[s - k]? = some x := by
  induction xs generalizing k with
  | nil => cases h
  | cons y xs ih =>
    simp only [enumFrom, look] at h
    split at h
    · rename_i e; subst e; cases h; simp
    · obtain ⟨h1, h2⟩ := ih h
      refine ⟨by omega, ?_⟩
      rw [show s - k = (s - (k + 1)) + 1 by omega]
      simpa using h2

def resA (ti : TI) (st : St) : ResultVar → Option (AV × Prop)
  | .tmp t => match st.slot t with
    | some x => some (x, True)
    | none => none
  | .cell a t => match st.slot a with
    | some (.ptr id es i j) => loadA ti st.obj t (.ptr id es i j)
    | _ => none

def resAll (ti : TI) (st : St) : List ResultVar → Option (List AV × Prop)
  | [] => some ([], True)
  | r :: rs => match resA ti st r, resAll ti st rs with
    | some (x, ok), some (xs, oks) => some (x :: xs, ok ∧ oks)
    | _, _ => none

def tupOf : List AV → AV
  | [t] => t
  | ts => .tup ts

/-- the arguments that are handed back changed -/
def mutsF (st : St) : List (Nat × AV) → Option (PlanI × Prop)
  | [] => some ([], True)
  | (k, t) :: r => match st.slot k with
    | some x => match frz st.obj true k x, mutsF st r with
      | some (t', p, ok), some (ps, oks) => some (p ++ ps, leA t' t ∧ ok ∧ oks)
      | _, _ => none
    | none => none

def finOk (ti : TI) (rs : List ResultVar) (ow : List Nat) (muts : List (Nat × AV)) (st : St) (res : AV) : Prop :=
  match resAll ti st rs with
  | some (xs, ok1) => match frzAll st.obj ow (if xs.length = 1 then 1000 else 1001) xs, mutsF st muts with
    | some (ts, pl, ok2), some (pl2, ok3) => ok1 ∧ ok2 ∧ ok3 ∧ ((pl ++ pl2).all fun e => decide (look e.1 (pl ++ pl2) = some e.2)) = true ∧
        ((roOf ow (if xs.length = 1 then 1000 else 1001) xs).all fun i => (look i (pl ++ pl2)).isNone) = true ∧ leT (tupOf ts) res
    | _, _ => False
  | none => False

def mapR : Option Lab → Option Lab
  | some (.arg k, q) => if k = 1000 then some (.res, q) else if 1001 ≤ k then some (.res, (1, k - 1001) :: q) else some (.arg k, q)
  | none => none
  | some _ => some (.tmp, [])

def labF (lab : Labs) (pl : PlanI) (ro : List Nat) : Labs := fun b => if isTmp (lab b) = true then lab b else mapR (labC lab pl ro b)

def lab1 (lab : Labs) (po : PlanO) : Labs := fun b => if isTmp (lab b) = true then lab b else match lab b with
  | none => none
  | some (r, q) => match findP po r q with
    | some l => some l
    | none => some (.tmp, [])

section
variable {P : Program} {ti : TI} {w : World} {lab : Labs}

theorem argIn_sound {k : Nat} {x y : AV} {po : PlanO} {v : Value} (h : argIn k x = some (y, po)) (hx : T w lab (.arg k, []) x v) :
    ∃ L, Places w lab po L ∧ ∀ lab' loc', (∀ b, b < w.heap.size → lab b = none → lab' b = none) → (∀ l ∈ L, loc' l.1 = some l.2) → V w lab' loc' y v := by
  unfold argIn at h
  split at h
  · cases h
    refine ⟨[], Places.nil, ?_⟩
    intro lab' loc' hk _
    cases hx with
    | imm _ _ _ hi => exact .imm _ _ (hi.mono (fun b hb hl => ⟨hk b hb hl, rfl⟩) (Nat.le_refl _))
  · split at h <;> first | (cases h; done) | cases h
    rename_i ht
    obtain ⟨L, hP, hS⟩ := thw_sound ht hx
    exact ⟨L, hP, fun lab' loc' hk hL => hS lab' loc' (.inr hk) hL⟩

theorem argsIn_sound : ∀ (xs : List AV) (vs : List Value) (k : Nat) (ys : List AV) (po : PlanO), argsIn k xs = some (ys, po) → xs.length = vs.length →
    (∀ (i : Nat) x v, xs[i]? = some x → vs[i]? = some v → T w lab (.arg (k + i), []) x v) →
    ∃ L, Places w lab po L ∧ ys.length = vs.length ∧ ∀ lab' loc', (∀ b, b < w.heap.size → lab b = none → lab' b = none) → (∀ l ∈ L, loc' l.1 = some l.2) →
      ∀ (i : Nat) y v, ys[i]? = some y → vs[i]? = some v → V w lab' loc' y v := by
  intro xs
  induction xs with
  | nil =>
    intro vs k ys po h hl _
    simp [argsIn] at h
    obtain ⟨rfl, rfl⟩ := h
    exact ⟨[], Places.nil, hl, by intro _ _ _ _ i y v hi; simp at hi⟩
  | cons x xs ih =>
    intro vs k ys po h hl hv
    simp only [argsIn] at h
    split at h <;> first | (cases h; done) | cases h
    rename_i y p ys' ps h1 h2
    cases vs with
    | nil => simp at hl
    | cons v vs =>
      obtain ⟨L1, hP1, hS1⟩ := argIn_sound h1 (hv 0 x v rfl rfl)
      obtain ⟨L2, hP2, hl2, hS2⟩ := ih vs (k + 1) ys' ps h2 (by simpa using hl) (fun i z u hz hu => by
        have := hv (i + 1) z u (by simpa using hz) (by simpa using hu)
        rw [show k + (i + 1) = k + 1 + i by omega] at this; exact this)
      refine ⟨L1 ++ L2, hP1.append hP2, by simp [hl2], ?_⟩
      intro lab' loc' hk hL i y' v' hy hv'
      cases i with
      | zero =>
        simp at hy hv'; subst hy; subst hv'
        exact hS1 lab' loc' hk (fun l hl => hL l (List.mem_append_left _ hl))
      | succ i =>
        exact hS2 lab' loc' hk (fun l hl => hL l (List.mem_append_right _ hl)) i y' v' (by simpa using hy) (by simpa using hv')

/-- what a body begins with -/
theorem entry {args xs0 : List AV} {po : PlanO} {vals : List Value} {n : Nat} (h0 : argsIn 0 args = some (xs0, po)) (hap : apart po = true) (hnd : (po.map (·.2.1)).Nodup)
    (hroot : po.all (fun e => !decide (e.1.1 = .tmp)) = true) (hl : args.length = vals.length) (hn : args.length ≤ n)
    (hv : ∀ (k : Nat) x v, args[k]? = some x → vals[k]? = some v → T w lab (.arg k, []) x v) (hf : ∀ b, lab b ≠ none → b < w.heap.size) :
    Rep w lab ⟨n, enumFrom 0 xs0, po.map fun e => (e.2.1, some e.2.2)⟩ { tmps := (⟨vals⟩ : Array Value) ++ Array.replicate (n - (⟨vals⟩ : Array Value).size) undef, defers := [] } w := by
  rw [List.all_eq_true] at hroot
  obtain ⟨L, hP, hl2, hS⟩ := argsIn_sound args vals 0 xs0 po h0 hl (fun i x v hx hv' => by simpa using hv i x v hx hv')
  have hk : ∀ b, b < w.heap.size → lab b = none → lab1 lab po b = none := by
    intro b _ h; simp [lab1, h, isTmp]
  have h4 : ∀ e ∈ po, ∀ b q, lab b = some (e.1.app q) → lab1 lab po b = some (.obj e.2.1, q) := by
    intro e he b q hq
    have hr := hroot e he
    simp only [lab1]
    rw [if_neg]
    · rw [hq]; simp only [Lab.app]; rw [findP_mem hap he q]
    · intro ht
      rw [hq] at ht
      simp only [Lab.app, isTmp] at ht
      split at ht
      · rename_i hh
        simp only [Option.some.injEq, Prod.mk.injEq] at hh
        simp [hh.1] at hr
      · cases ht
  refine ⟨lab1 lab po, fun i => look i L, ?_, rfl, ?_, ?_, ?_, ?_, ?_⟩
  · simp; omega
  · intro s x hx
    obtain ⟨_, hx⟩ := look_enumFrom hx
    rw [Nat.sub_zero] at hx
    have hs : s < vals.length := by rw [← hl2]; exact (List.getElem?_eq_some_iff.1 hx).1
    have : (((⟨vals⟩ : Array Value) ++ Array.replicate (n - (⟨vals⟩ : Array Value).size) undef).getD s undef) = vals[s] := by
      simp [Array.getD_eq_getD_getElem?, Array.getElem?_append, hs]
    rw [this]
    exact hS (lab1 lab po) _ hk (fun l hl => look_places hP hnd hl) s x _ hx (List.getElem?_eq_getElem hs)
  · intro id nd hi
    have hlk := obj_look hi
    obtain ⟨e, he, h2⟩ := List.mem_map.1 (look_mem hlk)
    simp only [Prod.mk.injEq, Option.some.injEq] at h2
    obtain ⟨rfl, rfl⟩ := h2
    obtain ⟨l, hl, h1, h2⟩ := places_of_mem hP he
    refine ⟨l.2.1, l.2.2, by rw [← h1]; exact look_places hP hnd hl, h4 e he _ [] (by rw [Lab.app_nil]; exact h2.hlab), h2.blk, h2.es, ?_⟩
    intro i c j y hi hj
    obtain ⟨v, hv, hT⟩ := h2.cells i c j y hi hj
    refine ⟨v, hv, Or.inr (hT.relab (Or.inr hk) ?_)⟩
    intro b q _ hq
    rw [Lab.down_app] at hq
    exact h4 e he b _ hq
  · intro id hid
    show look id L = none
    cases hlk : look id L with
    | none => rfl
    | some bb =>
      exfalso
      obtain ⟨e, he, h1, _⟩ := look_L_mem hP hlk
      obtain ⟨x, hx⟩ := look_map_some (l := po.map fun e => (e.2.1, some e.2.2)) (i := id) (by
        simp only [List.map_map, List.mem_map, Function.comp]; exact ⟨e, he, h1⟩)
      have hm := look_mem hx
      obtain ⟨e', _, h2⟩ := List.mem_map.1 hm
      simp only [Prod.mk.injEq] at h2
      simp only [St.obj] at hid
      rw [hx, ← h2.2] at hid
      simp at hid
  · intro b hb
    apply hf
    intro h
    exact hb (by simp [lab1, h, isTmp])
  · refine ⟨Nat.le_refl _, rfl, rfl, fun b hb hs => ⟨?_, rfl⟩, fun b n h => h⟩
    simp only [lab1]
    split
    · rfl
    · rename_i ht
      cases hlb : lab b with
      | none => rfl
      | some l =>
        obtain ⟨r, q⟩ := l
        rw [hlb] at hs ht
        cases r with
        | tmp => simp [isTmp] at ht
        | _ => exact hs.elim

def resSem (tmps : Array Value) : ResultVar → Sem Value
  | .tmp t => pure (tmps.getD t undef)
  | .cell a t => do loadVar t (← asAddr (tmps.getD a undef))

theorem results_eq (fn : Func) (tmps : Array Value) : results fn tmps = (do
    let vs ← fn.results.mapM (resSem tmps)
    pure (if h : vs.size = 1 then vs[0] else .tuple vs)) := by
  unfold results
  congr 1

theorem results_run {fn : Func} {tmps : Array Value} {w : World} (vs : List Value) (hl : fn.results.toList.length = vs.length)
    (h : ∀ (i : Nat) r v, fn.results.toList[i]? = some r → vs[i]? = some v → (resSem tmps r).run P w = .ok v w) :
    (results fn tmps).run P w = .ok (if vs.length = 1 then vs.getD 0 undef else .tuple ⟨vs⟩) w := by
  have key : ∀ (rs : List ResultVar) (vs : List Value), rs.length = vs.length →
      (∀ (i : Nat) r v, rs[i]? = some r → vs[i]? = some v → (resSem tmps r).run P w = .ok v w) →
      (rs.mapM (m := Sem) (resSem tmps)).run P w = .ok vs w := by
    intro rs
    induction rs with
    | nil => intro vs hl _; cases vs with | nil => simp | cons => simp at hl
    | cons r rs ih =>
      intro vs hl h
      cases vs with
      | nil => simp at hl
      | cons v vs =>
        have h1 := h 0 r v rfl rfl
        have h2 := ih vs (by simpa using hl) fun i r v hr hv => h (i + 1) r v (by simpa using hr) (by simpa using hv)
        rw [List.mapM_cons]
        simp only [Sem.run_bind]
        rw [h1]
        simp only [Result.andThen_ok]
        rw [h2]
        simp
  have hm := key fn.results.toList vs hl h
  rw [results_eq, ← Array.toArray_toList (xs := fn.results), List.mapM_toArray]
  rw [Sem.run_bind]
  have hm2 : ((List.toArray <$> fn.results.toList.mapM (m := Sem) (resSem tmps)).run P w) = .ok ⟨vs⟩ w := by
    rw [map_eq_pure_bind, Sem.run_bind, hm]
    simp
  rw [hm2, Result.andThen_ok, Sem.run_pure]
  by_cases h1 : vs.length = 1
  · simp [h1]
  · simp [h1]

/-- what a body ends with -/
theorem mutsF_sound {w : World} {lab : Labs} {loc : Locs} {st : St} {a : Act} (hobjs : ∀ id nd, st.obj id = some nd → ∃ b base, loc id = some (b, base) ∧ ObjOk w lab loc id nd b base)
    (hslots : ∀ s x, st.slot s = some x → V w lab loc x (a.tmps.getD s undef)) {pl : PlanI} {ro : List Nat} : ∀ (muts : List (Nat × AV)) (p : PlanI) (ok : Prop), mutsF st muts = some (p, ok) → ok → (∀ e ∈ p, look e.1 pl = some e.2) →
    (∀ q ∈ muts, ∀ x, st.slot q.1 = some x → isFn x = false) → ∀ q ∈ muts, T w (labC lab pl ro) (.arg q.1, []) q.2 (a.tmps.getD q.1 undef) := by
  intro muts
  induction muts with
  | nil => intro p ok _ _ _ _ q hq; cases hq
  | cons m r ih =>
    intro p ok h hok hp hf q hq
    obtain ⟨k, t⟩ := m
    simp only [mutsF] at h
    split at h <;> first | (cases h; done) | skip
    rename_i x hx
    split at h <;> first | (cases h; done) | cases h
    rename_i t' p1 ok1 ps oks h1 h2
    obtain ⟨ht, hk1, hk2⟩ := hok
    rcases List.mem_cons.1 hq with rfl | hq
    · refine T.le ht ?_
      refine frz_sound hobjs h1 hk1 (hslots k x hx) (fun e he => hp e (List.mem_append_left _ he)) ?_
      rintro (h | ⟨f, cs, rfl⟩)
      · cases h
      · have := hf (k, t) List.mem_cons_self _ hx; simp [isFn] at this
    · exact ih ps oks h2 hk2 (fun e he => hp e (List.mem_append_right _ he)) (fun q hq => hf q (List.mem_cons_of_mem _ hq)) q hq

theorem leave {w0 : World} {lab0 : Labs} {fn : Func} {ow : List Nat} {muts : List (Nat × AV)} {st : St} {res : AV} {a : Act} {w : World} (hT : TOk P ti) (hR : Rep w0 lab0 st a w) (h : finOk ti fn.results.toList ow muts st res)
    (hmf : ∀ q ∈ muts, q.1 < 900 ∧ ∀ x, st.slot q.1 = some x → isFn x = false) :
    ∃ v labx, (results fn a.tmps).run P w = .ok v w ∧ T w labx (.res, []) res v ∧ (∀ q ∈ muts, T w labx (.arg q.1, []) q.2 (a.tmps.getD q.1 undef)) ∧ Ext lab0 w0 labx w ∧ ∀ b, labx b ≠ none → b < w.heap.size := by
  obtain ⟨lab, loc, hR⟩ := hR
  unfold finOk at h
  split at h <;> first | exact h.elim | skip
  rename_i xs ok1 hres
  split at h <;> first | exact h.elim | skip
  rename_i ts pl0 ok2 pl2 ok3 hfz hmu
  obtain ⟨pl, hpleq⟩ : ∃ pl, pl = pl0 ++ pl2 := ⟨_, rfl⟩
  rw [← hpleq] at h
  obtain ⟨hok1, hok2, hok3, hpl, hro, hle⟩ := h
  rw [List.all_eq_true] at hpl hro
  -- the results' values
  have hvals : ∀ (rs : List ResultVar) (xs : List AV) (ok : Prop), resAll ti st rs = some (xs, ok) → ok → ∃ vs : List Value, rs.length = vs.length ∧ xs.length = vs.length ∧
      (∀ (i : Nat) r v, rs[i]? = some r → vs[i]? = some v → (resSem a.tmps r).run P w = .ok v w) ∧ ∀ (i : Nat) x v, xs[i]? = some x → vs[i]? = some v → V w lab loc x v := by
    intro rs
    induction rs with
    | nil =>
      intro xs ok h _
      simp [resAll] at h
      obtain ⟨rfl, _⟩ := h
      exact ⟨[], rfl, rfl, by intro i r v hi; simp at hi, by intro i r v hi; simp at hi⟩
    | cons r rs ih =>
      intro xs ok h hok
      simp only [resAll] at h
      split at h <;> first | (cases h; done) | cases h
      rename_i x ok1 xs' oks h1 h2
      obtain ⟨vs, h3, h4, h5, h6⟩ := ih _ _ h2 hok.2
      have hx : ∃ v, (resSem a.tmps r).run P w = .ok v w ∧ V w lab loc x v := by
        unfold resA at h1
        split at h1
        · split at h1 <;> first | (cases h1; done) | cases h1
          rename_i hs
          exact ⟨_, by simp only [resSem, Sem.run_pure], hR.slots _ _ hs⟩
        · split at h1 <;> first | (cases h1; done) | skip
          rename_i t id es i j hs
          have hv := hR.slots _ _ hs
          obtain ⟨v, hr, hV⟩ := loadA_sound hT (P := P) (w := w) (lab := lab) (loc := loc) (nodes := st.obj) hR.objs h1 hok.1 hv
          refine ⟨v, ?_, hV⟩
          obtain ⟨nd, hnd⟩ : ∃ nd, st.obj id = some nd := by
            cases hn : st.obj id with
            | some nd => exact ⟨nd, rfl⟩
            | none => simp [loadA, hn] at h1
          obtain ⟨b, base, hl, _⟩ := hR.objs id nd hnd
          rw [hv.inv_ptr hl] at hr
          simp only [resSem]
          rw [hv.inv_ptr hl]
          simpa [Instr.loadAt, Instr.sureAddr, asAddr] using hr
      obtain ⟨v, hv1, hv2⟩ := hx
      refine ⟨v :: vs, by simp [h3], by simp [h4], ?_, ?_⟩
      · intro i r' v' hr' hv'
        cases i with
        | zero => simp at hr' hv'; subst hr'; subst hv'; exact hv1
        | succ i => exact h5 i r' v' (by simpa using hr') (by simpa using hv')
      · intro i r' v' hr' hv'
        cases i with
        | zero => simp at hr' hv'; subst hr'; subst hv'; exact hv2
        | succ i => exact h6 i r' v' (by simpa using hr') (by simpa using hv')
  obtain ⟨vs, hl1, hl2, hrun, hV⟩ := hvals _ _ _ hres hok1
  obtain ⟨k0, hk0⟩ : ∃ k, k = (if xs.length = 1 then 1000 else 1001) := ⟨_, rfl⟩
  rw [← hk0] at hfz hro
  obtain ⟨hts, hT'⟩ := frzAll_sound (w := w) (lab := lab) (loc := loc) (nodes := st.obj) hR.objs (pl := pl) (ro := roOf ow k0 xs) xs vs k0 ts pl0 ok2 hfz hok2 hl2 hV (fun e he => by simpa using hpl e (by rw [hpleq]; exact List.mem_append_left _ he)) (fun i hi => by
    have := hro i hi
    simp only [Option.isNone_iff_eq_none] at this
    exact ⟨this, hi⟩)
  -- labels
  have hC : ∀ b, isTmp (lab b) = true → labC lab pl (roOf ow k0 xs) b = some (.tmp, []) := by
    intro b h
    cases hlb : lab b with
    | none => rw [hlb] at h; simp [isTmp] at h
    | some l =>
      obtain ⟨r, q⟩ := l
      rw [hlb] at h
      cases r <;> first | (simp [isTmp] at h; done) | simp [labC, hlb]
  have n1 : ∀ b, labC lab pl (roOf ow k0 xs) b = none → labF lab pl (roOf ow k0 xs) b = none := by
    intro b h
    simp only [labF]
    rw [if_neg, h]; rfl
    intro ht; rw [hC b ht] at h; cases h
  have hMu := mutsF_sound (a := a) hR.objs hR.slots (pl := pl) (ro := roOf ow k0 xs) muts pl2 ok3 hmu hok3 (fun e he => by simpa using hpl e (by rw [hpleq]; exact List.mem_append_right _ he)) (fun q hq => (hmf q hq).2)
  have n2 : ∀ b k q, labC lab pl (roOf ow k0 xs) b = some (.arg k, q) → labF lab pl (roOf ow k0 xs) b = mapR (some (.arg k, q)) := by
    intro b k q h
    simp only [labF]
    rw [if_neg, h]
    intro ht; rw [hC b ht] at h; cases h
  refine ⟨_, labF lab pl (roOf ow k0 xs), results_run vs hl1 hrun, ?_, ?_, ?_, ?_⟩
  · refine T.leT hle ?_
    have hmv : ∀ (i : Nat) t v (p' : Lab), ts[i]? = some t → vs[i]? = some v → (∀ q, mapR (some (.arg (k0 + i), q)) = some (p'.app q)) → T w (labF lab pl (roOf ow k0 xs)) p' t v := by
      intro i t v p' ht hv hp
      refine (hT' i t v ht hv).move (fun b _ hb => ⟨n1 b hb, rfl⟩) ?_ (Nat.le_refl _)
      intro b q _ hq
      refine ⟨?_, rfl⟩
      rw [n2 b (k0 + i) q (by simpa [Lab.app] using hq), hp]
    by_cases h1 : xs.length = 1
    · rw [if_pos h1] at hk0
      have hv1 : vs.length = 1 := by rw [← hl2, h1]
      rw [if_pos hv1]
      obtain ⟨v, rfl⟩ := List.length_eq_one_iff.1 hv1
      obtain ⟨t, rfl⟩ := List.length_eq_one_iff.1 (show ts.length = 1 by rw [hts]; rfl)
      refine hmv 0 t v (.res, []) rfl rfl ?_
      intro q
      simp [mapR, hk0, Lab.app]
    · rw [if_neg h1] at hk0
      have hv1 : ¬ vs.length = 1 := by rw [← hl2]; exact h1
      rw [if_neg hv1]
      have htup : tupOf ts = .tup ts := by
        match ts, hts with
        | [], _ => rfl
        | [t], hts => exact absurd hts.symm hv1
        | _ :: _ :: _, _ => rfl
      rw [htup]
      refine .tup _ _ _ hts ?_
      intro j x y hx hy
      refine hmv j x y _ hx hy ?_
      intro q
      simp only [mapR]
      rw [if_neg (by omega), if_pos (by omega)]
      rw [show k0 + j - 1001 = j by omega]
      simp [Lab.app, Lab.down]
  · intro m hm
    refine (hMu m hm).move (fun b _ hb => ⟨n1 b hb, rfl⟩) ?_ (Nat.le_refl _)
    intro b q _ hq
    refine ⟨?_, rfl⟩
    have hlt := (hmf m hm).1
    rw [n2 b m.1 q (by simpa [Lab.app] using hq)]
    simp only [mapR]
    rw [if_neg (by omega), if_neg (by omega)]
    simp [Lab.app]
  · refine ⟨hR.ext.size, hR.ext.os, hR.ext.out, ?_, hR.ext.blk⟩
    intro b hb hs
    have hk := hR.ext.kept b hb hs
    refine ⟨?_, hk.2⟩
    simp only [labF]
    cases hlb : lab0 b with
    | none =>
      rw [hlb] at hk
      rw [if_neg (by rw [hk.1]; simp [isTmp])]
      simp [labC, hk.1, mapR]
    | some l =>
      obtain ⟨r, q⟩ := l
      rw [hlb] at hs hk
      cases r with
      | tmp => rw [if_pos (by rw [hk.1]; rfl), hk.1]
      | _ => exact hs.elim
  · intro b hb
    apply hR.fresh
    intro h
    exact hb (by simp [labF, h, isTmp, labC, mapR])

/-- an empty slice, nil or not -/
theorem DC.empty {f : FuncId} {es : Nat} {res : AV} {muts : List (Nat × AV)} (h1 : DC P f [.nils] res muts) (h2 : DC P f [.nel] res muts) : DC P f [.isl es []] res muts := by
  refine ⟨h1.body, ?_⟩
  intro w lab vals hl hv hf
  obtain ⟨v, rfl⟩ := List.length_eq_one_iff.1 (show vals.length = 1 by rw [← hl]; rfl)
  have h := hv 0 _ v rfl rfl
  have hI : I w lab (.isl es []) v := by cases h with | imm _ _ _ hI => exact hI
  have go : ∀ y, I w lab y v → ∀ (k : Nat) x u, [y][k]? = some x → [v][k]? = some u → T w lab (.arg k, []) x u := by
    intro y hy k x u hx hu
    cases k with
    | zero => simp at hx hu; subst hx; subst hu; exact .imm _ _ _ hy
    | succ k => simp at hx
  cases hI with
  | nsl => exact h1.calls w lab [_] rfl (go _ .nils) hf
  | esl _ a cap => exact h2.calls w lab [_] rfl (go _ (.nel a cap)) hf
  | isl _ _ b off cap vals hb hs hc hes hp hv hr => exact h2.calls w lab [_] rfl (go _ (.nel _ _)) hf

/-- a contract from a body -/
theorem DC.intro (hT : TOk P ti) {f : FuncId} {fn : Func} {c : Code} {args xs0 : List AV} {po : PlanO} {res : AV} {muts : List (Nat × AV)} (hfn : P.funcs[f]? = some fn) (hb : fn.body = some c) (hname : (fn.name == "runtime.NumGoroutine") = false)
    {rs : List ResultVar} (hrs : fn.results.toList = rs) {n : Nat} (hn' : fn.ntmps = n) (hn : (decide (args.length ≤ n)) = true) (h0 : argsIn 0 args = some (xs0, po)) (hc : (apart po && decide (po.map (·.2.1)).Nodup && po.all (fun e => !decide (e.1.1 = .tmp))) = true)
    (hm : (muts.all fun q => noW q.1 c && decide (q.1 < 900) && decide (q.1 < args.length)) = true) (ow : List Nat)
    (h : AW P c ⟨n, enumFrom 0 xs0, po.map fun e => (e.2.1, some e.2.2)⟩ fun e s => (e = .normal ∨ e = .ret) ∧ (muts.all fun q => match s.slot q.1 with | some x => !isFn x | none => true) = true ∧ finOk ti rs ow muts s res) : DC P f args res muts := by
  subst hrs; subst hn'
  simp only [Bool.and_eq_true, decide_eq_true_eq] at hc hn
  rw [List.all_eq_true] at hm
  obtain ⟨⟨h1, h2⟩, h3⟩ := hc
  refine ⟨⟨fn, hfn, by rw [hb]; rfl, hname⟩, ?_⟩
  intro w lab vals hl hv hf
  refine calls_of_wp hfn hb ?_
  refine wp_mono (h.go w lab _ w (entry h0 h1 h2 h3 hl hn hv hf)) ?_
  rintro e a' w' ⟨⟨s, ⟨he, hnf, hfin⟩, hR⟩, hpin⟩
  rw [List.all_eq_true] at hnf
  have hd : a'.defers = [] := by obtain ⟨_, _, hR'⟩ := hR; exact hR'.defers
  obtain ⟨v, labx, h4, h5, h8, h6, h7⟩ := leave hT hR hfin (fun q hq => ⟨by have := hm q hq; simp only [Bool.and_eq_true, decide_eq_true_eq] at this; exact this.1.2, fun x hx => by
    have := hnf q hq; rw [hx] at this; simpa using this⟩)
  have hpin' : e ≠ .outgrown → ∀ q ∈ muts, ∀ v, vals[q.1]? = some v → T w' labx (.arg q.1, []) q.2 v := by
    intro hne q hq v hv'
    have hq' := hm q hq
    simp only [Bool.and_eq_true, decide_eq_true_eq] at hq'
    have hp := hpin.resolve_left hne q.1 hq'.1.1
    have hx := h8 q hq
    rw [hp] at hx
    have hlt : q.1 < vals.length := by omega
    have hv2 : vals[q.1] = v := by rw [List.getElem?_eq_getElem hlt] at hv'; exact Option.some.inj hv'
    have : (((⟨vals⟩ : Array Value) ++ Array.replicate (fn.ntmps - (⟨vals⟩ : Array Value).size) undef).getD q.1 undef) = vals[q.1] := by
      simp [Array.getD_eq_getD_getElem?, Array.getElem?_append, hlt]
    rw [this, hv2] at hx
    exact hx
  rcases he with rfl | rfl
  · exact ⟨hd, v, h4, v, labx, rfl, h5, hpin' (by simp), h6, h7⟩
  · exact ⟨hd, v, h4, v, labx, rfl, h5, hpin' (by simp), h6, h7⟩

end

end Go.AM
