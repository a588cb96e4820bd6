/- The abstract machine, part 14: calls. -/
import Derived.Test.YtefkpiameojpoaaAm13
set_option linter.unusedVariables false
set_option linter.unusedSimpArgs false
namespace Go.AM

def strip : List (Nat × Nat) → List (Nat × Nat) → Option (List (Nat × Nat))
  | [], q => some q
  | a :: p, b :: q => if a = b then strip p q else none
  | _ :: _, [] => none

theorem strip_app (p q : List (Nat × Nat)) : strip p (p ++ q) = some q := by
  induction p with
  | nil => rfl
  | cons a p ih => simp [strip, ih]

def cmpb (a b : List (Nat × Nat)) : Bool := (strip a b).isSome || (strip b a).isSome

theorem strip_cmp {a b q r : List (Nat × Nat)} (h : strip a (b ++ q) = some r) : cmpb a b = true := by
  induction a generalizing b with
  | nil => simp [cmpb, strip]
  | cons x a ih =>
    cases b with
    | nil => simp [cmpb, strip]
    | cons y b =>
      simp only [List.cons_append, strip] at h
      split at h
      · rename_i e
        subst e
        have := ih h
        simpa [cmpb, strip] using this
      · cases h

abbrev PlanO := List (Lab × Nat × Node)

def findP : PlanO → Root → List (Nat × Nat) → Option Lab
  | [], _, _ => none
  | e :: l, r, p => if e.1.1 = r then match strip e.1.2 p with
      | some q => some (.obj e.2.1, q)
      | none => findP l r p
    else findP l r p

def apart : PlanO → Bool
  | [] => true
  | e :: l => l.all (fun f => !(decide (e.1.1 = f.1.1) && cmpb e.1.2 f.1.2)) && apart l

theorem findP_mem {po : PlanO} (h : apart po = true) {e : Lab × Nat × Node} (he : e ∈ po) (q : List (Nat × Nat)) : findP po e.1.1 (e.1.2 ++ q) = some (.obj e.2.1, q) := by
  induction po with
  | nil => cases he
  | cons f l ih =>
    simp only [apart, Bool.and_eq_true, List.all_eq_true] at h
    rcases List.mem_cons.1 he with rfl | he
    · simp [findP, strip_app]
    · have hne := h.1 e he
      have hi := ih h.2 he
      simp only [findP]
      by_cases hr : f.1.1 = e.1.1
      · rw [if_pos hr]
        cases hs : strip f.1.2 (e.1.2 ++ q) with
        | some r =>
          have := strip_cmp hs
          simp [hr, this] at hne
        | none => exact hi
      · rw [if_neg hr]; exact hi

/-! ### arguments that come back -/
def gb0 (p : Lab) (x t : AV) : Option PlanO :=
  match x with
  | .sl id es i _ => match t with
    | .osl es' l => if es' = es ∧ i = 0 then some [(p, id, ⟨es, l⟩)] else none
    | _ => none
  | .ptr id es i j => match t with
    | .op l => if l.length = es ∧ i = 0 ∧ j = 0 then some [(p, id, ⟨es, [l]⟩)] else none
    | _ => none
  | .agg _ | .tup _ | .fn _ _ | .gate _ _ => none
  | _ => some []

def gbL (p : Lab) : Nat → List AV → List AV → Option PlanO
  | _, [], [] => some []
  | j, x :: xs, t :: ts => match gb0 (p.down 0 j) x t, gbL p (j + 1) xs ts with
    | some a, some b => some (a ++ b)
    | _, _ => none
  | _, _, _ => none

def gb (p : Lab) (x t : AV) : Option PlanO :=
  match x with
  | .agg cs => match t with
    | .agg ts => gbL p 0 cs ts
    | _ => none
  | x => gb0 p x t

def gbAll (all : List AV) : List (Nat × AV) → Option PlanO
  | [] => some []
  | (k, t) :: r => match all[k]? with
    | some x => match gb (.arg k, []) x t, gbAll all r with
      | some a, some b => some (a ++ b)
      | _, _ => none
    | none => none

theorem gb0_sound {w w' : World} {lab labq : Labs} {loc : Locs} {p : Lab} {x t : AV} {po : PlanO} {v : Value} (h : gb0 p x t = some po) (hlive : ∀ i ∈ x.ids, ∃ bb, loc i = some bb)
    (hx : V w lab loc x v) (ht : T w' labq p t v) : ∃ L, Places w' labq po L ∧ ∀ l ∈ L, loc l.1 = some l.2 := by
  unfold gb0 at h
  split at h
  · rename_i id es i len
    split at h <;> first | (cases h; done) | skip
    rename_i es' l
    split at h <;> first | (cases h; done) | cases h
    rename_i hc
    obtain ⟨rfl, rfl⟩ := hc
    obtain ⟨⟨b, base⟩, hl⟩ := hlive id (by simp only [AV.ids]; exact List.mem_singleton.2 rfl)
    obtain ⟨a, cap, rfl, h1, h2, _⟩ := hx.inv_sl hl
    obtain ⟨b', base', cap', h3, _, _, h4⟩ := NodeAt.osl ht
    have ha : a = ⟨b, base, none⟩ := by rcases h2 with h | h; omega; simpa using h
    subst ha
    simp only [Value.slice.injEq, Option.some.injEq, Addr.mk.injEq, and_true] at h3
    obtain ⟨⟨rfl, rfl⟩, _, _⟩ := h3
    refine ⟨[(id, (b, base))], ⟨rfl, ?_⟩, by intro l hl'; simp at hl'; subst hl'; exact hl⟩
    intro k e l he hl'
    cases k with
    | zero => simp at he hl'; subst he; subst hl'; exact ⟨rfl, h4⟩
    | succ k => simp at he
  · rename_i id es i j
    split at h <;> first | (cases h; done) | skip
    rename_i l
    split at h <;> first | (cases h; done) | cases h
    rename_i hc
    obtain ⟨rfl, rfl, rfl⟩ := hc
    obtain ⟨⟨b, base⟩, hl⟩ := hlive id (by simp only [AV.ids]; exact List.mem_singleton.2 rfl)
    have h2 := hx.inv_ptr hl
    obtain ⟨b', base', h3, h4⟩ := NodeAt.op ht
    rw [h2] at h3
    simp only [Value.pointer.injEq, Option.some.injEq, Addr.mk.injEq, and_true, Nat.zero_mul, Nat.add_zero] at h3
    obtain ⟨rfl, rfl⟩ := h3
    refine ⟨[(id, (b, base))], ⟨rfl, ?_⟩, by intro l hl'; simp at hl'; subst hl'; exact hl⟩
    intro k e l' he hl'
    cases k with
    | zero => simp at he hl'; subst he; subst hl'; exact ⟨rfl, h4⟩
    | succ k => simp at he
  all_goals first
    | (cases h; done)
    | (cases h; exact ⟨[], Places.nil, by simp⟩)

theorem gbL_sound {w w' : World} {lab labq : Labs} {loc : Locs} {p : Lab} : ∀ (xs ts : List AV) (vs : List Value) (j : Nat) (po : PlanO), gbL p j xs ts = some po → (∀ i ∈ idsL xs, ∃ bb, loc i = some bb) →
    xs.length = vs.length → (∀ (i : Nat) x v, xs[i]? = some x → vs[i]? = some v → V w lab loc x v) → (∀ (i : Nat) t v, ts[i]? = some t → vs[i]? = some v → T w' labq (p.down 0 (j + i)) t v) →
    ∃ L, Places w' labq po L ∧ ∀ l ∈ L, loc l.1 = some l.2 := by
  intro xs
  induction xs with
  | nil =>
    intro ts vs j po h _ _ _ _
    cases ts with
    | nil => simp [gbL] at h; subst h; exact ⟨[], Places.nil, by simp⟩
    | cons => simp [gbL] at h
  | cons x xs ih =>
    intro ts vs j po h hlive hl hv ht
    cases ts with
    | nil => simp [gbL] at h
    | cons t ts =>
      simp only [gbL] at h
      split at h <;> first | (cases h; done) | cases h
      rename_i a b h1 h2
      cases vs with
      | nil => simp at hl
      | cons v vs =>
        obtain ⟨L1, hP1, hl1⟩ := gb0_sound h1 (fun i hi => hlive i (by simp only [idsL]; exact List.mem_append_left _ hi)) (hv 0 x v rfl rfl) (ht 0 t v rfl rfl)
        obtain ⟨L2, hP2, hl2⟩ := ih ts vs (j + 1) b h2 (fun i hi => hlive i (by simp only [idsL]; exact List.mem_append_right _ hi)) (by simpa using hl)
          (fun i y u hy hu => hv (i + 1) y u (by simpa using hy) (by simpa using hu))
          (fun i y u hy hu => by have := ht (i + 1) y u (by simpa using hy) (by simpa using hu); rw [show j + (i + 1) = j + 1 + i by omega] at this; exact this)
        refine ⟨L1 ++ L2, hP1.append hP2, ?_⟩
        intro l hl
        rcases List.mem_append.1 hl with hl | hl
        · exact hl1 l hl
        · exact hl2 l hl

theorem gb_sound {w w' : World} {lab labq : Labs} {loc : Locs} {p : Lab} {x t : AV} {po : PlanO} {v : Value} (h : gb p x t = some po) (hlive : ∀ i ∈ x.ids, ∃ bb, loc i = some bb)
    (hx : V w lab loc x v) (ht : T w' labq p t v) : ∃ L, Places w' labq po L ∧ ∀ l ∈ L, loc l.1 = some l.2 := by
  unfold gb at h
  split at h
  · rename_i cs
    split at h <;> first | (cases h; done) | skip
    rename_i ts
    obtain ⟨vs, rfl, hl, hr⟩ := hx.inv_agg
    have ht' : ∀ (j : Nat) x y, ts[j]? = some x → vs[j]? = some y → T w' labq (p.down 0 j) x y := by
      cases ht with
      | imm _ _ _ hi => cases hi with | agg _ _ hl hr => exact fun j x y hx hy => .imm _ _ _ (hr j x y hx hy)
      | agg _ _ _ hl hr => exact hr
    exact gbL_sound cs ts vs 0 po h (by simpa [AV.ids] using hlive) hl hr (fun i t v h1 h2 => by simpa using ht' i t v h1 h2)
  · exact gb0_sound h hlive hx ht

theorem gbAll_sound {w w' : World} {lab labq : Labs} {loc : Locs} {all : List AV} {vals : List Value} (hlive : ∀ i ∈ idsL all, ∃ bb, loc i = some bb) (hl : all.length = vals.length)
    (hv : ∀ (k : Nat) x v, all[k]? = some x → vals[k]? = some v → V w lab loc x v) : ∀ (muts : List (Nat × AV)) (po : PlanO), gbAll all muts = some po →
    (∀ p ∈ muts, ∀ v, vals[p.1]? = some v → T w' labq (.arg p.1, []) p.2 v) → ∃ L, Places w' labq po L ∧ ∀ l ∈ L, loc l.1 = some l.2 := by
  intro muts
  induction muts with
  | nil => intro po h _; simp [gbAll] at h; subst h; exact ⟨[], Places.nil, by simp⟩
  | cons m r ih =>
    intro po h hm
    obtain ⟨k, t⟩ := m
    simp only [gbAll] at h
    split at h <;> first | (cases h; done) | skip
    rename_i x hx
    split at h <;> first | (cases h; done) | cases h
    rename_i a b h1 h2
    have hk : k < vals.length := by rw [← hl]; exact (List.getElem?_eq_some_iff.1 hx).1
    obtain ⟨L1, hP1, hl1⟩ := gb_sound h1 (fun i hi => hlive i (mem_idsL (List.mem_of_getElem? hx) hi)) (hv k x _ hx (List.getElem?_eq_getElem hk)) (hm (k, t) List.mem_cons_self _ (List.getElem?_eq_getElem hk))
    obtain ⟨L2, hP2, hl2⟩ := ih b h2 (fun p hp => hm p (List.mem_cons_of_mem _ hp))
    refine ⟨L1 ++ L2, hP1.append hP2, ?_⟩
    intro l hl
    rcases List.mem_append.1 hl with hl | hl
    · exact hl1 l hl
    · exact hl2 l hl

/-! ### the arguments of a call -/
def frzAll (nodes : Nat → Option Node) (ow : List Nat) : Nat → List AV → Option (List AV × PlanI × Prop)
  | _, [] => some ([], [], True)
  | k, x :: xs => match frz nodes (decide (k ∈ ow)) k x, frzAll nodes ow (k + 1) xs with
    | some (t, p, ok), some (ts, ps, oks) => some (t :: ts, p ++ ps, ok ∧ oks)
    | _, _ => none

def isFn : AV → Bool
  | .fn _ _ => true
  | _ => false

def roOf (ow : List Nat) : Nat → List AV → List Nat
  | _, [] => []
  | k, x :: xs => (if decide (k ∈ ow) && !isFn x then [] else x.ids) ++ roOf ow (k + 1) xs

theorem frzAll_sound {w : World} {lab : Labs} {loc : Locs} {nodes : Nat → Option Node} (hn : ∀ id nd, nodes id = some nd → ∃ b base, loc id = some (b, base) ∧ ObjOk w lab loc id nd b base) {ow : List Nat} {pl : PlanI} {ro : List Nat} :
    ∀ (xs : List AV) (vs : List Value) (k : Nat) (ts : List AV) (p : PlanI) (ok : Prop), frzAll nodes ow k xs = some (ts, p, ok) → ok → xs.length = vs.length →
      (∀ (i : Nat) x v, xs[i]? = some x → vs[i]? = some v → V w lab loc x v) → (∀ e ∈ p, look e.1 pl = some e.2) → (∀ id ∈ roOf ow k xs, look id pl = none ∧ id ∈ ro) →
      ts.length = vs.length ∧ ∀ (i : Nat) t v, ts[i]? = some t → vs[i]? = some v → T w (labC lab pl ro) (.arg (k + i), []) t v := by
  intro xs
  induction xs with
  | nil =>
    intro vs k ts p ok h _ hl _ _ _
    simp [frzAll] at h
    obtain ⟨rfl, _, _⟩ := h
    exact ⟨hl, by intro i t v hi; simp at hi⟩
  | cons x xs ih =>
    intro vs k ts p ok h hok hl hv hp hro
    simp only [frzAll] at h
    split at h <;> first | (cases h; done) | cases h
    rename_i t p1 ok1 ts' ps oks h1 h2
    cases vs with
    | nil => simp at hl
    | cons v vs =>
      obtain ⟨hk1, hk2⟩ := hok
      have hA := frz_sound (pl := pl) (ro := ro) hn h1 hk1 (hv 0 x v rfl rfl) (fun e he => hp e (List.mem_append_left _ he)) (by
        intro hor id hid
        apply hro
        simp only [roOf, List.mem_append]
        left
        have : (decide (k ∈ ow) && !isFn x) = false := by
          rcases hor with ho | ⟨f, cs, rfl⟩
          · rw [ho]; rfl
          · simp [isFn]
        rw [this]; simpa using hid)
      obtain ⟨hB1, hB2⟩ := ih vs (k + 1) ts' ps oks h2 hk2 (by simpa using hl) (fun i y u hy hu => hv (i + 1) y u (by simpa using hy) (by simpa using hu))
        (fun e he => hp e (List.mem_append_right _ he)) (fun id hid => hro id (by simp only [roOf]; exact List.mem_append_right _ hid))
      refine ⟨by simp [hB1], ?_⟩
      intro i t' v' ht hv'
      cases i with
      | zero => simp at ht hv'; subst ht; subst hv'; exact hA
      | succ i =>
        have := hB2 i t' v' (by simpa using ht) (by simpa using hv')
        rw [show k + 1 + i = k + (i + 1) by omega] at this
        exact this

/-- the place of an object among the entries -/
theorem look_places {w : World} {lab : Labs} {po : PlanO} {L : List (Nat × (Nat × Nat))} (h : Places w lab po L) (hnd : (po.map (·.2.1)).Nodup) {l : Nat × (Nat × Nat)} (hl : l ∈ L) : look l.1 L = some l.2 := by
  have hids : L.map (·.1) = po.map (·.2.1) := by
    apply List.ext_getElem?
    intro k
    simp only [List.getElem?_map]
    cases hk : L[k]? with
    | none =>
      have : po.length ≤ k := by rw [← h.1]; exact List.getElem?_eq_none_iff.1 hk
      simp [List.getElem?_eq_none this]
    | some l =>
      have hk' : k < po.length := by rw [← h.1]; exact (List.getElem?_eq_some_iff.1 hk).1
      have := (h.2 k po[k] l (List.getElem?_eq_getElem hk') hk).1
      simp [List.getElem?_eq_getElem hk', this]
  rw [← hids] at hnd
  clear hids h
  induction L with
  | nil => cases hl
  | cons x L ih =>
    obtain ⟨i, bb⟩ := x
    simp only [List.map_cons, List.nodup_cons] at hnd
    rcases List.mem_cons.1 hl with rfl | hl2
    · simp [look]
    · simp only [look]
      rw [if_neg]
      · exact ih hnd.2 hl2
      · intro e
        exact hnd.1 (by rw [← e]; exact List.mem_map_of_mem hl2)

theorem look_L_mem {w : World} {lab : Labs} {po : PlanO} {L : List (Nat × (Nat × Nat))} (h : Places w lab po L) {i : Nat} {bb : Nat × Nat} (hl : look i L = some bb) : ∃ e ∈ po, e.2.1 = i ∧ NodeAt w lab e.1 e.2.2 bb.1 bb.2 := by
  have := look_mem hl
  obtain ⟨k, hk⟩ := List.mem_iff_getElem?.1 this
  have hk' : k < po.length := by rw [← h.1]; exact (List.getElem?_eq_some_iff.1 hk).1
  have := h.2 k po[k] _ (List.getElem?_eq_getElem hk') hk
  exact ⟨po[k], List.getElem_mem hk', this.1.symm, this.2⟩

theorem places_of_mem {w : World} {lab : Labs} {po : PlanO} {L : List (Nat × (Nat × Nat))} (h : Places w lab po L) {e : Lab × Nat × Node} (he : e ∈ po) : ∃ l ∈ L, l.1 = e.2.1 ∧ NodeAt w lab e.1 e.2.2 l.2.1 l.2.2 := by
  obtain ⟨k, hk⟩ := List.mem_iff_getElem?.1 he
  have hk' : k < L.length := by rw [h.1]; exact (List.getElem?_eq_some_iff.1 hk).1
  have := h.2 k e L[k] hk (List.getElem?_eq_getElem hk')
  exact ⟨L[k], List.getElem_mem hk', this.1, this.2⟩


/-! ### a call -/
structure CallIn where
  f : FuncId
  all : List AV
  ts : List AV
  pl : PlanI
  ok : Prop

/-- what is called, with what -/
def callIn (st : St) (o : Oper) (ow : List Nat) : Option CallIn :=
  match o.op with
  | .call c => match c.callee with
    | .value _ => match evs st o.op.operands.toList with
      | some (.fn f caps :: as) => match frzAll (nodesOf (obsOf st (.fn f caps :: as))) ow 0 (as ++ caps) with
        | some (ts, pl, ok) =>
          if pl.all (fun e => decide (look e.1 pl = some e.2)) = true ∧ (roOf ow 0 (as ++ caps)).all (fun i => (look i pl).isNone) = true ∧ (idsL (as ++ caps)).all (fun i => (nodesOf (obsOf st (.fn f caps :: as)) i).isSome) = true ∧ dstOk st o.dst = true then
            some ⟨f, as ++ caps, ts, pl, ok⟩
          else none
        | none => none
      | _ => none
    | _ => none
  | _ => none

/-- what is told behind a call -/
def callOut (st : St) (o : Oper) (ow : List Nat) (ci : CallIn) (vs : List AV) (res : AV) (muts : List (Nat × AV)) : Option (Eff × Prop) :=
  match thw (o.dst.getD 0) (.res, []) res, gbAll ci.all muts with
  | some (x, po1, _), some po2 =>
    if apart (po1 ++ po2) = true ∧ ((po1 ++ po2).map (·.2.1)).Nodup ∧ po2.all (fun e => (look e.2.1 ci.pl).isSome) = true ∧ (po1 ++ po2).all (fun e => !decide (e.1.1 = .tmp)) = true then
      some ({ rd := rdOf st o.op.operands.toList, ob := (po1.map fun e => (e.2.1, none)) ++ obsOf st vs, new := po1.map (·.2.1), wr := wrD o.dst x,
              up := ((po1 ++ po2).map fun e => (e.2.1, some e.2.2)) ++ ci.pl.map fun e => (e.1, none) },
        (∀ e ∈ po1, st.obj e.2.1 = none ∧ e.2.1 ∉ st.ids) ∧ (roOf ow 0 ci.all = [] ∨ (res.ownd = true ∧ ∀ e ∈ po1 ++ po2, owndLL e.2.2.l = true)))
    else none
  | _, _ => none

end Go.AM
