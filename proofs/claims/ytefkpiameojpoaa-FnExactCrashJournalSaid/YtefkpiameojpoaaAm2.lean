/- The abstract machine, part 2: states, what a state says of a frame and a world, effects. -/
import Derived.Test.YtefkpiameojpoaaAm1
set_option linter.unusedVariables false
set_option linter.unusedSimpArgs false
namespace Go.AM

structure Node where
  es : Nat
  l : List (List AV)

def look {α : Type} (k : Nat) : List (Nat × α) → Option α
  | [] => none
  | (i, x) :: r => if k = i then some x else look k r

theorem look_append {α : Type} (k : Nat) (a b : List (Nat × α)) : look k (a ++ b) = (look k a).or (look k b) := by
  induction a with
  | nil => simp [look]
  | cons x a ih =>
    obtain ⟨i, x⟩ := x
    simp only [List.cons_append, look]
    split <;> simp [ih]

theorem look_none {α : Type} {k : Nat} {a : List (Nat × α)} (h : k ∉ a.map (·.1)) : look k a = none := by
  induction a with
  | nil => rfl
  | cons x a ih =>
    obtain ⟨i, x⟩ := x
    simp only [List.map_cons, List.mem_cons, not_or] at h
    simp only [look]
    rw [if_neg h.1]; exact ih h.2

theorem look_mem {α : Type} {k : Nat} {a : List (Nat × α)} {x : α} (h : look k a = some x) : (k, x) ∈ a := by
  induction a with
  | nil => cases h
  | cons y a ih =>
    obtain ⟨i, y⟩ := y
    simp only [look] at h
    split at h
    · rename_i e; subst e; cases h; exact List.mem_cons_self
    · exact List.mem_cons_of_mem _ (ih h)

structure St where
  n : Nat
  slots : List (Nat × AV)
  objs : List (Nat × Option Node)

def St.slot (st : St) (s : Nat) : Option AV := look s st.slots
def St.obj (st : St) (i : Nat) : Option Node := (look i st.objs).join

def Node.ids (nd : Node) : List Nat := nd.l.flatMap idsL
def oids : Option Node → List Nat
  | some nd => nd.ids
  | none => []
def slotIds (l : List (Nat × AV)) : List Nat := l.flatMap fun p => p.2.ids
def objIds (l : List (Nat × Option Node)) : List Nat := l.flatMap fun p => oids p.2
def St.ids (st : St) : List Nat := slotIds st.slots ++ objIds st.objs

theorem ids_of_slot {st : St} {s : Nat} {x : AV} (h : st.slot s = some x) {i : Nat} (hi : i ∈ x.ids) : i ∈ st.ids := by
  simp only [St.ids, List.mem_append, slotIds, List.mem_flatMap]
  exact Or.inl ⟨(s, x), look_mem h, hi⟩

theorem obj_look {st : St} {i : Nat} {nd : Node} (h : st.obj i = some nd) : look i st.objs = some (some nd) := by
  unfold St.obj at h
  cases e : look i st.objs with
  | none => simp [e] at h
  | some o => cases o with
    | none => simp [e] at h
    | some x => simp [e] at h; subst h; rfl

theorem ids_of_obj {st : St} {k : Nat} {nd : Node} (h : st.obj k = some nd) {i : Nat} (hi : i ∈ nd.ids) : i ∈ st.ids := by
  simp only [St.ids, List.mem_append, objIds, List.mem_flatMap]
  exact Or.inr ⟨(k, some nd), look_mem (obj_look h), hi⟩

theorem ids_of_cell {nd : Node} {i j : Nat} {c : List AV} {x : AV} (h1 : nd.l[i]? = some c) (h2 : c[j]? = some x) {k : Nat} (hk : k ∈ x.ids) : k ∈ nd.ids := by
  simp only [Node.ids, List.mem_flatMap]
  exact ⟨c, List.mem_of_getElem? h1, mem_idsL (List.mem_of_getElem? h2) hk⟩

/-- a cell's content: a slot's value, or a detached tree -/
def Cell (w : World) (lab : Labs) (loc : Locs) (p : Lab) (x : AV) (v : Value) : Prop := V w lab loc x v ∨ T w lab p x v

structure ObjOk (w : World) (lab : Labs) (loc : Locs) (id : Nat) (nd : Node) (b base : Nat) : Prop where
  hlab : lab b = some (.obj id, [])
  blk : Blk w b (base + nd.l.length * nd.es)
  es : ∀ c ∈ nd.l, c.length = nd.es
  cells : ∀ (i : Nat) c (j : Nat) x, nd.l[i]? = some c → c[j]? = some x → ∃ v, w.cell? ⟨b, base + i * nd.es + j, none⟩ = some v ∧ Cell w lab loc (.obj id, [(i, j)]) x v

structure RepL (w0 : World) (lab0 : Labs) (st : St) (a : Act) (w : World) (lab : Labs) (loc : Locs) : Prop where
  size : a.tmps.size = st.n
  defers : a.defers = []
  slots : ∀ s x, st.slot s = some x → V w lab loc x (a.tmps.getD s undef)
  objs : ∀ id nd, st.obj id = some nd → ∃ b base, loc id = some (b, base) ∧ ObjOk w lab loc id nd b base
  dead : ∀ id, st.obj id = none → loc id = none
  fresh : ∀ b, lab b ≠ none → b < w.heap.size
  ext : Ext lab0 w0 lab w

def Rep (w0 : World) (lab0 : Labs) (st : St) (a : Act) (w : World) : Prop := ∃ lab loc, RepL w0 lab0 st a w lab loc

/-- what one operation does to a state -/
structure Eff where
  rd : List (Nat × AV) := []
  ob : List (Nat × Option Node) := []
  new : List Nat := []
  wr : List (Nat × AV) := []
  up : List (Nat × Option Node) := []

def Eff.pre (e : Eff) (st : St) : Prop :=
  (∀ p ∈ e.rd, st.slot p.1 = some p.2) ∧ (∀ p ∈ e.ob, st.obj p.1 = p.2) ∧ (∀ i ∈ e.new, i ∉ st.ids)

def Eff.apply (e : Eff) (st : St) : St := { st with slots := e.wr ++ st.slots, objs := e.up ++ st.objs }

theorem slot_apply (e : Eff) (st : St) (s : Nat) : (e.apply st).slot s = (look s e.wr).or (st.slot s) := look_append _ _ _

theorem obj_apply (e : Eff) (st : St) (i : Nat) : (e.apply st).obj i = match look i e.up with | some o => o | none => st.obj i := by
  simp only [Eff.apply, St.obj, look_append]
  cases look i e.up with
  | none => rfl
  | some o => cases o <;> rfl

/-- states that say the same -/
structure St.Alike (st st' : St) : Prop where
  n : st'.n = st.n
  slot : ∀ s, st'.slot s = st.slot s
  obj : ∀ i, st'.obj i = st.obj i
  ids : ∀ i, i ∈ st'.ids ↔ i ∈ st.ids

theorem Rep.alike {w0 : World} {lab0 : Labs} {st st' : St} {a : Act} {w : World} (h : Rep w0 lab0 st a w) (e : St.Alike st st') : Rep w0 lab0 st' a w := by
  obtain ⟨lab, loc, h⟩ := h
  exact ⟨lab, loc, by rw [h.size, e.n], h.defers, fun s x hx => h.slots s x (by rw [← e.slot, hx]), fun i nd hn => h.objs i nd (by rw [← e.obj, hn]),
    fun i hi => h.dead i (by rw [← e.obj, hi]), h.fresh, h.ext⟩

/-- a state that says less -/
structure St.Less (st st' : St) : Prop where
  n : st'.n = st.n
  slot : ∀ s x, st'.slot s = some x → st.slot s = some x
  obj : ∀ i nd, st'.obj i = some nd → st.obj i = some nd

theorem V.forget {w : World} {lab : Labs} {loc loc' : Locs} {x : AV} {v : Value} (h : V w lab loc x v)
    (hl : ∀ id b base, loc' id = some (b, base) → loc id = some (b, base)) : V w lab loc' x v :=
  h.mono (fun _ _ h => ⟨h, rfl⟩) (Nat.le_refl _) fun id _ b base hb => ⟨hl id b base hb, fun _ h => h⟩

theorem Rep.less {w0 : World} {lab0 : Labs} {st st' : St} {a : Act} {w : World} (h : Rep w0 lab0 st a w) (e : St.Less st st') : Rep w0 lab0 st' a w := by
  obtain ⟨lab, loc, h⟩ := h
  let loc' : Locs := fun i => match st'.obj i with | some _ => loc i | none => none
  have hl : ∀ id b base, loc' id = some (b, base) → loc id = some (b, base) := by
    intro id b base hb
    simp only [loc'] at hb
    split at hb
    · exact hb
    · cases hb
  refine ⟨lab, loc', by rw [h.size, e.n], h.defers, fun s x hx => (h.slots s x (e.slot s x hx)).forget hl, ?_, ?_, h.fresh, h.ext⟩
  · intro i nd hn
    obtain ⟨b, base, h1, h2⟩ := h.objs i nd (e.obj i nd hn)
    refine ⟨b, base, by simp only [loc', hn]; exact h1, h2.hlab, h2.blk, h2.es, ?_⟩
    intro k c j x hc hx
    obtain ⟨v, hv, hx⟩ := h2.cells k c j x hc hx
    exact ⟨v, hv, hx.imp (fun h => h.forget hl) id⟩
  · intro i hi; simp only [loc', hi]


/-- the one lemma by which every operation's effect is told -/
theorem RepL.step {w0 : World} {lab0 : Labs} {st : St} {a a' : Act} {w w' : World} {lab lab' : Labs} {loc loc' : Locs} (h : RepL w0 lab0 st a w lab loc) (e : Eff)
    (hsize : a'.tmps.size = a.tmps.size) (hdef : a'.defers = []) (hext : Ext lab w lab' w')
    (hslots : ∀ s, look s e.wr = none → a'.tmps.getD s undef = a.tmps.getD s undef)
    (hwr : ∀ s x, look s e.wr = some x → V w' lab' loc' x (a'.tmps.getD s undef))
    (hkept : ∀ id nd b base, st.obj id = some nd → look id e.up = none → loc id = some (b, base) →
      loc' id = some (b, base) ∧ ∀ b' q, b' < w.heap.size → lab b' = some (.obj id, q) → lab' b' = lab b' ∧ w'.heap[b']? = w.heap[b']?)
    (hup : ∀ id nd, look id e.up = some (some nd) → ∃ b base, loc' id = some (b, base) ∧ ObjOk w' lab' loc' id nd b base)
    (hdead : ∀ id, look id e.up = some none ∨ (look id e.up = none ∧ st.obj id = none) → loc' id = none)
    (hfresh : ∀ b, lab' b ≠ none → b < w'.heap.size)
    (hloc : ∀ id, id ∈ st.ids → ∀ b base, loc' id = some (b, base) → loc id = some (b, base)) :
    RepL w0 lab0 (e.apply st) a' w' lab' loc' := by
  have hV : ∀ x v, (∀ i ∈ x.ids, i ∈ st.ids) → V w lab loc x v → V w' lab' loc' x v := fun x v hi hv =>
    hv.mono hext.imm hext.size fun id hid b base hb => ⟨hloc id (hi id hid) b base hb, fun n hn => hext.blk b n hn⟩
  refine ⟨by rw [hsize, h.size]; rfl, hdef, ?_, ?_, ?_, hfresh, h.ext.trans hext⟩
  · intro s x hx
    rw [slot_apply] at hx
    cases he : look s e.wr with
    | some y => rw [he] at hx; simp at hx; subst hx; exact hwr s _ he
    | none =>
      rw [he] at hx; simp at hx
      rw [hslots s he]
      exact hV x _ (fun i hi => ids_of_slot hx hi) (h.slots s x hx)
  · intro id nd hn
    rw [obj_apply] at hn
    cases he : look id e.up with
    | some o => rw [he] at hn; simp at hn; subst hn; exact hup id nd he
    | none =>
      rw [he] at hn; simp at hn
      obtain ⟨b, base, h1, h2⟩ := h.objs id nd hn
      obtain ⟨h3, h4⟩ := hkept id nd b base hn he h1
      refine ⟨b, base, h3, ?_⟩
      have hb := h4 b [] h2.blk.lt h2.hlab
      refine ⟨by rw [hb.1]; exact h2.hlab, h2.blk.same hb.2, h2.es, ?_⟩
      intro i c j x hi hj
      obtain ⟨v, hv, hx⟩ := h2.cells i c j x hi hj
      refine ⟨v, by rw [cell_same (a := ⟨b, base + i * nd.es + j, none⟩) hb.2]; exact hv, ?_⟩
      rcases hx with hx | hx
      · exact Or.inl (hV x v (fun k hk => ids_of_obj hn (ids_of_cell hi hj hk)) hx)
      · refine Or.inr (hx.move hext.imm ?_ hext.size)
        intro b' q hb' hq
        have := h4 b' _ hb' hq
        exact ⟨by rw [this.1, hq], this.2⟩
  · intro id hid
    rw [obj_apply] at hid
    cases he : look id e.up with
    | some o => rw [he] at hid; simp at hid; subst hid; exact hdead id (Or.inl he)
    | none => rw [he] at hid; simp at hid; exact hdead id (Or.inr ⟨he, hid⟩)

end Go.AM
