/- The abstract machine, part 22: steps that change only what is said: a cell's tree becomes an object, an object becomes a cell's tree, an object gets another id. -/
import Derived.Test.YtefkpiameojpoaaAm21
set_option linter.unusedVariables false
set_option linter.unusedSimpArgs false
namespace Go.AM

section
variable {P : Program} {st : St} {K : Exit → St → Prop}

theorem AW.ghost {c : Code} {st' : St} (hg : ∀ w0 lab0 a w, Rep w0 lab0 st a w → Rep w0 lab0 st' a w) (h : AW P c st' K) : AW P c st K :=
  ⟨fun w0 lab0 a w hR => h.go w0 lab0 a w (hg _ _ _ _ hR)⟩

def labT (lab : Labs) (id i j id' : Nat) : Labs := fun b => match lab b with
  | some (.obj k, p :: q) => if k = id ∧ p = (i, j) then some (.obj id', q) else some (.obj k, p :: q)
  | l => l

theorem labT_hit {lab : Labs} {id i j id' b : Nat} {q : List (Nat × Nat)} (h : lab b = some (.obj id, (i, j) :: q)) : labT lab id i j id' b = some (.obj id', q) := by simp [labT, h]
theorem labT_miss {lab : Labs} {id i j id' b : Nat} (h : ∀ q, lab b ≠ some (.obj id, (i, j) :: q)) : labT lab id i j id' b = lab b := by
  unfold labT
  split
  · rename_i k p q hb
    split
    · rename_i hk
      obtain ⟨rfl, rfl⟩ := hk
      exact absurd hb (h q)
    · rw [hb]
  · rfl

theorem set_get {α : Type} {l : List α} {i k : Nat} {x y : α} (h : (l.set i x)[k]? = some y) : (k = i ∧ y = x ∧ i < l.length) ∨ (k ≠ i ∧ l[k]? = some y) := by
  rw [List.getElem?_set] at h
  split at h
  · rename_i e
    split at h
    · cases h; exact Or.inl ⟨e.symm, rfl, by assumption⟩
    · cases h
  · rename_i e; exact Or.inr ⟨fun h => e h.symm, h⟩

theorem Rep.thaw {w0 : World} {lab0 : Labs} {a : Act} {w : World} (h : Rep w0 lab0 st a w) {id i j id' es : Nat} {nd : Node} {c : List AV} {l : List (List AV)} (h1 : st.obj id = some nd) (h2 : nd.l[i]? = some c)
    (h3 : c[j]? = some (.osl es l)) (h4 : st.obj id' = none) (h5 : id' ∉ st.ids) :
    Rep w0 lab0 ⟨st.n, st.slots, (id', some ⟨es, l⟩) :: (id, some ⟨nd.es, nd.l.set i (c.set j (.sl id' es 0 l.length))⟩) :: st.objs⟩ a w := by
  obtain ⟨lab, loc, hR⟩ := h
  obtain ⟨b, base, hl, ho⟩ := hR.objs id nd h1
  obtain ⟨v, hv, hc⟩ := ho.cells i c j _ h2 h3
  have hne : id ≠ id' := by rintro rfl; rw [h1] at h4; cases h4
  have hT : T w lab (.obj id, [(i, j)]) (.osl es l) v := by
    rcases hc with hc | hc
    · cases hc with | imm _ _ h => cases h
    · exact hc
  obtain ⟨b2, base2, cap, rfl, hcap, hblk, hN⟩ := NodeAt.osl hT
  have hlab : lab b = some (.obj id, []) := ho.hlab
  refine ⟨labT lab id i j id', fun k => if k = id' then some (b2, base2) else loc k, ?_⟩
  have hloc : ∀ k, k ∈ st.ids → (if k = id' then some (b2, base2) else loc k) = loc k := fun k hk => by rw [if_neg]; rintro rfl; exact h5 hk
  have hstill : ∀ b, still (lab b) → labT lab id i j id' b = lab b := fun b hs => labT_miss fun q hq => by rw [hq] at hs; exact hs.elim
  have hext : Ext lab w (labT lab id i j id') w := ⟨Nat.le_refl _, rfl, rfl, fun b _ hs => ⟨hstill b hs, rfl⟩, fun _ _ h => h⟩
  have := RepL.step (lab' := labT lab id i j id') (loc' := fun k => if k = id' then some (b2, base2) else loc k) hR
    { up := [(id', some ⟨es, l⟩), (id, some ⟨nd.es, nd.l.set i (c.set j (.sl id' es 0 l.length))⟩)] } (a' := a) (w' := w) rfl hR.defers hext (fun _ _ => rfl) (by intro s x hx; cases hx) ?_ ?_ ?_ ?_ ?_
  · exact this
  · intro k nk bk basek hk hu hlk
    simp only [look] at hu
    split at hu <;> first | (cases hu; done) | skip
    rename_i hk1
    split at hu <;> first | (cases hu; done) | skip
    rename_i hk2
    refine ⟨by rw [if_neg hk1]; exact hlk, fun b' q _ hb' => ⟨labT_miss fun q' hq' => ?_, rfl⟩⟩
    rw [hb'] at hq'; simp at hq'; exact hk2 hq'.1
  · intro k nk hk
    simp only [look] at hk
    split at hk
    · rename_i e; subst e
      simp at hk; subst hk
      refine ⟨b2, base2, by simp, labT_hit hN.hlab, hN.blk, hN.es, ?_⟩
      intro i2 c2 j2 x hi hj
      obtain ⟨v, hv, hx⟩ := hN.cells i2 c2 j2 x hi hj
      refine ⟨v, hv, Or.inr (hx.move (fun b _ hb => ⟨by rw [hstill b (by rw [hb]; trivial)]; exact hb, rfl⟩) ?_ (Nat.le_refl _))⟩
      intro b' q _ hq
      exact ⟨labT_hit (by rw [hq]; rfl), rfl⟩
    · split at hk <;> first | (cases hk; done) | skip
      rename_i hk1 e; subst e
      simp at hk; subst hk
      refine ⟨b, base, by simp only [if_neg hk1]; exact hl, by rw [labT_miss (by rw [hlab]; simp)]; exact hlab, by simpa using ho.blk, ?_, ?_⟩
      · intro x hx
        rcases List.mem_or_eq_of_mem_set hx with hx | rfl
        · exact ho.es x hx
        · rw [List.length_set]; exact ho.es c (List.mem_of_getElem? h2)
      · intro i2 c2 j2 x hi hj
        have hold : ∀ (c3 : List AV), nd.l[i2]? = some c3 → c3[j2]? = some x → (i2, j2) ≠ (i, j) → ∃ v, w.cell? ⟨b, base + i2 * nd.es + j2, none⟩ = some v ∧ Cell w (labT lab k i j id') (fun k => if k = id' then some (b2, base2) else loc k) (.obj k, [(i2, j2)]) x v := by
          intro c3 hi hj hne2
          obtain ⟨v, hv, hx⟩ := ho.cells i2 c3 j2 x hi hj
          refine ⟨v, hv, ?_⟩
          rcases hx with hx | hx
          · exact Or.inl (hx.mono (fun b _ hb => ⟨by rw [hstill b (by rw [hb]; trivial)]; exact hb, rfl⟩) (Nat.le_refl _) fun m hm bb bs hb => ⟨by rw [hloc m (ids_of_obj h1 (ids_of_cell hi hj hm))] at hb; exact hb, fun _ h => h⟩)
          · refine Or.inr (hx.move (fun b _ hb => ⟨by rw [hstill b (by rw [hb]; trivial)]; exact hb, rfl⟩) ?_ (Nat.le_refl _))
            intro b' q _ hq
            refine ⟨?_, rfl⟩
            rw [labT_miss, hq]
            intro q' hq'; rw [hq] at hq'; simp only [Lab.app, List.cons_append, List.nil_append, Option.some.injEq, Prod.mk.injEq, List.cons.injEq] at hq'
            exact hne2 (Prod.ext hq'.2.1.1 hq'.2.1.2)
        rcases set_get hi with ⟨rfl, rfl, hlt⟩ | ⟨hne2, hi⟩
        · rcases set_get hj with ⟨rfl, rfl, hlt⟩ | ⟨hne3, hj⟩
          · refine ⟨_, hv, Or.inl (.sl _ _ _ _ _ fun b' base' hb => ?_)⟩
            simp at hb
            obtain ⟨rfl, rfl⟩ := hb
            exact ⟨_, cap, rfl, hcap, Or.inr (by simp), by simpa using hblk⟩
          · exact hold c h2 hj (by intro e; cases e; exact hne3 rfl)
        · exact hold c2 hi hj (by intro e; cases e; exact hne2 rfl)
  · intro k hk
    have hk' : k ≠ id' ∧ st.obj k = none := by
      rcases hk with hk | ⟨hk, h0⟩
      · simp only [look] at hk
        split at hk <;> first | (cases hk; done) | skip
        split at hk <;> cases hk
      · simp only [look] at hk
        split at hk <;> first | (cases hk; done) | skip
        exact ⟨by assumption, h0⟩
    simp only [if_neg hk'.1]
    exact hR.dead k hk'.2
  · intro b' hb'
    apply hR.fresh
    intro e; apply hb'
    simp [labT, e]
  · intro k hk bk basek hb
    rw [hloc k hk] at hb; exact hb

theorem AW.thaw {code : Code} (id i j id' : Nat) {es : Nat} {nd : Node} {c : List AV} {l : List (List AV)} (h1 : st.obj id = some nd) (h2 : nd.l[i]? = some c)
    (h3 : c[j]? = some (.osl es l)) (h45 : st.obj id' = none ∧ id' ∉ st.ids) (h : AW P code ⟨st.n, st.slots, (id', some ⟨es, l⟩) :: (id, some ⟨nd.es, nd.l.set i (c.set j (.sl id' es 0 l.length))⟩) :: st.objs⟩ K) : AW P code st K :=
  AW.ghost (fun _ _ _ _ hR => hR.thaw h1 h2 h3 h45.1 h45.2) h

def labFo (lab : Labs) (id i j id' : Nat) : Labs := fun b => match lab b with
  | some (.obj k, q) => if k = id' then some (.obj id, (i, j) :: q) else some (.obj k, q)
  | l => l

theorem labFo_hit {lab : Labs} {id i j id' b : Nat} {q : List (Nat × Nat)} (h : lab b = some (.obj id', q)) : labFo lab id i j id' b = some (.obj id, (i, j) :: q) := by simp [labFo, h]
theorem labFo_miss {lab : Labs} {id i j id' b : Nat} (h : ∀ q, lab b ≠ some (.obj id', q)) : labFo lab id i j id' b = lab b := by
  unfold labFo
  split
  · rename_i k q hb
    split
    · rename_i hk
      subst hk
      exact absurd hb (h q)
    · rw [hb]
  · rfl

theorem Rep.fold {w0 : World} {lab0 : Labs} {a : Act} {w : World} (h : Rep w0 lab0 st a w) {id i j id' es : Nat} {nd : Node} {c : List AV} {l : List (List AV)} (h1 : st.obj id = some nd) (h2 : nd.l[i]? = some c)
    (h3 : c[j]? = some (.sl id' es 0 l.length)) (h4 : st.obj id' = some ⟨es, l⟩) (h5 : id ≠ id') (h6 : ∀ c ∈ l, ∀ x ∈ c, AV.tree x = true) :
    Rep w0 lab0 ⟨st.n, st.slots, (id', none) :: (id, some ⟨nd.es, nd.l.set i (c.set j (.osl es l))⟩) :: st.objs⟩ a w := by
  obtain ⟨lab, loc, hR⟩ := h
  obtain ⟨b, base, hl, ho⟩ := hR.objs id nd h1
  obtain ⟨b2, base2, hl2, ho2⟩ := hR.objs id' _ h4
  obtain ⟨v, hv, hc⟩ := ho.cells i c j _ h2 h3
  have hV : V w lab loc (.sl id' es 0 l.length) v := by
    rcases hc with hc | hc
    · exact hc
    · cases hc with | imm _ _ _ h => cases h
  obtain ⟨a0, cap, rfl, hcap, ha, hblk⟩ := hV.inv_sl hl2
  have ha : a0 = ⟨b2, base2, none⟩ := by rcases ha with h | h; omega; simpa using h
  subst ha
  have hlab : lab b = some (.obj id, []) := ho.hlab
  have hstill : ∀ b, still (lab b) → labFo lab id i j id' b = lab b := fun b hs => labFo_miss fun q hq => by rw [hq] at hs; exact hs.elim
  have himm : ∀ b, b < w.heap.size → lab b = none → labFo lab id i j id' b = none ∧ w.heap[b]? = w.heap[b]? := fun b _ hb => ⟨by rw [hstill b (by rw [hb]; trivial)]; exact hb, rfl⟩
  have hloc : ∀ k bb, (if k = id' then none else loc k) = some bb → loc k = some bb := fun k bb hb => by split at hb; cases hb; exact hb
  have hext : Ext lab w (labFo lab id i j id') w := ⟨Nat.le_refl _, rfl, rfl, fun b _ hs => ⟨hstill b hs, rfl⟩, fun _ _ h => h⟩
  refine ⟨labFo lab id i j id', fun k => if k = id' then none else loc k, ?_⟩
  have := RepL.step (lab' := labFo lab id i j id') (loc' := fun k => if k = id' then none else loc k) hR
    { up := [(id', none), (id, some ⟨nd.es, nd.l.set i (c.set j (.osl es l))⟩)] } (a' := a) (w' := w) rfl hR.defers hext (fun _ _ => rfl) (by intro s x hx; cases hx) ?_ ?_ ?_ ?_ ?_
  · exact this
  · intro k nk bk basek hk hu hlk
    simp only [look] at hu
    split at hu <;> first | (cases hu; done) | skip
    rename_i hk1
    split at hu <;> first | (cases hu; done) | skip
    rename_i hk2
    refine ⟨by rw [if_neg hk1]; exact hlk, fun b' q _ hb' => ⟨labFo_miss fun q' hq' => ?_, rfl⟩⟩
    rw [hb'] at hq'; simp at hq'; exact hk1 hq'.1
  · intro k nk hk
    simp only [look] at hk
    split at hk
    · simp at hk
    · split at hk <;> first | (cases hk; done) | skip
      rename_i hk1 e; subst e
      simp at hk; subst hk
      refine ⟨b, base, by simp only [if_neg hk1]; exact hl, by rw [labFo_miss (by rw [hlab]; simp; exact fun h => absurd h hk1)]; exact hlab, by simpa using ho.blk, ?_, ?_⟩
      · intro x hx
        rcases List.mem_or_eq_of_mem_set hx with hx | rfl
        · exact ho.es x hx
        · rw [List.length_set]; exact ho.es c (List.mem_of_getElem? h2)
      · intro i2 c2 j2 x hi hj
        have hold : ∀ (c3 : List AV), nd.l[i2]? = some c3 → c3[j2]? = some x → ∃ v, w.cell? ⟨b, base + i2 * nd.es + j2, none⟩ = some v ∧ Cell w (labFo lab k i j id') (fun k => if k = id' then none else loc k) (.obj k, [(i2, j2)]) x v := by
          intro c3 hi hj
          obtain ⟨v, hv, hx⟩ := ho.cells i2 c3 j2 x hi hj
          refine ⟨v, hv, ?_⟩
          rcases hx with hx | hx
          · exact Or.inl (hx.mono himm (Nat.le_refl _) fun m hm bb bs hb => ⟨hloc m _ hb, fun _ h => h⟩)
          · refine Or.inr (hx.move himm ?_ (Nat.le_refl _))
            intro b' q _ hq
            refine ⟨?_, rfl⟩
            rw [labFo_miss, hq]
            intro q' hq'; rw [hq] at hq'; simp only [Lab.app, Option.some.injEq, Prod.mk.injEq, Root.obj.injEq] at hq'
            exact hk1 hq'.1
        rcases set_get hi with ⟨rfl, rfl, hlt⟩ | ⟨hne2, hi⟩
        · rcases set_get hj with ⟨rfl, rfl, hlt⟩ | ⟨hne3, hj⟩
          · refine ⟨_, hv, Or.inr ?_⟩
            have hcl := ho2.cells
            have hch : ∃ vals : Nat → Nat → Value, ∀ i c j x, l[i]? = some c → c[j]? = some x → w.cell? ⟨b2, base2 + i * es + j, none⟩ = some (vals i j) ∧ Cell w lab loc (.obj id', [(i, j)]) x (vals i j) := by
              refine ⟨fun i j => (w.cell? ⟨b2, base2 + i * es + j, none⟩).getD undef, ?_⟩
              intro i c j x hi hj
              obtain ⟨v, hv, hx⟩ := hcl i c j x hi hj
              simp only at hv
              exact ⟨by simp only [hv, Option.getD_some], by simp only [hv, Option.getD_some]; exact hx⟩
            obtain ⟨vals, hvals⟩ := hch
            have hlen : ∀ i, i < l.length → ∃ c, l[i]? = some c ∧ c.length = es := fun i hi => ⟨l[i], List.getElem?_eq_getElem hi, ho2.es _ (List.getElem_mem hi)⟩
            refine .osl _ es l b2 base2 cap vals (labFo_hit ho2.hlab) (by simpa using hblk) hcap ho2.es h6 ?_ ?_
            · intro i3 j3 hi3 hj3
              obtain ⟨c3, h7, h8⟩ := hlen i3 hi3
              exact (hvals i3 c3 j3 _ h7 (List.getElem?_eq_getElem (by omega))).1
            · intro i3 c3 j3 x3 h7 h8
              have h9 := ((hvals i3 c3 j3 x3 h7 h8).2).tree (h6 c3 (List.mem_of_getElem? h7) x3 (List.mem_of_getElem? h8))
              refine h9.move himm ?_ (Nat.le_refl _)
              intro b' q _ hq
              exact ⟨by rw [labFo_hit hq]; simp [Lab.app, Lab.down], rfl⟩
          · exact hold c h2 hj
        · exact hold c2 hi hj
  · intro k hk
    by_cases e : k = id'
    · simp only [if_pos e]
    · simp only [if_neg e]
      rcases hk with hk | ⟨hk, h0⟩
      · simp only [look, if_neg e] at hk
        split at hk <;> cases hk
      · exact hR.dead k h0
  · intro b' hb'
    apply hR.fresh
    intro e; apply hb'
    simp [labFo, e]
  · intro k hk bk basek hb
    exact hloc k _ hb

theorem AW.fold {code : Code} (id i j id' : Nat) {es n : Nat} {nd : Node} {c : List AV} {l : List (List AV)} (h1 : st.obj id = some nd) (h2 : nd.l[i]? = some c)
    (h4 : st.obj id' = some ⟨es, l⟩) (h3 : c[j]? = some (.sl id' es 0 n)) (hn : n = l.length) (h5 : id ≠ id') (h6 : ∀ c ∈ l, ∀ x ∈ c, AV.tree x = true)
    (h : AW P code ⟨st.n, st.slots, (id', none) :: (id, some ⟨nd.es, nd.l.set i (c.set j (.osl es l))⟩) :: st.objs⟩ K) : AW P code st K :=
  AW.ghost (fun _ _ _ _ hR => hR.fold h1 h2 (by rw [h3, hn]) h4 h5 h6) h

/-! another id -/
mutual
def AV.ren (a b : Nat) : AV → AV
  | .ptr id es i j => .ptr (if id = a then b else id) es i j
  | .sl id es i n => .sl (if id = a then b else id) es i n
  | .fn f cs => .fn f (renL a b cs)
  | .agg cs => .agg (renL a b cs)
  | .tup cs => .tup (renL a b cs)
  | .gate e x => .gate e (x.ren a b)
  | .undef => .undef
  | .bool x => .bool x
  | .int k n => .int k n
  | .str s => .str s
  | .nilp => .nilp
  | .nils => .nils
  | .zsl => .zsl
  | .nel => .nel
  | .any => .any
  | .isl es l => .isl es l
  | .osl es l => .osl es l
  | .ip l => .ip l
  | .op l => .op l
def renL (a b : Nat) : List AV → List AV
  | [] => []
  | x :: xs => x.ren a b :: renL a b xs
end

theorem renL_eq (a b : Nat) (l : List AV) : renL a b l = l.map (AV.ren a b) := by induction l with | nil => rfl | cons x l ih => simp [renL, ih]

theorem I.ren {w : World} {lab : Labs} {x : AV} {v : Value} (h : I w lab x v) (a b : Nat) : x.ren a b = x := by
  have key : ∀ (cs : List AV) (vs : List Value), cs.length = vs.length → (∀ (j : Nat) x y, cs[j]? = some x → vs[j]? = some y → x.ren a b = x) → renL a b cs = cs := by
    intro cs vs hl ih
    rw [renL_eq]
    apply List.ext_getElem?
    intro j
    rw [List.getElem?_map]
    cases hj : cs[j]? with
    | none => rfl
    | some x =>
      have : j < vs.length := by rw [← hl]; exact (List.getElem?_eq_some_iff.1 hj).1
      simp [ih j x _ hj (List.getElem?_eq_getElem this)]
  induction h with
  | fn f cs vs hl _ ih => simp only [AV.ren]; rw [key cs vs hl ih]
  | agg cs vs hl _ ih => simp only [AV.ren]; rw [key cs vs hl ih]
  | tup cs vs hl _ ih => simp only [AV.ren]; rw [key cs vs hl ih]
  | _ => rfl

theorem V.ren {w : World} {lab lab' : Labs} {loc : Locs} {x : AV} {v : Value} (h : V w lab loc x v) {a b : Nat} (hlab : ∀ c, c < w.heap.size → lab c = none → lab' c = none) (hb : b ∉ x.ids) :
    V w lab' (fun k => if k = b then loc a else if k = a then none else loc k) (x.ren a b) v := by
  have key : ∀ id, id ≠ b → ∀ p, (if (if id = a then b else id) = b then loc a else if (if id = a then b else id) = a then none else loc (if id = a then b else id)) = some p → loc id = some p := by
    intro id hid p hp
    by_cases e : id = a
    · subst e; simpa using hp
    · simpa [e, hid] using hp
  have sub : ∀ (cs : List AV) (vs : List Value), cs.length = vs.length → b ∉ idsL cs → (∀ (j : Nat) x y, cs[j]? = some x → vs[j]? = some y → b ∉ x.ids → V w lab' (fun k => if k = b then loc a else if k = a then none else loc k) (x.ren a b) y) →
      (renL a b cs).length = vs.length ∧ ∀ (j : Nat) x y, (renL a b cs)[j]? = some x → vs[j]? = some y → V w lab' (fun k => if k = b then loc a else if k = a then none else loc k) x y := by
    intro cs vs hl hnb ih
    rw [renL_eq]
    refine ⟨by simp [hl], ?_⟩
    intro j x y hx hy
    rw [List.getElem?_map] at hx
    cases hj : cs[j]? with
    | none => rw [hj] at hx; cases hx
    | some z =>
      rw [hj] at hx; cases hx
      exact ih j z y hj hy fun h => hnb (mem_idsL (List.mem_of_getElem? hj) h)
  induction h with
  | imm x v h => rw [h.ren]; exact .imm _ _ (h.mono (fun c hc hl => ⟨hlab c hc hl, rfl⟩) (Nat.le_refl _))
  | undef v => exact .undef v
  | ptr id es i j v h =>
    simp only [AV.ids, List.mem_singleton] at hb
    exact .ptr _ _ _ _ _ fun bb base hh => h bb base (key id (fun e => hb e.symm) _ hh)
  | sl id es i len v h =>
    simp only [AV.ids, List.mem_singleton] at hb
    exact .sl _ _ _ _ _ fun bb base hh => h bb base (key id (fun e => hb e.symm) _ hh)
  | fn f cs vs hl _ ih =>
    obtain ⟨h1, h2⟩ := sub cs vs hl (by simpa [AV.ids] using hb) ih
    exact .fn f _ vs h1 h2
  | agg cs vs hl _ ih =>
    obtain ⟨h1, h2⟩ := sub cs vs hl (by simpa [AV.ids] using hb) ih
    exact .agg _ vs h1 h2
  | tup cs vs hl _ ih =>
    obtain ⟨h1, h2⟩ := sub cs vs hl (by simpa [AV.ids] using hb) ih
    exact .tup _ vs h1 h2
  | gate e x v _ ih => exact .gate e _ v fun he => ih he (by simpa [AV.ids] using hb)

def renS (a b : Nat) (l : List (Nat × AV)) : List (Nat × AV) := l.map fun p => (p.1, p.2.ren a b)

theorem look_renS {a b s : Nat} : ∀ {l : List (Nat × AV)}, look s (renS a b l) = (look s l).map (AV.ren a b) := by
  intro l
  induction l with
  | nil => rfl
  | cons p l ih =>
    simp only [renS, List.map_cons, look]
    split
    · rfl
    · exact ih

theorem Rep.rename {w0 : World} {lab0 : Labs} {ac : Act} {w : World} (h : Rep w0 lab0 st ac w) {a b : Nat} {nd : Node} (h1 : st.obj a = some nd) (h2 : st.obj b = none) (h3 : b ∉ st.ids) (h4 : a ∉ objIds st.objs) :
    Rep w0 lab0 ⟨st.n, renS a b st.slots, (b, some nd) :: (a, none) :: st.objs⟩ ac w := by
  obtain ⟨lab, loc, hR⟩ := h
  obtain ⟨bk, base, hl, ho⟩ := hR.objs a nd h1
  have hne : a ≠ b := by rintro rfl; rw [h1] at h2; cases h2
  have hstill : ∀ c, still (lab c) → labR lab a b c = lab c := fun c hs => labR_still hs
  have himm : ∀ c, c < w.heap.size → lab c = none → labR lab a b c = none ∧ w.heap[c]? = w.heap[c]? := fun c _ hc => ⟨labR_none hc, rfl⟩
  have hext : Ext lab w (labR lab a b) w := ⟨Nat.le_refl _, rfl, rfl, fun c _ hs => ⟨hstill c hs, rfl⟩, fun _ _ h => h⟩
  have hlocO : ∀ k, k ∈ objIds st.objs → ∀ bb, (if k = b then loc a else if k = a then none else loc k) = some bb → loc k = some bb := by
    intro k hk bb hb
    have hkb : k ≠ b := by rintro rfl; exact h3 (by simp only [St.ids, List.mem_append]; exact Or.inr hk)
    have hka : k ≠ a := by rintro rfl; exact h4 hk
    rw [if_neg hkb, if_neg hka] at hb; exact hb
  have hidO : ∀ {k : Nat} {nk : Node} {m : Nat}, st.obj k = some nk → m ∈ nk.ids → m ∈ objIds st.objs := by
    intro k nk m hk hm
    simp only [objIds, List.mem_flatMap]
    exact ⟨(k, some nk), look_mem (obj_look hk), hm⟩
  refine ⟨labR lab a b, fun k => if k = b then loc a else if k = a then none else loc k, hR.size, hR.defers, ?_, ?_, ?_, ?_, hR.ext.trans hext⟩
  · intro s x hx
    simp only [St.slot] at hx
    rw [look_renS] at hx
    cases hy : look s st.slots with
    | none => rw [hy] at hx; cases hx
    | some y =>
      rw [hy] at hx; cases hx
      exact (hR.slots s y hy).ren (fun c hc hl => labR_none hl) (fun hm => h3 (ids_of_slot (st := st) (s := s) hy hm))
  · intro k nk hk
    simp only [St.obj, look] at hk
    split at hk
    · rename_i e; subst e
      simp at hk; subst hk
      refine ⟨bk, base, by simp [hl], labR_same ho.hlab, ho.blk, ho.es, ?_⟩
      intro i c j x hi hj
      obtain ⟨v, hv, hx⟩ := ho.cells i c j x hi hj
      refine ⟨v, hv, ?_⟩
      rcases hx with hx | hx
      · exact Or.inl (hx.mono himm (Nat.le_refl _) fun m hm bb bs hb => ⟨hlocO m (hidO h1 (ids_of_cell hi hj hm)) _ hb, fun _ h => h⟩)
      · refine Or.inr (hx.move himm ?_ (Nat.le_refl _))
        intro b' q _ hq
        exact ⟨labR_same hq, rfl⟩
    · rename_i hkb
      split at hk
      · simp at hk
      · rename_i hka
        have hk' : st.obj k = some nk := hk
        obtain ⟨b2, base2, hl2, ho2⟩ := hR.objs k nk hk'
        refine ⟨b2, base2, by simp only [if_neg hkb, if_neg hka]; exact hl2, by rw [labR_other ho2.hlab hka]; exact ho2.hlab, ho2.blk, ho2.es, ?_⟩
        intro i c j x hi hj
        obtain ⟨v, hv, hx⟩ := ho2.cells i c j x hi hj
        refine ⟨v, hv, ?_⟩
        rcases hx with hx | hx
        · exact Or.inl (hx.mono himm (Nat.le_refl _) fun m hm bb bs hb => ⟨hlocO m (hidO hk' (ids_of_cell hi hj hm)) _ hb, fun _ h => h⟩)
        · refine Or.inr (hx.move himm ?_ (Nat.le_refl _))
          intro b' q _ hq
          exact ⟨by rw [labR_other hq hka]; exact hq, rfl⟩
  · intro k hk
    simp only [St.obj, look] at hk
    split at hk
    · simp at hk
    · rename_i hkb
      simp only [if_neg hkb]
      split at hk
      · rename_i hka; simp only [if_pos hka]
      · rename_i hka; simp only [if_neg hka]; exact hR.dead k hk
  · intro c hc
    exact hR.fresh c (labR_ne hc)

theorem AW.rename {code : Code} (a b : Nat) {nd : Node} (h1 : st.obj a = some nd) (h2 : st.obj b = none ∧ b ∉ st.ids) (h4 : a ∉ objIds st.objs)
    (h : AW P code ⟨st.n, renS a b st.slots, (b, some nd) :: (a, none) :: st.objs⟩ K) : AW P code st K :=
  AW.ghost (fun _ _ _ _ hR => hR.rename h1 h2.1 h2.2 h4) h

/-! saying less of a slot, of a cell -/
theorem Rep.slotLe {w0 : World} {lab0 : Labs} {ac : Act} {w : World} (h : Rep w0 lab0 st ac w) {s : Nat} {x y : AV} (h1 : st.slot s = some x) (h2 : leA x y) : Rep w0 lab0 ⟨st.n, (s, y) :: st.slots, st.objs⟩ ac w := by
  obtain ⟨lab, loc, hR⟩ := h
  refine ⟨lab, loc, hR.size, hR.defers, ?_, hR.objs, hR.dead, hR.fresh, hR.ext⟩
  intro s' z hz
  simp only [St.slot, look] at hz
  split at hz
  · rename_i e; subst e; cases hz; exact (hR.slots _ _ h1).le h2
  · exact hR.slots s' z hz

theorem AW.slotLe {code : Code} (s : Nat) {x : AV} (y : AV) (h1 : st.slot s = some x) (h2 : leA x y) (h : AW P code ⟨st.n, (s, y) :: st.slots, st.objs⟩ K) : AW P code st K :=
  AW.ghost (fun _ _ _ _ hR => hR.slotLe h1 h2) h

theorem Rep.cellLe {w0 : World} {lab0 : Labs} {ac : Act} {w : World} (h : Rep w0 lab0 st ac w) {id i j : Nat} {nd : Node} {c : List AV} {x y : AV} (h1 : st.obj id = some nd) (h2 : nd.l[i]? = some c) (h3 : c[j]? = some x) (h4 : leA0 x y) :
    Rep w0 lab0 ⟨st.n, st.slots, (id, some ⟨nd.es, nd.l.set i (c.set j y)⟩) :: st.objs⟩ ac w := by
  obtain ⟨lab, loc, hR⟩ := h
  refine ⟨lab, loc, hR.size, hR.defers, hR.slots, ?_, ?_, hR.fresh, hR.ext⟩
  · intro k nk hk
    simp only [St.obj, look] at hk
    split at hk
    · rename_i e; subst e
      simp at hk; subst hk
      obtain ⟨b, base, hl, ho⟩ := hR.objs k nd h1
      refine ⟨b, base, hl, ho.hlab, by simpa using ho.blk, ?_, ?_⟩
      · intro z hz
        rcases List.mem_or_eq_of_mem_set hz with hz | rfl
        · exact ho.es z hz
        · rw [List.length_set]; exact ho.es c (List.mem_of_getElem? h2)
      · intro i2 c2 j2 z hi hj
        rcases set_get hi with ⟨rfl, rfl, hlt⟩ | ⟨hne2, hi⟩
        · rcases set_get hj with ⟨rfl, rfl, hlt⟩ | ⟨hne3, hj⟩
          · obtain ⟨v, hv, hx⟩ := ho.cells i2 c j2 x h2 h3
            exact ⟨v, hv, hx.imp (fun h => h.le0 h4) (fun h => h.le0 h4)⟩
          · exact ho.cells i2 c j2 z h2 hj
        · exact ho.cells i2 c2 j2 z hi hj
    · exact hR.objs k nk hk
  · intro k hk
    simp only [St.obj, look] at hk
    split at hk
    · simp at hk
    · exact hR.dead k hk

theorem AW.cellLe {code : Code} (id i j : Nat) {nd : Node} {c : List AV} {x : AV} (y : AV) (h1 : st.obj id = some nd) (h2 : nd.l[i]? = some c) (h3 : c[j]? = some x) (h4 : leA0 x y)
    (h : AW P code ⟨st.n, st.slots, (id, some ⟨nd.es, nd.l.set i (c.set j y)⟩) :: st.objs⟩ K) : AW P code st K :=
  AW.ghost (fun _ _ _ _ hR => hR.cellLe h1 h2 h3 h4) h
theorem node_here {es i : Nat} {l : List (List AV)} {c : List AV} (h : i < l.length) : (⟨es, l.set i c⟩ : Node).l[i]? = some c := List.getElem?_set_self h
theorem AW.tidy {code : Code} (ks : List Nat) {st' : St} (h : st.keep ks = st') (hk : AW P code st' K) : AW P code st K := by
  subst h; exact AW.less (less_keep ks st) hk
end
end Go.AM
