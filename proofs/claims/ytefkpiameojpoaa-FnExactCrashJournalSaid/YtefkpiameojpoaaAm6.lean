/- The abstract machine, part 6: built structs; all the operations that only compute, together. -/
import Derived.Test.YtefkpiameojpoaaAm5
set_option linter.unusedVariables false
set_option linter.unusedSimpArgs false
namespace Go.AM

theorem foldl_setIf (vs : List Value) : ∀ (k : Nat) (cs : Array Value) (off : Nat), off + k + vs.length ≤ cs.size →
    let r := (vs.zipIdx k).foldl (fun (cs : Array Value) (p : Value × Nat) => cs.setIfInBounds (off + p.2) p.1) cs
    r.size = cs.size ∧ ∀ m : Nat, r[m]? = if off + k ≤ m ∧ m < off + k + vs.length then vs[m - off - k]? else cs[m]? := by
  induction vs with
  | nil =>
    intro k cs off h
    refine ⟨rfl, fun m => ?_⟩
    simp only [List.zipIdx_nil, List.foldl_nil, List.length_nil]
    rw [if_neg (by omega)]
  | cons v vs ih =>
    intro k cs off h
    simp only [List.length_cons] at h
    have hh := ih (k + 1) (cs.setIfInBounds (off + k) v) off (by simp; omega)
    simp only [List.zipIdx_cons, List.foldl_cons]
    refine ⟨by rw [hh.1]; simp, fun m => ?_⟩
    rw [hh.2 m]
    simp only [List.length_cons]
    by_cases h1 : off + (k + 1) ≤ m ∧ m < off + (k + 1) + vs.length
    · rw [if_pos h1, if_pos (by omega)]
      have : m - off - k = (m - off - (k + 1)) + 1 := by omega
      rw [this, List.getElem?_cons_succ]
    · rw [if_neg h1]
      by_cases h2 : m = off + k
      · subst h2
        rw [if_pos (by omega)]
        have : off + k - off - k = 0 := by omega
        rw [this, Array.getElem?_setIfInBounds]
        rw [if_pos rfl, if_pos (by omega)]; rfl
      · rw [if_neg (by omega), Array.getElem?_setIfInBounds]
        rw [if_neg (by omega)]

/-- an array of cells and what is told of it -/
def CellsV (w : World) (lab : Labs) (loc : Locs) (xs : List AV) (c : Array Value) : Prop :=
  xs.length = c.size ∧ ∀ (j : Nat) x y, xs[j]? = some x → c[j]? = some y → V w lab loc x y

section snd
variable {P : Program} {ti : TI} (hT : TOk P ti) {w : World} {lab : Labs} {loc : Locs} {nodes : Nat → Option Node}
  (hn : ∀ id nd, nodes id = some nd → ∃ b base, loc id = some (b, base) ∧ ObjOk w lab loc id nd b base)

include hn in
theorem okCell_one {x : AV} {v : Value} (h : okCell nodes x = true) (hv : V w lab loc x v) : v.oneCell' = true := by
  unfold okCell at h
  simp only [Bool.and_eq_true, List.all_eq_true] at h
  obtain ⟨h1, h2⟩ := h
  cases hv with
  | imm _ _ hi => cases hi <;> first | rfl | (simp [AV.plain] at h1)
  | undef => simp [AV.plain] at h1
  | ptr id es i j v hh =>
    have := h2 id (by simp only [AV.ids]; exact List.mem_singleton.2 rfl)
    obtain ⟨nd, hnd⟩ := Option.isSome_iff_exists.1 this
    obtain ⟨b, base, hl, _⟩ := hn id nd hnd
    rw [hh b base hl]; rfl
  | sl id es i len v hh =>
    have := h2 id (by simp only [AV.ids]; exact List.mem_singleton.2 rfl)
    obtain ⟨nd, hnd⟩ := Option.isSome_iff_exists.1 this
    obtain ⟨b, base, hl, _⟩ := hn id nd hnd
    obtain ⟨a, cap, rfl, _⟩ := hh b base hl; rfl
  | fn => rfl
  | agg => simp [AV.plain] at h1
  | tup => simp [AV.plain] at h1
  | gate => simp [AV.plain] at h1

include hn in
/-- a value's cells -/
theorem isCells_sound {x : AV} {v : Value} (h : isCells nodes x = true) (hv : V w lab loc x v) : CellsV w lab loc x.cellsA v.cells := by
  by_cases ha : ∃ cs, x = .agg cs
  · obtain ⟨cs, rfl⟩ := ha
    obtain ⟨vs, rfl, hl, hr⟩ := hv.inv_agg
    exact ⟨by simp [AV.cellsA, Value.cells, hl], fun j x y hx hy => hr j x y hx (by simpa [Value.cells] using hy)⟩
  · have h1 : okCell nodes x = true := by
      unfold isCells at h
      split at h
      · rename_i cs; exact absurd ⟨cs, rfl⟩ ha
      · exact h
    have h2 : x.cellsA = [x] := by
      unfold AV.cellsA
      split
      · rename_i cs; exact absurd ⟨cs, rfl⟩ ha
      · rfl
    have h3 : v.cells = #[v] := by
      have := okCell_one hn h1 hv
      cases v <;> first | rfl | (simp [Value.oneCell'] at this)
    rw [h2, h3]
    refine ⟨rfl, ?_⟩
    intro j x' y hx hy
    cases j with
    | zero => simp at hx hy; subst hx; subst hy; exact hv
    | succ j => simp at hx

include hn in
theorem fill_sound {place placeA : Nat → Option (Nat × Nat)} (hp : ∀ i o n, placeA i = some (o, n) → place i = some (o, n)) :
    ∀ (parts : List (Nat × AV)) (vparts : List (Nat × Value)) (xs out : List AV) (c : Array Value), fillA nodes placeA xs parts = some out → CellsV w lab loc xs c →
      parts.length = vparts.length → (∀ (j : Nat) p q, parts[j]? = some p → vparts[j]? = some q → p.1 = q.1 ∧ V w lab loc p.2 q.2) →
      ∃ c', Instr.fill place c vparts = some c' ∧ CellsV w lab loc out c' := by
  intro parts
  induction parts with
  | nil =>
    intro vparts xs out c h hc hl _
    have : vparts = [] := List.eq_nil_of_length_eq_zero (by simpa using hl.symm)
    subst this
    simp [fillA] at h; subst h
    exact ⟨c, rfl, hc⟩
  | cons p parts ih =>
    intro vparts xs out c h hc hl hr
    obtain ⟨i, x⟩ := p
    cases vparts with
    | nil => simp at hl
    | cons q vparts =>
      obtain ⟨i', v⟩ := q
      obtain ⟨hi, hv⟩ := hr 0 _ _ rfl rfl
      simp at hi hv; subst hi
      simp only [fillA] at h
      split at h <;> first | (cases h; done) | skip
      rename_i off size hpl
      split at h <;> first | (cases h; done) | skip
      rename_i hcond
      obtain ⟨h1, h2, h3⟩ := hcond
      have hcv := isCells_sound hn h1 hv
      have hsz : v.cells.size = size := by rw [← hcv.1, h2]
      have hfold := foldl_setIf v.cells.toList 0 c off (by simp; have := hc.1; omega)
      simp only [Nat.add_zero, Array.length_toList, Nat.sub_zero] at hfold
      have hle : v.cells.zipIdx.foldl (fun cs (x : Value × Nat) => cs.setIfInBounds (off + x.2) x.1) c = (v.cells.toList.zipIdx).foldl (fun (cs : Array Value) (x : Value × Nat) => cs.setIfInBounds (off + x.2) x.1) c := by
        rw [← Array.foldl_toList]; simp
      have hnew : CellsV w lab loc (xs.take off ++ (x.cellsA ++ xs.drop (off + size))) (v.cells.zipIdx.foldl (fun cs (x : Value × Nat) => cs.setIfInBounds (off + x.2) x.1) c) := by
        rw [hle]
        refine ⟨by rw [hfold.1]; simp [h2]; have := hc.1; omega, ?_⟩
        intro j y z hy hz
        rw [hfold.2 j] at hz
        rw [List.getElem?_append] at hy
        have hc1 := hc.1
        have htk : (xs.take off).length = off := by simp; omega
        rw [htk] at hy
        by_cases hj1 : j < off
        · rw [if_pos hj1, List.getElem?_take, if_pos hj1] at hy
          rw [if_neg (by omega)] at hz
          exact hc.2 j y z hy hz
        · rw [if_neg hj1, List.getElem?_append, h2] at hy
          by_cases hj2 : j - off < size
          · rw [if_pos hj2] at hy
            rw [if_pos (by omega)] at hz
            exact hcv.2 (j - off) y z hy (by simpa using hz)
          · rw [if_neg hj2, List.getElem?_drop] at hy
            rw [if_neg (by omega)] at hz
            rw [show off + size + (j - off - size) = j by omega] at hy
            exact hc.2 j y z hy hz
      obtain ⟨c', hc', hout⟩ := ih vparts _ out _ h hnew (by simpa using hl) (fun j p q hp hq => hr (j + 1) p q (by simpa using hp) (by simpa using hq))
      refine ⟨c', ?_, hout⟩
      simp only [Instr.fill, hp _ _ _ hpl]
      rw [if_neg]
      · exact hc'
      · have := hc.1
        simp [hsz]; omega

theorem run_mapM_list {α β : Type} (f : α → Sem β) (g : α → β) (l : List α) (h : ∀ a ∈ l, (f a).run P w = .ok (g a) w) : (l.mapM f).run P w = .ok (l.map g) w := by
  induction l with
  | nil => simp [List.mapM_nil]
  | cons a l ih =>
    have h1 := h a List.mem_cons_self
    have h2 := ih fun b hb => h b (List.mem_cons_of_mem _ hb)
    simp [List.mapM_cons, h1, h2]

theorem run_mapM_array {α β : Type} (f : α → Sem β) (g : α → β) (l : Array α) (h : ∀ a ∈ l.toList, (f a).run P w = .ok (g a) w) : (l.mapM f).run P w = .ok (l.map g) w := by
  rw [Array.mapM_eq_mapM_toList]
  simp [run_mapM_list f g l.toList h]
  apply Array.ext'; simp

theorem zero_cells {zs : List Value} {z : List AV} (h : zs.mapM ofV = some z) : zs.length = z.length ∧ ∀ (j : Nat) x y, z[j]? = some x → zs[j]? = some y → ofV y = some x := by
  induction zs generalizing z with
  | nil => simp at h; subst h; simp
  | cons v zs ih =>
    simp only [List.mapM_cons, Option.bind_eq_bind] at h
    cases hv : ofV v with
    | none => simp [hv] at h
    | some x =>
      cases hl : zs.mapM ofV with
      | none => simp [hv, hl] at h
      | some z' =>
        simp [hv, hl] at h; subst h
        obtain ⟨h1, h2⟩ := ih hl
        refine ⟨by simp [h1], ?_⟩
        intro j a b ha hb
        cases j with
        | zero => simp at ha hb; subst ha; subst hb; exact hv
        | succ j => simp at ha hb; exact h2 j a b ha hb

include hT in
theorem t_zero {t : Nat} {i : TInfo} {z : List AV} (h : ti t = some i) (hz : i.zero = some z) :
    ∃ zv : Value, (∀ w, (zeroValue t).run P w = .ok zv w) ∧ zv.cells.toList.mapM ofV = some z ∧ z.length = i.size := by
  obtain ⟨info, h1, h2, h3, h4⟩ := (hT t i h).info
  obtain ⟨zv, h5, h6, h7⟩ := h4 z hz
  exact ⟨zv, fun w => by simp [zeroValue, typeInfo, h1, h5], h6, h7⟩

theorem zero_CellsV {zs : Array Value} {z : List AV} (h : zs.toList.mapM ofV = some z) : CellsV w lab loc z zs := by
  obtain ⟨h1, h2⟩ := zero_cells h
  exact ⟨by simpa using h1.symm, fun j x y hx hy => .imm _ _ (ofV_sound (h2 j x y hx (by simpa using hy)))⟩

include hT in
theorem places {t : Nat} (ha : allFields ti t = true) : ∃ (fields : Array Field) (pl : Array (Nat × Nat)), P.underlying t = some (.struct fields) ∧
    (∀ w : World, (fields.mapM fun f => do pure (f.offset, ← sizeOf f.type) : Sem (Array (Nat × Nat))).run P w = .ok pl w) ∧ ∀ i o n, placeOf ti t i = some (o, n) → pl[i]? = some (o, n) := by
  unfold allFields at ha
  have hk := tkind_ok hT t
  split at ha <;> first | (cases ha; done) | skip
  rename_i fs hk'
  rw [hk'] at hk
  obtain ⟨fields, hu, hf⟩ := hk
  let g : Field → Nat × Nat := fun f => (f.offset, match ti f.type with | some i => i.size | none => 0)
  refine ⟨fields, fields.map g, hu, ?_, ?_⟩
  · intro w
    refine run_mapM_array _ g fields ?_
    intro f hfm
    rw [List.all_eq_true] at ha
    have := ha (f.offset, f.type) (by rw [← hf]; exact List.mem_map_of_mem hfm)
    obtain ⟨i, hi⟩ := Option.isSome_iff_exists.1 this
    simp at hi
    simp [g, hi, t_sizeOf hT hi w]
  · intro i o n hp
    unfold placeOf at hp
    rw [hk'] at hp
    simp only at hp
    split at hp <;> first | (cases hp; done) | skip
    rename_i o' ft hfi
    split at hp <;> first | (cases hp; done) | cases hp
    rename_i fi hti
    rw [← hf] at hfi
    simp only [List.getElem?_map, Option.map_eq_some_iff, Prod.mk.injEq] at hfi
    obtain ⟨fd, h1, h2, h3⟩ := hfi
    simp at h1
    simp [h1, g, h2, h3, hti]

include hT hn in
theorem buildA_sound {t : Nat} {parts : List (Nat × AV)} {vparts : List (Nat × Value)} {z : AV} {ok : Prop} (h : buildA ti nodes t parts = some (z, ok))
    (hl : parts.length = vparts.length) (hr : ∀ (j : Nat) p q, parts[j]? = some p → vparts[j]? = some q → p.1 = q.1 ∧ V w lab loc p.2 q.2) :
    ∃ v, (Instr.build t vparts.toArray).run P w = .ok v w ∧ V w lab loc z v := by
  unfold buildA at h
  split at h <;> first | (cases h; done) | skip
  rename_i i hi
  split at h <;> first | (cases h; done) | skip
  rename_i zs hz
  split at h <;> first | (cases h; done) | skip
  rename_i hall
  split at h <;> first | (cases h; done) | cases h
  rename_i cells hf
  obtain ⟨zv, hzr, hzc, _⟩ := t_zero hT hi hz
  obtain ⟨fields, pl, hu, hm, hp⟩ := places hT hall
  obtain ⟨c', hc', hcv⟩ := fill_sound hn (place := (pl[·]?)) hp parts vparts zs cells zv.cells hf (zero_CellsV hzc) hl hr
  refine ⟨.agg c', ?_, ?_⟩
  · simp only [Instr.build, Sem.run_bind, hzr, Result.andThen_ok, run_underlying (P := P) hu, hm, hc']
    rfl
  · obtain ⟨c'⟩ := c'
    exact .agg _ _ (by simpa using hcv.1) (fun j x y hx hy => hcv.2 j x y hx (by simpa using hy))
end snd

/-! ### all of them -/
def liveA (nodes : Nat → Option Node) (x : AV) : Bool := x.ids.all fun i => (nodes i).isSome

def takeOpt {α : Type} (o : Option Operand) (l : List α) : Option α × List α :=
  match o with
  | none => (none, l)
  | some _ => (l.head?, l.drop 1)

/-- append(nil, what is empty) -/
def appNilA (ti : TI) (t tx : Nat) (b x : AV) : Option (AV × Prop) :=
  match b, x with
  | .nils, .nils => match tkind ti t, tkind ti tx with
    | .slice e, .slice _ => if (ti e).isSome = true then some (.nils, True) else none
    | _, _ => none
  | .nils, .isl _ l => match tkind ti t, tkind ti tx with
    | .slice e, .slice _ => if (ti e).isSome = true ∧ l.isEmpty = true then some (.nils, True) else none
    | _, _ => none
  | _, _ => none

def evalP (ti : TI) (nodes : Nat → Option Node) (op : Op) (vs : List AV) : Option (AV × Prop) :=
  match op with
  | .move _ | .assign _ => match vs with | [x] => some (x, True) | _ => none
  | .binOp b t _ _ _ => match vs with | [x, y] => if liveA nodes x then binA ti b t x y else none | _ => none
  | .unOp u _ _ => match vs with | [x] => unA u x | _ => none
  | .index t _ _ => match vs with | [x, y] => indexA ti t x y | _ => none
  | .indexAddr t _ _ => match vs with | [x, y] => indexAddrA ti nodes t x y | _ => none
  | .fieldAddr s _ f => match vs with | [x] => fieldAddrA ti nodes s f x | _ => none
  | .field s _ f => match vs with | [x] => fieldA ti s f x | _ => none
  | .load t _ => match vs with | [x] => loadA ti nodes t x | _ => none
  | .extract _ i => match vs with | [x] => extractA i x | _ => none
  | .convert s d _ => match vs with | [x] => convA ti nodes s d x | _ => none
  | .build t parts => if vs.length = parts.size then buildA ti nodes t ((parts.toList.map (·.1)).zip vs) else none
  | .makeFunc (.func f) first caps => if first.size = 0 ∧ vs.length = caps.size then some (.fn f vs, True) else none
  | .nilCheck _ => match vs with
    | [.ip l] => some (.ip l, True)
    | [.ptr id es i j] => match nodes id with | some _ => some (.ptr id es i j, True) | none => none
    | [.fn f cs] => some (.fn f cs, True)
    | _ => none
  | .slice t _ lo hi mx => match vs with
    | x :: r => sliceA ti nodes t x (takeOpt lo r).1 (takeOpt hi (takeOpt lo r).2).1 (takeOpt mx (takeOpt hi (takeOpt lo r).2).2).1
    | _ => none
  | .call c => match c.callee with
    | .builtin .len => match vs, c.argTypes.toList with | [x], [t] => lenA ti nodes t x | _, _ => none
    | .builtin .cap => match vs, c.argTypes.toList with | [x], [t] => capA ti t x | _, _ => none
    | .builtin .max => match vs with | [x, y] => minmaxA true x y | _ => none
    | .builtin .min => match vs with | [x, y] => minmaxA false x y | _ => none
    | .builtin .append => match vs, c.argTypes.toList with | [x, y], [t, tx] => appNilA ti t tx x y | _, _ => none
    | _ => none
  | _ => none

section snd
variable {P : Program} {ti : TI} (hT : TOk P ti) {w : World} {lab : Labs} {loc : Locs} {nodes : Nat → Option Node}
  (hn : ∀ id nd, nodes id = some nd → ∃ b base, loc id = some (b, base) ∧ ObjOk w lab loc id nd b base)

/-- operands and what is told of them -/
def OpsV (w : World) (lab : Labs) (loc : Locs) (xs : List AV) (vs : List Value) : Prop :=
  xs.length = vs.length ∧ ∀ (j : Nat) x y, xs[j]? = some x → vs[j]? = some y → V w lab loc x y

theorem OpsV.one {x : AV} {vs : List Value} (h : OpsV w lab loc [x] vs) : ∃ v, vs = [v] ∧ V w lab loc x v := by
  obtain ⟨h1, h2⟩ := h
  match vs, h1 with
  | [v], _ => exact ⟨v, rfl, h2 0 _ _ rfl rfl⟩

theorem OpsV.two {x y : AV} {vs : List Value} (h : OpsV w lab loc [x, y] vs) : ∃ v u, vs = [v, u] ∧ V w lab loc x v ∧ V w lab loc y u := by
  obtain ⟨h1, h2⟩ := h
  match vs, h1 with
  | [v, u], _ => exact ⟨v, u, rfl, h2 0 _ _ rfl rfl, h2 1 _ _ rfl rfl⟩

theorem OpsV.tail {x : AV} {xs : List AV} {v : Value} {vs : List Value} (h : OpsV w lab loc (x :: xs) (v :: vs)) : V w lab loc x v ∧ OpsV w lab loc xs vs :=
  ⟨h.2 0 _ _ rfl rfl, by have := h.1; simp at this; exact this, fun j a b ha hb => h.2 (j + 1) a b (by simpa using ha) (by simpa using hb)⟩

theorem takeOpt_V {o : Option Operand} {xs : List AV} {ρ : Operand → Value} {rest : List Value} (h : OpsV w lab loc xs ((o.map ρ).toList ++ rest)) :
    OptV w lab loc (takeOpt o xs).1 (o.map ρ) ∧ OpsV w lab loc (takeOpt o xs).2 rest := by
  cases o with
  | none => exact ⟨Or.inl ⟨rfl, rfl⟩, by simpa [takeOpt] using h⟩
  | some y =>
    simp only [Option.map_some, Option.toList_some, List.singleton_append] at h
    cases xs with
    | nil => have := h.1; simp at this
    | cons x xs =>
      obtain ⟨h1, h2⟩ := h.tail
      exact ⟨Or.inr ⟨x, ρ y, rfl, rfl, h1⟩, h2⟩

include hT in
theorem appNilA_sound {t tx ty : Nat} {x y z : AV} {ok : Prop} (h : appNilA ti t tx x y = some (z, ok)) {vx vy : Value} (hx : V w lab loc x vx) (hy : V w lab loc y vy) :
    ∃ v, (Builtin.append_ #[t, tx] ty #[vx, vy]).run P w = .ok v w ∧ V w lab loc z v := by
  have hk := tkind_ok hT t
  have hkx := tkind_ok hT tx
  unfold appNilA at h
  split at h
  · split at h <;> first | (cases h; done) | skip
    rename_i e e' h1 h2
    split at h <;> first | (cases h; done) | cases h
    rename_i hs
    obtain ⟨i, hi⟩ := Option.isSome_iff_exists.1 hs
    obtain ⟨info, i1, _⟩ := (hT e i hi).info
    rw [h1] at hk; rw [h2] at hkx
    rw [hy.inv_nils]
    have hx' := hx
    rw [hx.inv_nils] at hx' ⊢
    exact ⟨_, by simp [Builtin.append_, run_underlying hk, run_underlying hkx, sizeOf, typeInfo, i1, Builtin.lenOf, Builtin.firstCells], hx'⟩
  · split at h <;> first | (cases h; done) | skip
    rename_i e e' h1 h2
    split at h <;> first | (cases h; done) | cases h
    rename_i hs
    obtain ⟨i, hi⟩ := Option.isSome_iff_exists.1 hs.1
    obtain ⟨info, i1, _⟩ := (hT e i hi).info
    rw [h1] at hk; rw [h2] at hkx
    have hl := List.isEmpty_iff.1 hs.2
    subst hl
    have hx' := hx
    rw [hx.inv_nils] at hx' ⊢
    cases hy.inv_isl <;>
      exact ⟨_, by simp [Builtin.append_, run_underlying hk, run_underlying hkx, sizeOf, typeInfo, i1, Builtin.lenOf, Builtin.firstCells, loadCells, loadCellsFrom], hx'⟩
  · cases h

include hT hn in
theorem evalP_sound {o : Oper} {ρ : Operand → Value} {vs : List AV} {z : AV} {ok : Prop} (h : evalP ti nodes o.op vs = some (z, ok)) (hok : ok)
    (hv : OpsV w lab loc vs (o.op.operands.toList.map ρ)) : ∃ v, (execOp ρ o).run P w = .ok (.value v) w ∧ V w lab loc z v := by
  have fin : ∀ {s : Sem Value}, (execOp ρ o = do pure (.value (← s))) → (∃ v, s.run P w = .ok v w ∧ V w lab loc z v) → ∃ v, (execOp ρ o).run P w = .ok (.value v) w ∧ V w lab loc z v := by
    intro s hs ⟨v, h1, h2⟩
    exact ⟨v, by rw [hs]; simp [h1], h2⟩
  unfold evalP at h
  split at h
  · rename_i x ho
    split at h <;> first | (cases h; done) | cases h
    rw [ho] at hv
    obtain ⟨v, h1, h2⟩ := hv.one
    simp [Op.operands] at h1; subst h1
    exact ⟨ρ x, by simp [execOp, ho], h2⟩
  · rename_i x ho
    split at h <;> first | (cases h; done) | cases h
    rw [ho] at hv
    obtain ⟨v, h1, h2⟩ := hv.one
    simp [Op.operands] at h1; subst h1
    exact ⟨ρ x, by simp [execOp, ho], h2⟩
  · rename_i b t x y ty ho
    split at h <;> first | (cases h; done) | skip
    split at h <;> first | (cases h; done) | skip
    rename_i hlive
    rw [ho] at hv
    obtain ⟨v, u, h1, h2, h3⟩ := hv.two
    simp [Op.operands] at h1
    obtain ⟨rfl, rfl⟩ := h1
    refine fin (s := do eqGuard b t x y (ρ x) (ρ y); binOp b t (ρ x) (ρ y)) (by simp [execOp, ho]) ?_
    refine binA_sound hT h hok h2 h3 ?_ x y
    intro i hi
    unfold liveA at hlive
    rw [List.all_eq_true] at hlive
    obtain ⟨nd, hnd⟩ := Option.isSome_iff_exists.1 (hlive i hi)
    obtain ⟨b, base, hl, _⟩ := hn i nd hnd
    exact ⟨_, hl⟩
  · rename_i u t x ho
    split at h <;> first | (cases h; done) | skip
    rw [ho] at hv
    obtain ⟨v, h1, h2⟩ := hv.one
    simp [Op.operands] at h1; subst h1
    exact fin (s := Op.unary u (ρ x)) (by simp [execOp, ho]) (unA_sound h h2)
  · rename_i t x y ho
    split at h <;> first | (cases h; done) | skip
    rw [ho] at hv
    obtain ⟨v, u, h1, h2, h3⟩ := hv.two
    simp [Op.operands] at h1
    obtain ⟨rfl, rfl⟩ := h1
    exact fin (s := Instr.index t (ρ x) (ρ y)) (by simp [execOp, ho]) (indexA_sound hT h hok h2 h3)
  · rename_i t x y ho
    split at h <;> first | (cases h; done) | skip
    rw [ho] at hv
    obtain ⟨v, u, h1, h2, h3⟩ := hv.two
    simp [Op.operands] at h1
    obtain ⟨rfl, rfl⟩ := h1
    exact fin (s := Instr.indexAt t (ρ x) (ρ y)) (by simp [execOp, ho]) (indexAddrA_sound hT hn h hok h2 h3)
  · rename_i s x f ho
    split at h <;> first | (cases h; done) | skip
    rw [ho] at hv
    obtain ⟨v, h1, h2⟩ := hv.one
    simp [Op.operands] at h1; subst h1
    exact fin (s := Instr.fieldAt s (ρ x) f) (by simp [execOp, ho]) (fieldAddrA_sound hT hn h h2)
  · rename_i s x f ho
    split at h <;> first | (cases h; done) | skip
    rw [ho] at hv
    obtain ⟨v, h1, h2⟩ := hv.one
    simp [Op.operands] at h1; subst h1
    exact fin (s := Instr.field s (ρ x) f) (by simp [execOp, ho]) (fieldA_sound hT h hok h2)
  · rename_i t x ho
    split at h <;> first | (cases h; done) | skip
    rw [ho] at hv
    obtain ⟨v, h1, h2⟩ := hv.one
    simp [Op.operands] at h1; subst h1
    exact fin (s := Instr.loadAt t (ρ x)) (by simp [execOp, ho]) (loadA_sound hT hn h hok h2)
  · rename_i x i ho
    split at h <;> first | (cases h; done) | skip
    rw [ho] at hv
    obtain ⟨v, h1, h2⟩ := hv.one
    simp [Op.operands] at h1; subst h1
    exact fin (s := Instr.extract (ρ x) i) (by simp [execOp, ho]) (extractA_sound h hok h2)
  · rename_i s d x ho
    split at h <;> first | (cases h; done) | skip
    rw [ho] at hv
    obtain ⟨v, h1, h2⟩ := hv.one
    simp [Op.operands] at h1; subst h1
    exact fin (s := convert s d (ρ x)) (by simp [execOp, ho]) (convA_sound hT hn h hok h2)
  · rename_i t parts ho
    split at h <;> first | (cases h; done) | skip
    rename_i hlen
    rw [ho] at hv
    have hops : (Op.operands (.build t parts)).toList.map ρ = parts.toList.map fun p => ρ p.2 := by simp [Op.operands]
    rw [hops] at hv
    refine fin (s := Instr.build t (parts.map fun (i, x) => (i, ρ x))) (by simp [execOp, ho]) ?_
    have := buildA_sound hT hn (vparts := parts.toList.map fun p => (p.1, ρ p.2)) h (by simp [hlen]) (by
      intro j p q hp hq
      simp only [List.getElem?_zip_eq_some, List.getElem?_map, Option.map_eq_some_iff] at hp hq
      obtain ⟨⟨a, ha, hp1⟩, hp2⟩ := hp
      obtain ⟨c, hc, rfl⟩ := hq
      rw [ha] at hc; cases hc
      exact ⟨hp1.symm, hv.2 j _ _ hp2 (by simp [ha])⟩)
    have e : (parts.toList.map fun p => (p.1, ρ p.2)).toArray = parts.map fun (i, x) => (i, ρ x) := by apply Array.ext'; simp
    rw [e] at this
    exact this
  · rename_i f first caps ho
    split at h <;> first | (cases h; done) | cases h
    rename_i hlen
    obtain ⟨h0, h1⟩ := hlen
    rw [ho] at hv
    have hf : first = #[] := Array.eq_empty_of_size_eq_zero h0
    subst hf
    simp only [Op.operands, Array.empty_append] at hv
    refine ⟨.func (.func f) #[] ⟨caps.toList.map ρ⟩, ?_, .fn f vs _ (by simp [h1]) (fun j x y hx hy => hv.2 j x y hx hy)⟩
    simp only [execOp, ho, Instr.makeFunc]
    simp
    apply Array.ext'; simp
  · rename_i x ho
    rw [ho] at hv
    split at h
    · cases h
      obtain ⟨v, h1, h2⟩ := hv.one
      simp [Op.operands] at h1; subst h1
      obtain ⟨b, off, hx⟩ : ∃ b off, ρ x = .pointer (some ⟨b, off, none⟩) := by
        have := h2.inv_ip
        generalize ρ x = u at this
        cases this
        exact ⟨_, _, rfl⟩
      exact ⟨ρ x, by simp [execOp, ho, hx], h2⟩
    · split at h <;> first | (cases h; done) | cases h
      rename_i nd hnd
      obtain ⟨v, h1, h2⟩ := hv.one
      simp [Op.operands] at h1; subst h1
      obtain ⟨b, base, hl, _⟩ := hn _ nd hnd
      have hx := h2.inv_ptr hl
      exact ⟨ρ x, by simp [execOp, ho, hx], h2⟩
    · cases h
      obtain ⟨v, h1, h2⟩ := hv.one
      simp [Op.operands] at h1; subst h1
      obtain ⟨us, hx, _⟩ := h2.inv_fn
      exact ⟨ρ x, by simp [execOp, ho, hx], h2⟩
    · cases h
  · rename_i t x lo hi mx ho
    split at h <;> first | (cases h; done) | skip
    rename_i y r
    rw [ho] at hv
    have hops : (Op.operands (.slice t x lo hi mx)).toList.map ρ = ρ x :: ((lo.map ρ).toList ++ ((hi.map ρ).toList ++ ((mx.map ρ).toList ++ []))) := by
      cases lo <;> cases hi <;> cases mx <;> simp [Op.operands]
    rw [hops] at hv
    obtain ⟨h1, h2⟩ := hv.tail
    obtain ⟨h3, h4⟩ := takeOpt_V h2
    obtain ⟨h5, h6⟩ := takeOpt_V h4
    obtain ⟨h7, _⟩ := takeOpt_V h6
    exact fin (s := Instr.sliceAt t (ρ x) (lo.map ρ) (hi.map ρ) (mx.map ρ)) (by simp [execOp, ho]) (sliceA_sound hT hn h hok h1 h3 h5 h7)
  · rename_i c ho
    rw [ho] at hv
    split at h
    · rename_i hc
      split at h <;> first | (cases h; done) | skip
      rename_i x t hat
      obtain ⟨v, h1, h2⟩ := hv.one
      have hargs : c.args.map ρ = #[v] := by
        simp [Op.operands, Call.operands, hc] at h1; apply Array.ext'; simpa using h1
      have hat' : c.argTypes = #[t] := by apply Array.ext'; simpa using hat
      obtain ⟨u, h3, h4⟩ := lenA_sound hT hn (ty := o.type) h h2
      refine ⟨u, ?_, h4⟩
      simp [execOp, ho, resolve, hc, invoke, builtin, hargs, hat', h3]
    · rename_i hc
      split at h <;> first | (cases h; done) | skip
      rename_i x t hat
      obtain ⟨v, h1, h2⟩ := hv.one
      have hargs : c.args.map ρ = #[v] := by
        simp [Op.operands, Call.operands, hc] at h1; apply Array.ext'; simpa using h1
      have hat' : c.argTypes = #[t] := by apply Array.ext'; simpa using hat
      obtain ⟨u, h3, h4⟩ := capA_sound hT (ty := o.type) h h2
      refine ⟨u, ?_, h4⟩
      simp [execOp, ho, resolve, hc, invoke, builtin, hargs, hat', h3]
    · rename_i hc
      split at h <;> first | (cases h; done) | skip
      obtain ⟨v, v2, h1, h2, h2'⟩ := hv.two
      have hargs : c.args.map ρ = #[v, v2] := by
        simp [Op.operands, Call.operands, hc] at h1; apply Array.ext'; simpa using h1
      obtain ⟨u, h3, h4⟩ := minmaxA_sound (P := P) (ats := c.argTypes) (ty := o.type) h h2 h2'
      simp at h3
      refine ⟨u, ?_, h4⟩
      simp [execOp, ho, resolve, hc, invoke, builtin, hargs, h3]
    · rename_i hc
      split at h <;> first | (cases h; done) | skip
      obtain ⟨v, v2, h1, h2, h2'⟩ := hv.two
      have hargs : c.args.map ρ = #[v, v2] := by
        simp [Op.operands, Call.operands, hc] at h1; apply Array.ext'; simpa using h1
      obtain ⟨u, h3, h4⟩ := minmaxA_sound (P := P) (ats := c.argTypes) (ty := o.type) h h2 h2'
      simp at h3
      refine ⟨u, ?_, h4⟩
      simp [execOp, ho, resolve, hc, invoke, builtin, hargs, h3]
    · rename_i hc
      split at h <;> first | (cases h; done) | skip
      rename_i x y t tx hat
      obtain ⟨v, v2, h1, h2, h2'⟩ := hv.two
      have hargs : c.args.map ρ = #[v, v2] := by
        simp [Op.operands, Call.operands, hc] at h1; apply Array.ext'; simpa using h1
      have hat' : c.argTypes = #[t, tx] := by apply Array.ext'; simpa using hat
      obtain ⟨u, h3, h4⟩ := appNilA_sound hT (ty := o.type) h h2 h2'
      refine ⟨u, ?_, h4⟩
      simp [execOp, ho, resolve, hc, invoke, builtin, hargs, hat', h3]
    · cases h
  · cases h
end snd

end Go.AM
