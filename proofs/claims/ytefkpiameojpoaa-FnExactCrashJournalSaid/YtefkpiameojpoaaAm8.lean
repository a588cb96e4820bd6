/- The abstract machine, part 8: what makes objects: alloc, box, literals, make, bytes of a string, append onto nothing. -/
import Derived.Test.YtefkpiameojpoaaAm7
import Derived.Lib.AppendZeros
set_option linter.unusedVariables false
set_option linter.unusedSimpArgs false
namespace Go.AM

/-- a row of cells and what is told of it -/
def Row (w : World) (lab : Labs) (loc : Locs) (l : List (List AV)) (es : Nat) (news : List Value) : Prop :=
  ∀ (i : Nat) c (j : Nat) y, l[i]? = some c → c[j]? = some y → ∃ u, news[i * es + j]? = some u ∧ V w lab loc y u

theorem div_row {i j es : Nat} (h : j < es) : (i * es + j) / es = i ∧ (i * es + j) % es = j := by
  have h0 : 0 < es := by omega
  constructor
  · rw [Nat.add_comm, Nat.add_mul_div_right _ _ h0, Nat.div_eq_of_lt h]; omega
  · rw [Nat.add_comm, Nat.add_mul_mod_self_right, Nat.mod_eq_of_lt h]

theorem row_lt {k n es : Nat} (h : k < n * es) : k / es < n ∧ k % es < es ∧ (k / es) * es + k % es = k := by
  have h0 : 0 < es := by rcases Nat.eq_zero_or_pos es with h | h <;> simp_all
  exact ⟨Nat.div_lt_of_lt_mul (by rw [Nat.mul_comm]; exact h), Nat.mod_lt _ h0, Nat.div_add_mod' k es⟩

def elemsA (ti : TI) (nodes : Nat → Option Node) (tx es : Nat) : AV → Option (List (List AV) × Prop)
  | .isl es' l => match tkind ti tx with
    | .slice _ => if es' = es then some (l, True) else none
    | _ => none
  | .nils | .zsl => match tkind ti tx with
    | .slice _ => some ([], True)
    | _ => none
  | .sl id es' i len => match tkind ti tx, nodes id with
    | .slice _, some nd => if es' = es ∧ nd.es = es then some ((nd.l.drop i).take len, i + len ≤ nd.l.length ∧ ∀ c ∈ (nd.l.drop i).take len, ∀ x ∈ c, okCell nodes x = true) else none
    | _, _ => none
  | .str s => match tkind ti tx with
    | .str => if es = 1 then some (encB s, True) else none
    | _ => none
  | _ => none

/-- where the ids of what is made come from -/
def IdsFrom (nodes : Nat → Option Node) (vs : List AV) (k : Nat) : Prop := (∃ x ∈ vs, k ∈ x.ids) ∨ ∃ id nd, nodes id = some nd ∧ k ∈ nd.ids

theorem mem_idsL' {l : List AV} {k : Nat} (h : k ∈ idsL l) : ∃ x ∈ l, k ∈ x.ids := by
  induction l with
  | nil => simp [idsL] at h
  | cons x l ih =>
    simp only [idsL, List.mem_append] at h
    rcases h with h | h
    · exact ⟨x, List.mem_cons_self, h⟩
    · obtain ⟨y, hy, hk⟩ := ih h; exact ⟨y, List.mem_cons_of_mem _ hy, hk⟩

section snd
variable {P : Program} {ti : TI} (hT : TOk P ti) {w : World} {lab : Labs} {loc : Locs} {nodes : Nat → Option Node}
  (hn : ∀ id nd, nodes id = some nd → ∃ b base, loc id = some (b, base) ∧ ObjOk w lab loc id nd b base)

theorem I.one {x : AV} {v : Value} (h : I w lab x v) (hp : x.plain = true) : v.oneCell' = true := by
  cases h <;> first | rfl | (simp [AV.plain] at hp)

theorem src_row {tx e' es : Nat} (hk : P.underlying tx = some (.slice e')) (a : Addr) (l : List (List AV)) (cap : Nat) (f : Nat → Value) (hes : ∀ c ∈ l, c.length = es)
    (hf : ∀ (i : Nat) c (j : Nat) y, l[i]? = some c → c[j]? = some y → w.cell? (a.add (i * es + j)) = some (f (i * es + j)) ∧ V w lab loc y (f (i * es + j)) ∧ (f (i * es + j)).oneCell' = true) :
    ∃ news, Src P es tx (.slice (some a) l.length cap) l.length news w ∧ Row w lab loc l es news := by
  have hget : ∀ k, k < l.length * es → ∃ c y, l[k / es]? = some c ∧ c[k % es]? = some y ∧ (k / es) * es + k % es = k := by
    intro k hk
    obtain ⟨h1, h2, h3⟩ := row_lt hk
    have hc : l[k / es]? = some l[k / es] := List.getElem?_eq_getElem h1
    have hl : (l[k / es]).length = es := hes _ (List.getElem_mem h1)
    exact ⟨_, _, hc, List.getElem?_eq_getElem (by rw [hl]; exact h2), h3⟩
  refine ⟨(List.range (l.length * es)).map f, ?_, ?_⟩
  · refine Src.ofSlice w hk a l.length cap _ (by simp) ?_ ?_
    · intro k u hu
      have hlt : k < l.length * es := by
        have := (List.getElem?_eq_some_iff.1 hu).1
        simpa using this
      have hu' : f k = u := by simpa [hlt] using hu
      subst hu'
      obtain ⟨c, y, h1, h2, h3⟩ := hget k hlt
      have := (hf _ c _ y h1 h2).1
      rw [h3] at this; exact this
    · intro u hu
      obtain ⟨k, hk', rfl⟩ := List.mem_map.1 hu
      obtain ⟨c, y, h1, h2, h3⟩ := hget k (List.mem_range.1 hk')
      have := (hf _ c _ y h1 h2).2.2
      rw [h3] at this; exact this
  · intro i c j y hi hj
    have hil : i < l.length := by rcases Nat.lt_or_ge i l.length with h | h; exact h; simp [List.getElem?_eq_none h] at hi
    have hjl : j < es := by
      have := hes c (List.mem_of_getElem? hi)
      rcases Nat.lt_or_ge j c.length with h | h
      · omega
      · simp [List.getElem?_eq_none h] at hj
    have hlt : i * es + j < l.length * es := by
      have : (i + 1) * es ≤ l.length * es := Nat.mul_le_mul_right _ hil
      rw [Nat.add_mul] at this; omega
    exact ⟨f (i * es + j), by simp [hlt], (hf i c j y hi hj).2.1⟩

include hT hn in
theorem elemsA_sound {tx es : Nat} {x : AV} {l : List (List AV)} {ok : Prop} (h : elemsA ti nodes tx es x = some (l, ok)) (hok : ok) {vx : Value} (hx : V w lab loc x vx) :
    ∃ news, Src P es tx vx l.length news w ∧ Row w lab loc l es news ∧ (∀ c ∈ l, c.length = es) ∧ ∀ c ∈ l, ∀ y ∈ c, ∀ k ∈ y.ids, ∃ id nd, nodes id = some nd ∧ k ∈ nd.ids := by
  have hk := tkind_ok hT tx
  unfold elemsA at h
  split at h
  · rename_i es' l'
    split at h <;> first | (cases h; done) | skip
    rename_i e hk'
    rw [hk'] at hk
    split at h <;> first | (cases h; done) | cases h
    rename_i he
    subst he
    cases hx.inv_isl with
    | esl _ a cap =>
      obtain ⟨news, h1, h2⟩ := src_row (P := P) (w := w) (lab := lab) (loc := loc) (es := es') hk a [] cap (fun _ => undef) (by simp) (by intro i c j y hi; simp at hi)
      exact ⟨news, h1, h2, by simp, by simp⟩
    | nsl => exact ⟨[], Src.ofNil w hk 0, by intro i c j y hi; simp at hi, by simp, by simp⟩
    | isl _ _ b off cap vals hb hsz hc hes hp hv hr =>
      obtain ⟨news, h1, h2⟩ := src_row (P := P) (w := w) (lab := lab) (loc := loc) (es := es') hk ⟨b, off, none⟩ l cap (fun k => vals (k / es') (k % es')) hes (by
        intro i c j y hi hj
        have hil : i < l.length := by rcases Nat.lt_or_ge i l.length with h | h; exact h; simp [List.getElem?_eq_none h] at hi
        have hjl : j < es' := by
          have := hes c (List.mem_of_getElem? hi)
          rcases Nat.lt_or_ge j c.length with h | h
          · omega
          · simp [List.getElem?_eq_none h] at hj
        obtain ⟨d1, d2⟩ := div_row (i := i) hjl
        have hI := hr i c j y hi hj
        refine ⟨?_, ?_, ?_⟩
        · rw [addr_add, ← Nat.add_assoc]; simp only [d1, d2]; exact hv i j hil hjl
        · simp only [d1, d2]; exact .imm _ _ hI
        · simp only [d1, d2]; exact hI.one (hp c (List.mem_of_getElem? hi) y (List.mem_of_getElem? hj)))
      refine ⟨news, h1, h2, hes, fun c hc y hy k hk => ?_⟩
      obtain ⟨i, hi⟩ := List.mem_iff_getElem?.1 hc
      obtain ⟨j, hj⟩ := List.mem_iff_getElem?.1 hy
      rw [(hr i c j y hi hj).ids] at hk; cases hk
  · split at h <;> first | (cases h; done) | cases h
    rename_i e hk'
    rw [hk'] at hk
    rw [hx.inv_nils]
    exact ⟨[], Src.ofNil w hk 0, by intro i c j y hi; simp at hi, by simp, by simp⟩
  · split at h <;> first | (cases h; done) | cases h
    rename_i e hk'
    rw [hk'] at hk
    obtain ⟨a, rfl⟩ := hx.inv_zsl
    cases a with
    | none => exact ⟨[], Src.ofNil w hk 0, by intro i c j y hi; simp at hi, by simp, by simp⟩
    | some a =>
    obtain ⟨news, h1, h2⟩ := src_row (P := P) (w := w) (lab := lab) (loc := loc) (es := es) hk a [] 0 (fun _ => undef) (by simp) (by intro i c j y hi; simp at hi)
    exact ⟨news, h1, h2, by simp, by simp⟩
  · rename_i id es' i len
    split at h <;> first | (cases h; done) | skip
    rename_i e nd hk' hnd
    rw [hk'] at hk
    split at h <;> first | (cases h; done) | cases h
    rename_i hes
    obtain ⟨rfl, hes⟩ := hes
    obtain ⟨hlen, hcl⟩ := hok
    obtain ⟨b, base, hl, ho⟩ := hn id nd hnd
    obtain ⟨a, cap, rfl, h1, h2, h3⟩ := hx.inv_sl hl
    have hll : ((nd.l.drop i).take len).length = len := by simp; omega
    have hes2 : ∀ c ∈ (nd.l.drop i).take len, c.length = es' := by
      intro c hc; rw [← hes]; exact ho.es c (List.mem_of_mem_drop (List.mem_of_mem_take hc))
    obtain ⟨news, h4, h5⟩ := src_row (P := P) (w := w) (lab := lab) (loc := loc) (es := es') hk a ((nd.l.drop i).take len) cap (fun k => (w.cell? (a.add k)).getD undef) hes2 (by
      intro k c j y hi hj
      have hil : k < len := by rcases Nat.lt_or_ge k len with h | h; exact h; simp [List.getElem?_eq_none (show ((nd.l.drop i).take len).length ≤ k by omega)] at hi
      have ha : a = ⟨b, base + i * es', none⟩ := by rcases h2 with h | h <;> first | exact h | omega
      subst ha
      have hi' : nd.l[i + k]? = some c := by
        rw [List.getElem?_take, if_pos hil, List.getElem?_drop] at hi; exact hi
      obtain ⟨v, hv, hcv⟩ := ho.cells (i + k) c j y hi' hj
      have hv' : w.cell? ((⟨b, base + i * es', none⟩ : Addr).add (k * es' + j)) = some v := by
        rw [addr_add]
        rw [hes, Nat.add_mul] at hv
        rw [show base + i * es' + (k * es' + j) = base + (i * es' + k * es') + j by omega]; exact hv
      have hok := hcl c (List.mem_of_getElem? hi) y (List.mem_of_getElem? hj)
      have hp : y.plain = true := by unfold okCell at hok; simp at hok; exact hok.1
      have hV := hcv.inv_plain hp
      simp only [hv']
      exact ⟨rfl, hV, okCell_one hn hok hV⟩)
    rw [hll] at h4
    exact ⟨news, by rw [hll]; exact h4, h5, hes2, fun c hc y hy k hk => ⟨id, nd, hnd, by
      simp only [Node.ids, List.mem_flatMap]
      exact ⟨c, List.mem_of_mem_drop (List.mem_of_mem_take hc), mem_idsL hy hk⟩⟩⟩
  · rename_i s
    split at h <;> first | (cases h; done) | skip
    rename_i hk'
    rw [hk'] at hk
    split at h <;> first | (cases h; done) | cases h
    rename_i he
    subst he
    rw [hx.inv_str]
    have hl : (encB s).length = (⟨s.toArray⟩ : ByteArray).size := by simp [encB, ByteArray.size]
    refine ⟨byteCells ⟨s.toArray⟩, by rw [hl]; exact Src.ofString w hk _, ?_, by intro c hc; unfold encB at hc; obtain ⟨_, _, rfl⟩ := List.mem_map.1 hc; rfl, by
      intro c hc y hy k hk
      unfold encB at hc
      obtain ⟨_, _, rfl⟩ := List.mem_map.1 hc
      simp at hy; subst hy; simp [AV.ids] at hk⟩
    intro i c j y hi hj
    simp only [encB, List.getElem?_map, Option.map_eq_some_iff] at hi
    obtain ⟨b, hb, rfl⟩ := hi
    cases j with
    | succ j => simp at hj
    | zero =>
      simp at hj; subst hj
      exact ⟨.int .u8 b.toNat, by simp [byteCells, hb], V.int _ _⟩
  · cases h
end snd


/-! ### new objects -/
/-- what is made of append(nil, make(.., n)...) -/
def zerosA (ti : TI) (tx id : Nat) (ei : TInfo) (b x : AV) : Option (Node × AV × Prop) :=
  match b, x, tkind ti tx, ei.zero with
  | .nils, .int _ n, .int _, some z => some (⟨ei.size, List.replicate n.toNat z⟩, .sl id ei.size 0 n.toNat, 0 < n ∧ n ≤ 9223372036854775807 ∧ n * ei.bytes ≤ 281474976710656 ∧ 0 < ei.size)
  | _, _, _, _ => none

def newA (ti : TI) (nodes : Nat → Option Node) (id : Nat) (op : Op) (vs : List AV) : Option (Node × AV × Prop) :=
  match op with
  | .alloc t => match ti t with
    | some i => match i.zero with
      | some z => if vs.length = 0 then some (⟨i.size, [z]⟩, .ptr id i.size 0 0, True) else none
      | none => none
    | none => none
  | .box _ _ => match vs with
    | [x] => if isCells nodes x then some (⟨x.cellsA.length, [x.cellsA]⟩, .ptr id x.cellsA.length 0 0, True) else none
    | _ => none
  | .buildSlice t n parts => match tkind ti t with
    | .slice e => match ti e with
      | some ei => if parts.toList.map (·.1) = List.range n ∧ vs.length = n ∧ vs.all (isCells nodes) = true ∧ vs.all (fun x => x.cellsA.length == ei.size) = true ∧ n * ei.size ≤ 16777216 ∧ ei.zero.isSome = true then
          some (⟨ei.size, vs.map AV.cellsA⟩, .sl id ei.size 0 n, True) else none
      | none => none
    | _ => none
  | .makeSlice t _ _ => match vs with
    | [.int _ l, .int _ c] => match tkind ti t with
      | .slice e => match ti e with
        | some ei => match ei.zero with
          | some z => some (⟨ei.size, List.replicate l.toNat z⟩, .sl id ei.size 0 l.toNat, 0 ≤ l ∧ l ≤ c ∧ (ei.bytes : Int) * c ≤ 281474976710656 ∧ c ≤ 9223372036854775807)
          | none => none
        | none => none
      | _ => none
    | _ => none
  | .convert s d _ => match vs with
    | [.str l] => match tkind ti s, tkind ti d with
      | .str, .slice e => match tkind ti e with
        | .int .u8 => some (⟨1, encB l⟩, .sl id 1 0 l.length, True)
        | _ => none
      | _, _ => none
    | _ => none
  | .call c => match c.callee, c.argTypes.toList, vs with
    | .builtin .append, [t, tx], [b, x] => match b with
      | .nils | .zsl => match tkind ti t with
        | .slice e => match ti e with
          | some ei => match elemsA ti nodes tx ei.size x with
            | some (l, ok) => if ei.zero.isSome then some (⟨ei.size, l⟩, .sl id ei.size 0 l.length, ok ∧ 0 < l.length ∧ l.length * ei.bytes ≤ 140737488355328 ∧ l.length ≤ 9223372036854775807) else none
            | none => zerosA ti tx id ei b x
          | none => none
        | _ => none
      | _ => none
    | _, _, _ => none
  | _ => none

/-- what the model does where an object is made -/
structure NewOk (P : Program) (w : World) (lab : Labs) (loc : Locs) (nodes : Nat → Option Node) (vs : List AV) (id : Nat) (nd : Node) (x : AV) (s : Sem Next) : Prop where
  run : ∃ (v : Value) (w' : World) (c : Array Value) (ty : TypeId) (fz : Nat × Nat), s.run P w = .ok (.value v) w' ∧ w'.heap = w.heap.push (.cells c ty fz) ∧ w'.os = w.os ∧ w'.output = w.output ∧
    (∀ o, o < c.size → ¬ (fz.1 ≤ o ∧ o < fz.2)) ∧ nd.l.length * nd.es ≤ c.size ∧ Row w lab loc nd.l nd.es c.toList ∧
    (Blk w' w.heap.size c.size → V w' (labN lab w.heap.size id) (locN loc w.heap.size 0 id) x v)
  es : ∀ cc ∈ nd.l, cc.length = nd.es
  ids : ∀ k ∈ nd.ids, IdsFrom nodes vs k

theorem cellsA_ids {x : AV} {k : Nat} (h : k ∈ idsL x.cellsA) : k ∈ x.ids := by
  unfold AV.cellsA at h
  split at h
  · simpa [AV.ids] using h
  · simpa [idsL] using h

theorem V_ptr_new {w' : World} {lab : Labs} {loc : Locs} {b id es : Nat} : V w' lab (locN loc b 0 id) (.ptr id es 0 0) (.pointer (some ⟨b, 0, none⟩)) := by
  refine .ptr _ _ _ _ _ fun b' base' hl => ?_
  simp [locN] at hl
  obtain ⟨rfl, rfl⟩ := hl
  simp

theorem V_sl_new {w' : World} {lab : Labs} {loc : Locs} {b id es len cap n : Nat} (hb : Blk w' b n) (hl : len ≤ cap) (hc : cap * es ≤ n) :
    V w' lab (locN loc b 0 id) (.sl id es 0 len) (.slice (some ⟨b, 0, none⟩) len cap) := by
  refine .sl _ _ _ _ _ fun b' base' hl' => ?_
  simp [locN] at hl'
  obtain ⟨rfl, rfl⟩ := hl'
  exact ⟨_, cap, rfl, hl, Or.inr (by simp), hb.le (by simpa using hc)⟩

section snd
variable {P : Program} {ti : TI} (hT : TOk P ti) {w : World} {lab : Labs} {loc : Locs} {nodes : Nat → Option Node}
  (hn : ∀ id nd, nodes id = some nd → ∃ b base, loc id = some (b, base) ∧ ObjOk w lab loc id nd b base)

/-- a literal's cells -/
theorem fillRow {size : Nat} : ∀ (vs : List AV) (us : List Value) (k : Nat) (c : Array Value), vs.length = us.length → (∀ (j : Nat) x y, vs[j]? = some x → us[j]? = some y → CellsV w lab loc x.cellsA y.cells ∧ x.cellsA.length = size) →
    (k + vs.length) * size ≤ c.size →
    ∃ c', Instr.fill (fun i => some (i * size, size)) c ((List.range' k vs.length).zip us) = some c' ∧ c'.size = c.size ∧ (∀ m, m < k * size → c'[m]? = c[m]?) ∧
      (∀ (i : Nat) x (j : Nat) y, vs[i]? = some x → x.cellsA[j]? = some y → ∃ u, c'[(k + i) * size + j]? = some u ∧ V w lab loc y u) := by
  intro vs
  induction vs with
  | nil =>
    intro us k c _ _ _
    exact ⟨c, by simp [Instr.fill], rfl, fun _ _ => rfl, by intro i x j y hi; simp at hi⟩
  | cons x vs ih =>
    intro us k c hl hr hc
    cases us with
    | nil => simp at hl
    | cons u us =>
      obtain ⟨hx, hs⟩ := hr 0 _ _ rfl rfl
      have hsz : u.cells.size = size := by rw [← hx.1, hs]
      simp only [List.length_cons] at hc
      have hc1 : k * size + size ≤ c.size := by
        have : (k + 1) * size ≤ (k + (vs.length + 1)) * size := Nat.mul_le_mul_right _ (by omega)
        rw [Nat.add_mul] at this; omega
      have hfold := foldl_setIf u.cells.toList 0 c (k * size) (by simp; omega)
      simp only [Nat.add_zero, Array.length_toList, Nat.sub_zero] at hfold
      have hle : u.cells.zipIdx.foldl (fun cs (x : Value × Nat) => cs.setIfInBounds (k * size + x.2) x.1) c = (u.cells.toList.zipIdx).foldl (fun (cs : Array Value) (x : Value × Nat) => cs.setIfInBounds (k * size + x.2) x.1) c := by
        rw [← Array.foldl_toList]; simp
      obtain ⟨c', h1, h2, h3, h4⟩ := ih us (k + 1) ((u.cells.toList.zipIdx).foldl (fun (cs : Array Value) (x : Value × Nat) => cs.setIfInBounds (k * size + x.2) x.1) c) (by simpa using hl)
        (fun j a b ha hb => hr (j + 1) a b (by simpa using ha) (by simpa using hb)) (by rw [hfold.1]; rw [show k + 1 + vs.length = k + (vs.length + 1) by omega]; exact hc)
      refine ⟨c', ?_, by rw [h2, hfold.1], ?_, ?_⟩
      · simp only [List.length_cons, List.range'_succ, List.zip_cons_cons, Instr.fill]
        rw [if_neg (by simp [hsz]; omega), hle]
        exact h1
      · intro m hm
        rw [h3 m (by rw [Nat.add_mul]; omega), hfold.2 m, if_neg (by omega)]
      · intro i y j z hi hj
        cases i with
        | zero =>
          simp at hi; subst hi
          have hj' : j < size := by
            rcases Nat.lt_or_ge j x.cellsA.length with h | h
            · omega
            · simp [List.getElem?_eq_none h] at hj
          have hju : j < u.cells.size := by omega
          refine ⟨u.cells[j], ?_, hx.2 j z _ hj (by simp [hju])⟩
          rw [Nat.add_zero, h3 _ (by rw [Nat.add_mul]; omega), hfold.2, if_pos (by omega)]
          simp [hju]
        | succ i =>
          simp at hi
          obtain ⟨v, hv, hV⟩ := h4 i y j z hi hj
          exact ⟨v, by rw [show k + (i + 1) = k + 1 + i by omega]; exact hv, hV⟩

include hT hn in
theorem newA_sound {o : Oper} {ρ : Operand → Value} {vs : List AV} {id : Nat} {nd : Node} {x : AV} {ok : Prop} (h : newA ti nodes id o.op vs = some (nd, x, ok)) (hok : ok)
    (hv : OpsV w lab loc vs (o.op.operands.toList.map ρ)) : NewOk P w lab loc nodes vs id nd x (execOp ρ o) := by
  unfold newA at h
  split at h
  · rename_i t ho
    split at h <;> first | (cases h; done) | skip
    rename_i i hi
    split at h <;> first | (cases h; done) | skip
    rename_i z hz
    split at h <;> first | (cases h; done) | cases h
    obtain ⟨zv, hzr, hzc, hzl⟩ := t_zero hT hi hz
    obtain ⟨h1, h2⟩ := zero_CellsV (w := w) (lab := lab) (loc := loc) hzc
    refine ⟨⟨.pointer (some ⟨w.heap.size, 0, none⟩), w.alloc (.cells zv.cells t), zv.cells, t, (0, 0), ?_, rfl, rfl, rfl, by simp, by simp; omega, ?_, fun _ => V_ptr_new⟩, by intro cc hc; simp at hc; subst hc; exact hzl, by
      intro k hk
      simp [Node.ids] at hk
      obtain ⟨y, hy, hk⟩ := mem_idsL' hk
      obtain ⟨j, hj⟩ := List.mem_iff_getElem?.1 hy
      have hj' : j < zv.cells.size := by rw [← h1]; exact (List.getElem?_eq_some_iff.1 hj).1
      have hz2 := (zero_cells hzc).2 j y zv.cells[j] hj (by simp [hj'])
      rw [(ofV_sound (w := w) (lab := lab) hz2).ids] at hk; cases hk⟩
    · simp [execOp, ho, Instr.alloc, hzr, newVar, newRow]
    · intro k c j y hk hj
      cases k with
      | succ k => simp at hk
      | zero =>
        simp at hk; subst hk
        have hj' : j < zv.cells.size := by
          rcases Nat.lt_or_ge j z.length with h | h
          · omega
          · simp [List.getElem?_eq_none h] at hj
        exact ⟨zv.cells[j], by simp [hj'], h2 j y _ hj (by simp [hj'])⟩
  · rename_i t y ho
    split at h <;> first | (cases h; done) | skip
    rename_i x'
    split at h <;> first | (cases h; done) | cases h
    rename_i hc
    rw [ho] at hv
    obtain ⟨v, h1, h2⟩ := hv.one
    simp [Op.operands] at h1; subst h1
    obtain ⟨h3, h4⟩ := isCells_sound hn hc h2
    refine ⟨⟨.pointer (some ⟨w.heap.size, 0, none⟩), w.alloc (.cells (ρ y).cells t), (ρ y).cells, t, (0, 0), ?_, rfl, rfl, rfl, by simp, by simp; omega, ?_, fun _ => V_ptr_new⟩, by intro cc hc; simp at hc; subst hc; rfl, by
      intro k hk
      simp [Node.ids] at hk
      exact Or.inl ⟨x', List.mem_singleton.2 rfl, cellsA_ids hk⟩⟩
    · simp [execOp, ho, Instr.box, newVar, newRow]
    · intro k c j y' hk hj
      cases k with
      | succ k => simp at hk
      | zero =>
        simp at hk; subst hk
        have hj' : j < (ρ y).cells.size := by
          rcases Nat.lt_or_ge j x'.cellsA.length with h | h
          · omega
          · simp [List.getElem?_eq_none h] at hj
        exact ⟨(ρ y).cells[j], by simp [hj'], h4 j y' _ hj (by simp [hj'])⟩
  · rename_i t n parts ho
    have hk := tkind_ok hT t
    split at h <;> first | (cases h; done) | skip
    rename_i e hk'
    rw [hk'] at hk
    split at h <;> first | (cases h; done) | skip
    rename_i ei hei
    split at h <;> first | (cases h; done) | cases h
    rename_i hcond
    obtain ⟨hp, hlen, hall, hsz, hmax, hzs⟩ := hcond
    rw [ho] at hv
    have hops : (Op.operands (.buildSlice t n parts)).toList.map ρ = parts.toList.map fun p => ρ p.2 := by simp [Op.operands]
    rw [hops] at hv
    rw [List.all_eq_true] at hall hsz
    obtain ⟨z, hz⟩ := Option.isSome_iff_exists.1 hzs
    obtain ⟨zv, hzr, hzc, hzl⟩ := t_zero hT hei hz
    have hzs' : zv.cells.size = ei.size := by have := (zero_cells hzc).1; simp at this; omega
    have hcells : ∀ (j : Nat) x y, vs[j]? = some x → (parts.toList.map fun p => ρ p.2)[j]? = some y → CellsV w lab loc x.cellsA y.cells ∧ x.cellsA.length = ei.size := by
      intro j x y hx hy
      exact ⟨isCells_sound hn (hall x (List.mem_of_getElem? hx)) (hv.2 j x y hx hy), by simpa using hsz x (List.mem_of_getElem? hx)⟩
    obtain ⟨c', hf, hcs, _, hrow⟩ := fillRow (w := w) (lab := lab) (loc := loc) (size := ei.size) vs (parts.toList.map fun p => ρ p.2) 0 ((Array.range (n * ei.size)).map (zv.cells[· % zv.cells.size]!)) hv.1 hcells (by simp [hlen])
    have hparts : (parts.map fun (i, x) => (i, ρ x)).toList = (List.range' 0 vs.length).zip (parts.toList.map fun p => ρ p.2) := by
      have : (List.range' 0 vs.length) = parts.toList.map (·.1) := by rw [hp, hlen, List.range_eq_range']
      rw [this]
      simp only [Array.toList_map]
      induction parts.toList with
      | nil => rfl
      | cons a l ih => simp [ih]
    refine ⟨⟨.slice (some ⟨w.heap.size, 0, none⟩) n n, w.alloc (.cells c' e), c', e, (0, 0), ?_, rfl, rfl, rfl, by simp, ?_, ?_, fun hb => V_sl_new hb (Nat.le_refl _) ?_⟩, ?_, by
      intro k hk
      simp only [Node.ids, List.mem_flatMap, List.mem_map] at hk
      obtain ⟨_, ⟨y, hy, rfl⟩, hk⟩ := hk
      exact Or.inl ⟨y, hy, cellsA_ids hk⟩⟩
    · have hsize := t_sizeOf hT hei w
      have hmax' : ¬ (n * ei.size > 2 ^ 24) := by simp; omega
      simp only [execOp, ho, Instr.buildSlice, Sem.run_bind, run_underlying (P := P) hk, Result.andThen_ok, hsize, hmax', if_false, hparts]
      by_cases h0 : n * ei.size = 0
      · have e1 : (Array.range (n * ei.size)).map (fun x => zv.cells[x % zv.cells.size]!) = #[] := by rw [h0]; simp [Array.range_zero']
        rw [e1] at hf
        simp [h0, Array.range_zero', hf, newRow]
      · simp [h0, hzr, hf, newRow]
    · rw [hcs]; simp [hlen]
    · intro i cc j y hi hj
      simp only [List.getElem?_map, Option.map_eq_some_iff] at hi
      obtain ⟨xx, hxx, rfl⟩ := hi
      obtain ⟨u, hu, hV⟩ := hrow i xx j y hxx hj
      exact ⟨u, by simpa using hu, hV⟩
    · rw [hcs]; simp
    · intro cc hc
      obtain ⟨xx, hxx, rfl⟩ := List.mem_map.1 hc
      simpa using hsz xx hxx
  · rename_i t lo co ho
    split at h <;> first | (cases h; done) | skip
    rename_i kl l kc c
    have hk := tkind_ok hT t
    split at h <;> first | (cases h; done) | skip
    rename_i e hk'
    rw [hk'] at hk
    split at h <;> first | (cases h; done) | skip
    rename_i ei hei
    split at h <;> first | (cases h; done) | cases h
    rename_i z hz
    obtain ⟨h0, h1, h2, h3⟩ := hok
    rw [ho] at hv
    obtain ⟨v, u, h4, h5, h6⟩ := hv.two
    simp [Op.operands] at h4
    obtain ⟨h7, h8⟩ := h4
    have hv1 := h5.inv_int; have hv2 := h6.inv_int
    obtain ⟨info, i1, i2, i3, i4⟩ := (hT e ei hei).info
    obtain ⟨zv, i5, i6, i7⟩ := i4 z hz
    have hr := run_make (P := P) w t e info zv hk i1 i5 kl kc l c h0 h1 (by rw [i3]; exact h2) h3
    have hzs' : zv.cells.size = ei.size := by have := (zero_cells i6).1; simp at this; omega
    refine ⟨⟨.slice (some ⟨w.heap.size, 0, none⟩) l.toNat c.toNat, w.alloc (.cells (madeCells zv.cells (c.toNat * info.size)) e), madeCells zv.cells (c.toNat * info.size), e, (0, 0), ?_, rfl, rfl, rfl, by simp, ?_, ?_, fun hb => V_sl_new hb (by omega) ?_⟩, ?_, by
      intro k hk
      simp only [Node.ids, List.mem_flatMap, List.mem_replicate] at hk
      obtain ⟨_, ⟨_, rfl⟩, hk⟩ := hk
      obtain ⟨y, hy, hk⟩ := mem_idsL' hk
      obtain ⟨j, hj⟩ := List.mem_iff_getElem?.1 hy
      have hj' : j < zv.cells.size := by have := (zero_cells i6).1; simp at this; rw [this]; exact (List.getElem?_eq_some_iff.1 hj).1
      have hz2 := (zero_cells i6).2 j y zv.cells[j] hj (by simp [hj'])
      rw [(ofV_sound (w := w) (lab := lab) hz2).ids] at hk; cases hk⟩
    · simp only [execOp, ho, h7, h8, hv1, hv2, Sem.run_bind, hr, Result.andThen_ok]
      rfl
    · rw [size_madeCells, i2]; simp only [List.length_replicate]; exact Nat.mul_le_mul_right _ (by omega)
    · intro i cc j y hi hj
      rw [List.getElem?_replicate] at hi
      split at hi <;> first | (cases hi; done) | cases hi
      rename_i hil
      have hj' : j < ei.size := by
        rcases Nat.lt_or_ge j z.length with h | h
        · omega
        · simp [List.getElem?_eq_none h] at hj
      have hlt : i * ei.size + j < c.toNat * ei.size := by
        have : (i + 1) * ei.size ≤ c.toNat * ei.size := Nat.mul_le_mul_right _ (by omega)
        rw [Nat.add_mul] at this; omega
      have hjz : j < zv.cells.size := by omega
      refine ⟨zv.cells[j], ?_, .imm _ _ (ofV_sound ((zero_cells i6).2 j y _ hj (by simp [hjz])))⟩
      simp [madeCells, i2, hlt, hzs', (div_row hj').2]
      rw [getElem!_pos zv.cells j hjz]
    · rw [size_madeCells, i2]; exact Nat.le_refl _
    · intro cc hc
      rw [List.mem_replicate] at hc
      rw [hc.2]; exact i7
  · rename_i s d y ho
    split at h <;> first | (cases h; done) | skip
    rename_i l
    have hks := tkind_ok hT s
    have hkd := tkind_ok hT d
    split at h <;> first | (cases h; done) | skip
    rename_i e h1 h2
    rw [h1] at hks; rw [h2] at hkd
    have hke := tkind_ok hT e
    split at h <;> first | (cases h; done) | cases h
    rename_i h3
    rw [h3] at hke
    rw [ho] at hv
    obtain ⟨v, h4, h5⟩ := hv.one
    simp [Op.operands] at h4; subst h4
    have hv1 := h5.inv_str
    have hsz : (⟨l.toArray⟩ : ByteArray).size = l.length := by simp [ByteArray.size]
    let cap := Question.cut (.appendCap l.length 0 e) (w.tape w.drawn (.appendCap l.length 0 e))
    have hcap : l.length ≤ cap := by simp only [cap, Question.cut]; omega
    let c : Array Value := ((⟨l.toArray⟩ : ByteArray).data.map fun b => .int .u8 b.toNat) ++ Array.replicate (cap - l.length) (.int .u8 0)
    have hcs : c.size = cap := by simp [c]; omega
    refine ⟨⟨.slice (some ⟨w.heap.size, 0, none⟩) l.length cap, { w with drawn := w.drawn + 1, heap := w.heap.push (.cells c e (cap, cap + 1)) }, c, e, (cap, cap + 1), ?_, rfl, rfl, rfl, ?_, ?_, ?_, fun hb => V_sl_new hb hcap ?_⟩, ?_, by
      intro k hk
      simp only [Node.ids, List.mem_flatMap, encB, List.mem_map] at hk
      obtain ⟨_, ⟨b, _, rfl⟩, hk⟩ := hk
      simp [idsL, AV.ids] at hk⟩
    · have hfz : (⟨w.heap.push (.cells c e), w.tape, w.drawn + 1, w.os, w.output⟩ : World).freeze ⟨w.heap.size, c.size, none⟩ 1 = ⟨w.heap.push (.cells c e (cap, cap + 1)), w.tape, w.drawn + 1, w.os, w.output⟩ := by
        simp only [World.freeze, Nat.one_ne_zero, if_false, World.mk.injEq, and_self, and_true]
        apply Array.ext
        · simp
        · intro k h1 h2
          rw [Array.getElem_modify]
          by_cases hk : w.heap.size = k
          · subst hk; simp [hcs]
          · rw [if_neg hk]
            have : k < w.heap.size := by simp at h1; omega
            rw [Array.getElem_push_lt this, Array.getElem_push_lt this]
      have hsh : (⟨w.heap.push (.cells c e), w.tape, w.drawn + 1, w.os, w.output⟩ : World).shape? w.heap.size = some (e, c.size) := by
        simp [World.shape?]
      have hrow : (newRow e c).run P ⟨w.heap, w.tape, w.drawn + 1, w.os, w.output⟩ = .ok ⟨w.heap.size, 0, none⟩ ⟨w.heap.push (.cells c e), w.tape, w.drawn + 1, w.os, w.output⟩ := rfl
      have hmk : (markStringish ⟨w.heap.size, 0, none⟩).run P ⟨w.heap.push (.cells c e), w.tape, w.drawn + 1, w.os, w.output⟩ = .ok () ⟨w.heap.push (.cells c e (cap, cap + 1)), w.tape, w.drawn + 1, w.os, w.output⟩ := by
        simp only [markStringish, Sem.run_bind, run_shape, hsh, Result.andThen_ok, run_freeze, hfz]
      have hst : (Conv.stringToBytes e ⟨l.toArray⟩).run P w = .ok (.slice (some ⟨w.heap.size, 0, none⟩) l.length cap) ⟨w.heap.push (.cells c e (cap, cap + 1)), w.tape, w.drawn + 1, w.os, w.output⟩ := by
        unfold Conv.stringToBytes
        simp only [Sem.run_bind, run_choose, hsz, Question.forced, Bool.false_eq_true, if_false, Result.andThen_ok]
        have hrow' := hrow
        simp only [c, cap] at hrow' hmk ⊢
        rw [hrow', Result.andThen_ok, hmk]
        rfl
      have hconv : (convert s d (.string ⟨l.toArray⟩)).run P w = (Conv.stringToBytes e ⟨l.toArray⟩).run P w := by
        simp [convert, run_underlying hks, run_underlying hkd, run_underlying hke]
      simp only [execOp, ho, hv1, Sem.run_bind, hconv, hst, Result.andThen_ok, Sem.run_pure]
    · intro o ho; simp; omega
    · rw [hcs]; simp [encB]; exact hcap
    · intro i cc j y' hi hj
      simp only [encB, List.getElem?_map, Option.map_eq_some_iff] at hi
      obtain ⟨b, hb, rfl⟩ := hi
      cases j with
      | succ j => simp at hj
      | zero =>
        simp at hj; subst hj
        have hil : i < l.length := by rcases Nat.lt_or_ge i l.length with h | h; exact h; simp [List.getElem?_eq_none h] at hb
        have hbe : l[i] = b := by simpa [hil] using hb
        refine ⟨.int .u8 b.toNat, ?_, V.int _ _⟩
        simp [c, List.getElem?_append, hil, hbe]
    · rw [hcs]; omega
    · intro cc hc
      unfold encB at hc
      obtain ⟨_, _, rfl⟩ := List.mem_map.1 hc; rfl
  · rename_i c ho
    split at h <;> first | (cases h; done) | skip
    rename_i t tx b y hc hat
    rw [ho] at hv
    obtain ⟨vb, vy, h1, h2, h3⟩ := hv.two
    have hargs : c.args.map ρ = #[vb, vy] := by
      simp [Op.operands, Call.operands, hc] at h1; apply Array.ext'; simpa using h1
    have hat' : c.argTypes = #[t, tx] := by apply Array.ext'; simpa using hat
    have key : ∀ base : Option Addr, vb = .slice base 0 0 → (match tkind ti t with
        | .slice e => match ti e with
          | some ei => match elemsA ti nodes tx ei.size y with
            | some (l, ok) => if ei.zero.isSome then some ((⟨ei.size, l⟩ : Node), AV.sl id ei.size 0 l.length, ok ∧ 0 < l.length ∧ l.length * ei.bytes ≤ 140737488355328 ∧ l.length ≤ 9223372036854775807) else none
            | none => zerosA ti tx id ei b y
          | none => none
        | _ => none) = some (nd, x, ok) → NewOk P w lab loc nodes [b, y] id nd x (execOp ρ o) := by
      intro base hvb h
      have hk := tkind_ok hT t
      split at h <;> first | (cases h; done) | skip
      rename_i e hk'
      rw [hk'] at hk
      split at h <;> first | (cases h; done) | skip
      rename_i ei hei
      split at h
      rotate_left
      · unfold zerosA at h
        split at h <;> first | (cases h; done) | cases h
        rename_i kz n kx z hkx hz _
        obtain ⟨q1, q2, q3, q4⟩ := hok
        have hktx := tkind_ok hT tx
        rw [hkx] at hktx
        rw [h2.inv_nils] at hargs
        rw [h3.inv_int] at hargs
        obtain ⟨info, i1, i2, i3, i4⟩ := (hT e ei hei).info
        obtain ⟨zv, i5, i6, i7⟩ := i4 z hz
        obtain ⟨m, rfl⟩ : ∃ m : Nat, n = m := ⟨n.toNat, by omega⟩
        simp only [Int.toNat_natCast]
        have hr := Lib.run_append_nil_zeros (P := P) w t tx o.type e info zv kz kx hk hktx i1 i5 m (by omega) (by omega) q2 (by rw [i3]; omega)
        have hge := grownCap_ge w m 0 e
        have hzs' : zv.cells.size = ei.size := by have := (zero_cells i6).1; simp at this; omega
        have hcsz : (Builtin.zeroCells zv.cells m ++ Builtin.zeroCells zv.cells (grownCap w m 0 e - m)).size = grownCap w m 0 e * ei.size := by
          simp only [Array.size_append, size_zeroCells, hzs']
          rw [← Nat.add_mul]; congr 1; omega
        refine ⟨⟨.slice (some ⟨w.heap.size, 0, none⟩) m (grownCap w m 0 e), w.drew.alloc (.cells (Builtin.zeroCells zv.cells m ++ Builtin.zeroCells zv.cells (grownCap w m 0 e - m)) e), Builtin.zeroCells zv.cells m ++ Builtin.zeroCells zv.cells (grownCap w m 0 e - m), e, (0, 0), ?_, rfl, rfl, rfl, by simp, ?_, ?_, fun hb => ?_⟩, ?_, by
          intro k hk
          simp only [Node.ids, List.mem_flatMap, List.mem_replicate] at hk
          obtain ⟨_, ⟨_, rfl⟩, hk⟩ := hk
          obtain ⟨y, hy, hk⟩ := mem_idsL' hk
          obtain ⟨j, hj⟩ := List.mem_iff_getElem?.1 hy
          have hj' : j < zv.cells.size := by have := (zero_cells i6).1; simp at this; rw [this]; exact (List.getElem?_eq_some_iff.1 hj).1
          have hz2 := (zero_cells i6).2 j y zv.cells[j] hj (by simp [hj'])
          rw [(ofV_sound (w := w) (lab := lab) hz2).ids] at hk; cases hk⟩
        rotate_left
        · rw [hcsz]; simp only [List.length_replicate]; exact Nat.mul_le_mul_right _ hge
        · intro i cc j yy hi hj
          rw [List.getElem?_replicate] at hi
          split at hi <;> first | (cases hi; done) | cases hi
          rename_i hil
          have hj' : j < ei.size := by
            rcases Nat.lt_or_ge j z.length with h | h
            · omega
            · simp [List.getElem?_eq_none h] at hj
          have hlt : i * ei.size + j < m * ei.size := by
            have : (i + 1) * ei.size ≤ m * ei.size := Nat.mul_le_mul_right _ (by omega)
            rw [Nat.add_mul] at this; omega
          have hjz : j < zv.cells.size := by omega
          refine ⟨zv.cells[j], ?_, .imm _ _ (ofV_sound ((zero_cells i6).2 j yy _ hj (by simp [hjz])))⟩
          have hlt2 : i * ei.size + j < (Builtin.zeroCells zv.cells m).size := by rw [size_zeroCells, hzs']; exact hlt
          simp only [Array.toList_append]
          rw [List.getElem?_append_left (by simpa using hlt2)]
          simp [Builtin.zeroCells, hlt, hzs', (div_row hj').2]
          rw [getElem!_pos zv.cells j hjz]
        · rw [hcsz] at hb
          exact V_sl_new hb hge (Nat.le_refl _)
        · intro cc hc
          rw [List.mem_replicate] at hc
          rw [hc.2]; exact i7
        · have hat2 : c.argTypes = #[t, tx] := hat'
          simp only [execOp, ho, resolve, hc, invoke, builtin, hargs, hat2, Sem.run_bind, hr, Result.andThen_ok, Sem.run_pure]
      rename_i l okl hel
      split at h <;> first | (cases h; done) | cases h
      rename_i hzs
      obtain ⟨hokl, h4, h5, h6⟩ := hok
      obtain ⟨news, hsrc, hrow, hes, hids⟩ := elemsA_sound hT hn hel hokl h3
      obtain ⟨z, hz⟩ := Option.isSome_iff_exists.1 hzs
      obtain ⟨info, i1, i2, i3, i4⟩ := (hT e ei hei).info
      obtain ⟨zv, i5, i6, i7⟩ := i4 z hz
      have hr := run_append_grow_src (P := P) w t tx o.type e info zv hk i1 i5 base 0 0 [] (by cases base <;> simp [Builtin.firstCells, loadCells, loadCellsFrom]) vy l.length news (by rw [i2]; exact hsrc) (by omega) (by omega)
        (by rw [Nat.zero_add, i3]; exact growslice_fits (by omega) h5)
      have hge := grownCap_ge w (0 + l.length) 0 e
      simp only [Nat.zero_add] at hr hge
      have hnl : news.length = l.length * ei.size := by rw [hsrc.newsLen]
      have hzs' : zv.cells.size = ei.size := by have := (zero_cells i6).1; simp at this; omega
      have hcsz : ((([] : List Value) ++ news).toArray ++ Builtin.zeroCells zv.cells (grownCap w l.length 0 e - l.length)).size = grownCap w l.length 0 e * ei.size := by
        simp only [List.nil_append, Array.size_append, List.size_toArray, size_zeroCells, hzs', hnl]
        rw [← Nat.add_mul]; congr 1; omega
      refine ⟨⟨.slice (some ⟨w.heap.size, 0, none⟩) l.length (grownCap w l.length 0 e), w.drew.alloc (.cells ((([] : List Value) ++ news).toArray ++ Builtin.zeroCells zv.cells (grownCap w l.length 0 e - l.length)) e), (([] : List Value) ++ news).toArray ++ Builtin.zeroCells zv.cells (grownCap w l.length 0 e - l.length), e, (0, 0), ?_, rfl, rfl, rfl, by simp, ?_, ?_, fun hb => ?_⟩, hes, by
        intro k hk
        simp only [Node.ids, List.mem_flatMap] at hk
        obtain ⟨c, hc, hk⟩ := hk
        obtain ⟨y, hy, hk⟩ := mem_idsL' hk
        exact Or.inr (hids c hc y hy k hk)⟩
      rotate_left
      · rw [hcsz]; exact Nat.mul_le_mul_right _ hge
      · intro i cc j yy hi hj
        obtain ⟨u, hu, hV⟩ := hrow i cc j yy hi hj
        refine ⟨u, ?_, hV⟩
        have hlt := (List.getElem?_eq_some_iff.1 hu).1
        simp only [List.nil_append, Array.toList_append]
        rw [List.getElem?_append_left hlt]; exact hu
      · rw [hcsz] at hb
        exact V_sl_new hb hge (Nat.le_refl _)
      · simp only [execOp, ho, resolve, hc, invoke, builtin, hargs, hat', hvb, Sem.run_bind, hr, Result.andThen_ok, Sem.run_pure]
    split at h
    · exact key none h2.inv_nils h
    · obtain ⟨a, ha⟩ := h2.inv_zsl
      exact key a ha h
    · cases h
  · cases h
end snd

end Go.AM
