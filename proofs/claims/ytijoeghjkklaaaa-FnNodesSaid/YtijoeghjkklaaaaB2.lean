/- Joined texts: Am8 Am9 Am10 Am29 Am11 Am12. -/
import Derived.Test.YtijoeghjkklaaaaB1
import Derived.Lib.AppendZeros
set_option linter.unusedVariables false
set_option linter.unusedSimpArgs false
namespace Go.AM
def Row (w : World) (lab : Labs) (loc : Locs) (l : List (List AV)) (es : Nat) (news : List Value) : Prop :=
 ∀ (i : Nat) c (j : Nat) y, l[i]? = some c → c[j]? = some y → ∃ u, news[i * es + j]? = some u ∧ V w lab loc y u
theorem div_row {i j es : Nat} (h : j < es) : (i * es + j) / es = i ∧ (i * es + j) % es = j := by
 have h0 : 0 < es := by omega
 constructor
 ·rw [Nat.add_comm, Nat.add_mul_div_right _ _ h0, Nat.div_eq_of_lt h]; omega
 ·rw [Nat.add_comm, Nat.add_mul_mod_self_right, Nat.mod_eq_of_lt h]
theorem row_lt {k n es : Nat} (h : k < n * es) : k / es < n ∧ k % es < es ∧ (k / es) * es + k % es = k := by
 have h0 : 0 < es := by rcases Nat.eq_zero_or_pos es with h | h <;> simp_all
 exact ⟨Nat.div_lt_of_lt_mul (by rw [Nat.mul_comm]; exact h), Nat.mod_lt _ h0, Nat.div_add_mod' k es⟩
def elemsA (ti : TI) (nodes : Nat → Option Node) (tx es : Nat) : AV → Option (List (List AV) × Prop)
 | .isl es' l => match tkind ti tx with
  | .slice _ => if es' = es then some (l, True) else none
  | _ => none
 | .nils | .zsl => match tkind ti tx with
  | .slice _ => some ([], True)
  | _ => none
 | .sl id es' i len => match tkind ti tx, nodes id with
  | .slice _, some nd => if es' = es ∧ nd.es = es then some ((nd.l.drop i).take len, i + len ≤ nd.l.length ∧ ∀ c ∈ (nd.l.drop i).take len, ∀ x ∈ c, okCell nodes x = true) else none
  | _, _ => none
 | .str s => match tkind ti tx with
  | .str => if es = 1 then some (encB s, True) else none
  | _ => none
 | _ => none
def IdsFrom (nodes : Nat → Option Node) (vs : List AV) (k : Nat) : Prop := (∃ x ∈ vs, k ∈ x.ids) ∨ ∃ id nd, nodes id = some nd ∧ k ∈ nd.ids
theorem mem_idsL' {l : List AV} {k : Nat} (h : k ∈ idsL l) : ∃ x ∈ l, k ∈ x.ids := by
 induction l with
 | nil => simp [idsL] at h
 | cons x l ih =>
  simp only [idsL, List.mem_append] at h
  rcases h with h | h
  ·exact ⟨x, List.mem_cons_self, h⟩
  ·obtain ⟨y, hy, hk⟩ := ih h; exact ⟨y, List.mem_cons_of_mem _ hy, hk⟩
section snd
variable {P : Program} {ti : TI} (hT : TOk P ti) {w : World} {lab : Labs} {loc : Locs} {nodes : Nat → Option Node}
 (hn : ∀ id nd, nodes id = some nd → ∃ b base, loc id = some (b, base) ∧ ObjOk w lab loc id nd b base)
theorem I.one {x : AV} {v : Value} (h : I w lab x v) (hp : x.plain = true) : v.oneCell' = true := by
 cases h <;> first | rfl | (simp [AV.plain] at hp)
theorem src_row {tx e' es : Nat} (hk : P.underlying tx = some (.slice e')) (a : Addr) (l : List (List AV)) (cap : Nat) (f : Nat → Value) (hes : ∀ c ∈ l, c.length = es)
  (hf : ∀ (i : Nat) c (j : Nat) y, l[i]? = some c → c[j]? = some y → w.cell? (a.add (i * es + j)) = some (f (i * es + j)) ∧ V w lab loc y (f (i * es + j)) ∧ (f (i * es + j)).oneCell' = true) :
  ∃ news, Src P es tx (.slice (some a) l.length cap) l.length news w ∧ Row w lab loc l es news := by
 have hget : ∀ k, k < l.length * es → ∃ c y, l[k / es]? = some c ∧ c[k % es]? = some y ∧ (k / es) * es + k % es = k := by
  intro k hk
  obtain ⟨h1, h2, h3⟩ := row_lt hk
  have hc : l[k / es]? = some l[k / es] := List.getElem?_eq_getElem h1
  have hl : (l[k / es]).length = es := hes _ (List.getElem_mem h1)
  exact ⟨_, _, hc, List.getElem?_eq_getElem (by rw [hl]; exact h2), h3⟩
 refine ⟨(List.range (l.length * es)).map f, ?_, ?_⟩
 ·refine Src.ofSlice w hk a l.length cap _ (by simp) ?_ ?_
  ·intro k u hu
   have hlt : k < l.length * es := by
    have := (List.getElem?_eq_some_iff.1 hu).1
    simpa using this
   have hu' : f k = u := by simpa [hlt] using hu
   subst hu'
   obtain ⟨c, y, h1, h2, h3⟩ := hget k hlt
   have := (hf _ c _ y h1 h2).1
   rw [h3] at this; exact this
  ·intro u hu
   obtain ⟨k, hk', rfl⟩ := List.mem_map.1 hu
   obtain ⟨c, y, h1, h2, h3⟩ := hget k (List.mem_range.1 hk')
   have := (hf _ c _ y h1 h2).2.2
   rw [h3] at this; exact this
 ·intro i c j y hi hj
  have hil : i < l.length := by rcases Nat.lt_or_ge i l.length with h | h; exact h; simp [List.getElem?_eq_none h] at hi
  have hjl : j < es := by
   have := hes c (List.mem_of_getElem? hi)
   rcases Nat.lt_or_ge j c.length with h | h
   ·omega
   ·simp [List.getElem?_eq_none h] at hj
  have hlt : i * es + j < l.length * es := by
   have : (i + 1) * es ≤ l.length * es := Nat.mul_le_mul_right _ hil
   rw [Nat.add_mul] at this; omega
  exact ⟨f (i * es + j), by simp [hlt], (hf i c j y hi hj).2.1⟩
include hT hn in
theorem elemsA_sound {tx es : Nat} {x : AV} {l : List (List AV)} {ok : Prop} (h : elemsA ti nodes tx es x = some (l, ok)) (hok : ok) {vx : Value} (hx : V w lab loc x vx) :
  ∃ news, Src P es tx vx l.length news w ∧ Row w lab loc l es news ∧ (∀ c ∈ l, c.length = es) ∧ ∀ c ∈ l, ∀ y ∈ c, ∀ k ∈ y.ids, ∃ id nd, nodes id = some nd ∧ k ∈ nd.ids := by
 have hk := tkind_ok hT tx
 unfold elemsA at h
 split at h
 ·rename_i es' l'
  split at h <;> first | (cases h; done) | skip
  rename_i e hk'
  rw [hk'] at hk
  split at h <;> first | (cases h; done) | cases h
  rename_i he
  subst he
  cases hx.inv_isl with
  | esl _ a cap =>
   obtain ⟨news, h1, h2⟩ := src_row (P := P) (w := w) (lab := lab) (loc := loc) (es := es') hk a [] cap (fun _ => undef) (by simp) (by intro i c j y hi; simp at hi)
   exact ⟨news, h1, h2, by simp, by simp⟩
  | nsl => exact ⟨[], Src.ofNil w hk 0, by intro i c j y hi; simp at hi, by simp, by simp⟩
  | isl _ _ b off cap vals hb hsz hc hes hp hv hr =>
   obtain ⟨news, h1, h2⟩ := src_row (P := P) (w := w) (lab := lab) (loc := loc) (es := es') hk ⟨b, off, none⟩ l cap (fun k => vals (k / es') (k % es')) hes (by
    intro i c j y hi hj
    have hil : i < l.length := by rcases Nat.lt_or_ge i l.length with h | h; exact h; simp [List.getElem?_eq_none h] at hi
    have hjl : j < es' := by
     have := hes c (List.mem_of_getElem? hi)
     rcases Nat.lt_or_ge j c.length with h | h
     ·omega
     ·simp [List.getElem?_eq_none h] at hj
    obtain ⟨d1, d2⟩ := div_row (i := i) hjl
    have hI := hr i c j y hi hj
    refine ⟨?_, ?_, ?_⟩
    ·rw [addr_add, ← Nat.add_assoc]; simp only [d1, d2]; exact hv i j hil hjl
    ·simp only [d1, d2]; exact .imm _ _ hI
    ·simp only [d1, d2]; exact hI.one (hp c (List.mem_of_getElem? hi) y (List.mem_of_getElem? hj)))
   refine ⟨news, h1, h2, hes, fun c hc y hy k hk => ?_⟩
   obtain ⟨i, hi⟩ := List.mem_iff_getElem?.1 hc
   obtain ⟨j, hj⟩ := List.mem_iff_getElem?.1 hy
   rw [(hr i c j y hi hj).ids] at hk; cases hk
 ·split at h <;> first | (cases h; done) | cases h
  rename_i e hk'
  rw [hk'] at hk
  rw [hx.inv_nils]
  exact ⟨[], Src.ofNil w hk 0, by intro i c j y hi; simp at hi, by simp, by simp⟩
 ·split at h <;> first | (cases h; done) | cases h
  rename_i e hk'
  rw [hk'] at hk
  obtain ⟨a, rfl⟩ := hx.inv_zsl
  cases a with
  | none => exact ⟨[], Src.ofNil w hk 0, by intro i c j y hi; simp at hi, by simp, by simp⟩
  | some a =>
  obtain ⟨news, h1, h2⟩ := src_row (P := P) (w := w) (lab := lab) (loc := loc) (es := es) hk a [] 0 (fun _ => undef) (by simp) (by intro i c j y hi; simp at hi)
  exact ⟨news, h1, h2, by simp, by simp⟩
 ·rename_i id es' i len
  split at h <;> first | (cases h; done) | skip
  rename_i e nd hk' hnd
  rw [hk'] at hk
  split at h <;> first | (cases h; done) | cases h
  rename_i hes
  obtain ⟨rfl, hes⟩ := hes
  obtain ⟨hlen, hcl⟩ := hok
  obtain ⟨b, base, hl, ho⟩ := hn id nd hnd
  obtain ⟨a, cap, rfl, h1, h2, h3⟩ := hx.inv_sl hl
  have hll : ((nd.l.drop i).take len).length = len := by simp; omega
  have hes2 : ∀ c ∈ (nd.l.drop i).take len, c.length = es' := by
   intro c hc; rw [← hes]; exact ho.es c (List.mem_of_mem_drop (List.mem_of_mem_take hc))
  obtain ⟨news, h4, h5⟩ := src_row (P := P) (w := w) (lab := lab) (loc := loc) (es := es') hk a ((nd.l.drop i).take len) cap (fun k => (w.cell? (a.add k)).getD undef) hes2 (by
   intro k c j y hi hj
   have hil : k < len := by rcases Nat.lt_or_ge k len with h | h; exact h; simp [List.getElem?_eq_none (show ((nd.l.drop i).take len).length ≤ k by omega)] at hi
   have ha : a = ⟨b, base + i * es', none⟩ := by rcases h2 with h | h <;> first | exact h | omega
   subst ha
   have hi' : nd.l[i + k]? = some c := by
    rw [List.getElem?_take, if_pos hil, List.getElem?_drop] at hi; exact hi
   obtain ⟨v, hv, hcv⟩ := ho.cells (i + k) c j y hi' hj
   have hv' : w.cell? ((⟨b, base + i * es', none⟩ : Addr).add (k * es' + j)) = some v := by
    rw [addr_add]
    rw [hes, Nat.add_mul] at hv
    rw [show base + i * es' + (k * es' + j) = base + (i * es' + k * es') + j by omega]; exact hv
   have hok := hcl c (List.mem_of_getElem? hi) y (List.mem_of_getElem? hj)
   have hp : y.plain = true := by unfold okCell at hok; simp at hok; exact hok.1
   have hV := hcv.inv_plain hp
   simp only [hv']
   exact ⟨rfl, hV, okCell_one hn hok hV⟩)
  rw [hll] at h4
  exact ⟨news, by rw [hll]; exact h4, h5, hes2, fun c hc y hy k hk => ⟨id, nd, hnd, by
   simp only [Node.ids, List.mem_flatMap]
   exact ⟨c, List.mem_of_mem_drop (List.mem_of_mem_take hc), mem_idsL hy hk⟩⟩⟩
 ·rename_i s
  split at h <;> first | (cases h; done) | skip
  rename_i hk'
  rw [hk'] at hk
  split at h <;> first | (cases h; done) | cases h
  rename_i he
  subst he
  rw [hx.inv_str]
  have hl : (encB s).length = (⟨s.toArray⟩ : ByteArray).size := by simp [encB, ByteArray.size]
  refine ⟨byteCells ⟨s.toArray⟩, by rw [hl]; exact Src.ofString w hk _, ?_, by intro c hc; unfold encB at hc; obtain ⟨_, _, rfl⟩ := List.mem_map.1 hc; rfl, by
   intro c hc y hy k hk
   unfold encB at hc
   obtain ⟨_, _, rfl⟩ := List.mem_map.1 hc
   simp at hy; subst hy; simp [AV.ids] at hk⟩
  intro i c j y hi hj
  simp only [encB, List.getElem?_map, Option.map_eq_some_iff] at hi
  obtain ⟨b, hb, rfl⟩ := hi
  cases j with
  | succ j => simp at hj
  | zero =>
   simp at hj; subst hj
   exact ⟨.int .u8 b.toNat, by simp [byteCells, hb], V.int _ _⟩
 ·cases h
end snd
def zerosA (ti : TI) (tx id : Nat) (ei : TInfo) (b x : AV) : Option (Node × AV × Prop) :=
 match b, x, tkind ti tx, ei.zero with
 | .nils, .int _ n, .int _, some z => some (⟨ei.size, List.replicate n.toNat z⟩, .sl id ei.size 0 n.toNat, 0 < n ∧ n ≤ 9223372036854775807 ∧ n * ei.bytes ≤ 281474976710656 ∧ 0 < ei.size)
 | _, _, _, _ => none
def newA (ti : TI) (nodes : Nat → Option Node) (id : Nat) (op : Op) (vs : List AV) : Option (Node × AV × Prop) :=
 match op with
 | .alloc t => match ti t with
  | some i => match i.zero with
   | some z => if vs.length = 0 then some (⟨i.size, [z]⟩, .ptr id i.size 0 0, True) else none
   | none => none
  | none => none
 | .box _ _ => match vs with
  | [x] => if isCells nodes x then some (⟨x.cellsA.length, [x.cellsA]⟩, .ptr id x.cellsA.length 0 0, True) else none
  | _ => none
 | .buildSlice t n parts => match tkind ti t with
  | .slice e => match ti e with
   | some ei => if parts.toList.map (·.1) = List.range n ∧ vs.length = n ∧ vs.all (isCells nodes) = true ∧ vs.all (fun x => x.cellsA.length == ei.size) = true ∧ n * ei.size ≤ 16777216 ∧ ei.zero.isSome = true then
     some (⟨ei.size, vs.map AV.cellsA⟩, .sl id ei.size 0 n, True) else none
   | none => none
  | _ => none
 | .makeSlice t _ _ => match vs with
  | [.int _ l, .int _ c] => match tkind ti t with
   | .slice e => match ti e with
    | some ei => match ei.zero with
     | some z => some (⟨ei.size, List.replicate l.toNat z⟩, .sl id ei.size 0 l.toNat, 0 ≤ l ∧ l ≤ c ∧ (ei.bytes : Int) * c ≤ 281474976710656 ∧ c ≤ 9223372036854775807)
     | none => none
    | none => none
   | _ => none
  | _ => none
 | .convert s d _ => match vs with
  | [.str l] => match tkind ti s, tkind ti d with
   | .str, .slice e => match tkind ti e with
    | .int .u8 => some (⟨1, encB l⟩, .sl id 1 0 l.length, True)
    | _ => none
   | _, _ => none
  | _ => none
 | .call c => match c.callee, c.argTypes.toList, vs with
  | .builtin .append, [t, tx], [b, x] => match b with
   | .nils | .zsl => match tkind ti t with
    | .slice e => match ti e with
     | some ei => match elemsA ti nodes tx ei.size x with
      | some (l, ok) => if ei.zero.isSome then some (⟨ei.size, l⟩, .sl id ei.size 0 l.length, ok ∧ 0 < l.length ∧ l.length * ei.bytes ≤ 140737488355328 ∧ l.length ≤ 9223372036854775807) else none
      | none => zerosA ti tx id ei b x
     | none => none
    | _ => none
   | _ => none
  | _, _, _ => none
 | _ => none
structure NewOk (P : Program) (w : World) (lab : Labs) (loc : Locs) (nodes : Nat → Option Node) (vs : List AV) (id : Nat) (nd : Node) (x : AV) (s : Sem Next) : Prop where
 run : ∃ (v : Value) (w' : World) (c : Array Value) (ty : TypeId) (fz : Nat × Nat), s.run P w = .ok (.value v) w' ∧ w'.heap = w.heap.push (.cells c ty fz) ∧ w'.os = w.os ∧ w'.output = w.output ∧
  (∀ o, o < c.size → ¬ (fz.1 ≤ o ∧ o < fz.2)) ∧ nd.l.length * nd.es ≤ c.size ∧ Row w lab loc nd.l nd.es c.toList ∧
  (Blk w' w.heap.size c.size → V w' (labN lab w.heap.size id) (locN loc w.heap.size 0 id) x v)
 es : ∀ cc ∈ nd.l, cc.length = nd.es
 ids : ∀ k ∈ nd.ids, IdsFrom nodes vs k
theorem cellsA_ids {x : AV} {k : Nat} (h : k ∈ idsL x.cellsA) : k ∈ x.ids := by
 unfold AV.cellsA at h
 split at h
 ·simpa [AV.ids] using h
 ·simpa [idsL] using h
theorem V_ptr_new {w' : World} {lab : Labs} {loc : Locs} {b id es : Nat} : V w' lab (locN loc b 0 id) (.ptr id es 0 0) (.pointer (some ⟨b, 0, none⟩)) := by
 refine .ptr _ _ _ _ _ fun b' base' hl => ?_
 simp [locN] at hl
 obtain ⟨rfl, rfl⟩ := hl
 simp
theorem V_sl_new {w' : World} {lab : Labs} {loc : Locs} {b id es len cap n : Nat} (hb : Blk w' b n) (hl : len ≤ cap) (hc : cap * es ≤ n) :
  V w' lab (locN loc b 0 id) (.sl id es 0 len) (.slice (some ⟨b, 0, none⟩) len cap) := by
 refine .sl _ _ _ _ _ fun b' base' hl' => ?_
 simp [locN] at hl'
 obtain ⟨rfl, rfl⟩ := hl'
 exact ⟨_, cap, rfl, hl, Or.inr (by simp), hb.le (by simpa using hc)⟩
section snd
variable {P : Program} {ti : TI} (hT : TOk P ti) {w : World} {lab : Labs} {loc : Locs} {nodes : Nat → Option Node}
 (hn : ∀ id nd, nodes id = some nd → ∃ b base, loc id = some (b, base) ∧ ObjOk w lab loc id nd b base)
theorem fillRow {size : Nat} : ∀ (vs : List AV) (us : List Value) (k : Nat) (c : Array Value), vs.length = us.length → (∀ (j : Nat) x y, vs[j]? = some x → us[j]? = some y → CellsV w lab loc x.cellsA y.cells ∧ x.cellsA.length = size) →
  (k + vs.length) * size ≤ c.size →
  ∃ c', Instr.fill (fun i => some (i * size, size)) c ((List.range' k vs.length).zip us) = some c' ∧ c'.size = c.size ∧ (∀ m, m < k * size → c'[m]? = c[m]?) ∧
   (∀ (i : Nat) x (j : Nat) y, vs[i]? = some x → x.cellsA[j]? = some y → ∃ u, c'[(k + i) * size + j]? = some u ∧ V w lab loc y u) := by
 intro vs
 induction vs with
 | nil =>
  intro us k c _ _ _
  exact ⟨c, by simp [Instr.fill], rfl, fun _ _ => rfl, by intro i x j y hi; simp at hi⟩
 | cons x vs ih =>
  intro us k c hl hr hc
  cases us with
  | nil => simp at hl
  | cons u us =>
   obtain ⟨hx, hs⟩ := hr 0 _ _ rfl rfl
   have hsz : u.cells.size = size := by rw [← hx.1, hs]
   simp only [List.length_cons] at hc
   have hc1 : k * size + size ≤ c.size := by
    have : (k + 1) * size ≤ (k + (vs.length + 1)) * size := Nat.mul_le_mul_right _ (by omega)
    rw [Nat.add_mul] at this; omega
   have hfold := foldl_setIf u.cells.toList 0 c (k * size) (by simp; omega)
   simp only [Nat.add_zero, Array.length_toList, Nat.sub_zero] at hfold
   have hle : u.cells.zipIdx.foldl (fun cs (x : Value × Nat) => cs.setIfInBounds (k * size + x.2) x.1) c = (u.cells.toList.zipIdx).foldl (fun (cs : Array Value) (x : Value × Nat) => cs.setIfInBounds (k * size + x.2) x.1) c := by
    rw [← Array.foldl_toList]; simp
   obtain ⟨c', h1, h2, h3, h4⟩ := ih us (k + 1) ((u.cells.toList.zipIdx).foldl (fun (cs : Array Value) (x : Value × Nat) => cs.setIfInBounds (k * size + x.2) x.1) c) (by simpa using hl)
    (fun j a b ha hb => hr (j + 1) a b (by simpa using ha) (by simpa using hb)) (by rw [hfold.1]; rw [show k + 1 + vs.length = k + (vs.length + 1) by omega]; exact hc)
   refine ⟨c', ?_, by rw [h2, hfold.1], ?_, ?_⟩
   ·simp only [List.length_cons, List.range'_succ, List.zip_cons_cons, Instr.fill]
    rw [if_neg (by simp [hsz]; omega), hle]
    exact h1
   ·intro m hm
    rw [h3 m (by rw [Nat.add_mul]; omega), hfold.2 m, if_neg (by omega)]
   ·intro i y j z hi hj
    cases i with
    | zero =>
     simp at hi; subst hi
     have hj' : j < size := by
      rcases Nat.lt_or_ge j x.cellsA.length with h | h
      ·omega
      ·simp [List.getElem?_eq_none h] at hj
     have hju : j < u.cells.size := by omega
     refine ⟨u.cells[j], ?_, hx.2 j z _ hj (by simp [hju])⟩
     rw [Nat.add_zero, h3 _ (by rw [Nat.add_mul]; omega), hfold.2, if_pos (by omega)]
     simp [hju]
    | succ i =>
     simp at hi
     obtain ⟨v, hv, hV⟩ := h4 i y j z hi hj
     exact ⟨v, by rw [show k + (i + 1) = k + 1 + i by omega]; exact hv, hV⟩
include hT hn in
theorem newA_sound {o : Oper} {ρ : Operand → Value} {vs : List AV} {id : Nat} {nd : Node} {x : AV} {ok : Prop} (h : newA ti nodes id o.op vs = some (nd, x, ok)) (hok : ok)
  (hv : OpsV w lab loc vs (o.op.operands.toList.map ρ)) : NewOk P w lab loc nodes vs id nd x (execOp ρ o) := by
 unfold newA at h
 split at h
 ·rename_i t ho
  split at h <;> first | (cases h; done) | skip
  rename_i i hi
  split at h <;> first | (cases h; done) | skip
  rename_i z hz
  split at h <;> first | (cases h; done) | cases h
  obtain ⟨zv, hzr, hzc, hzl⟩ := t_zero hT hi hz
  obtain ⟨h1, h2⟩ := zero_CellsV (w := w) (lab := lab) (loc := loc) hzc
  refine ⟨⟨.pointer (some ⟨w.heap.size, 0, none⟩), w.alloc (.cells zv.cells t), zv.cells, t, (0, 0), ?_, rfl, rfl, rfl, by simp, by simp; omega, ?_, fun _ => V_ptr_new⟩, by intro cc hc; simp at hc; subst hc; exact hzl, by
   intro k hk
   simp [Node.ids] at hk
   obtain ⟨y, hy, hk⟩ := mem_idsL' hk
   obtain ⟨j, hj⟩ := List.mem_iff_getElem?.1 hy
   have hj' : j < zv.cells.size := by rw [← h1]; exact (List.getElem?_eq_some_iff.1 hj).1
   have hz2 := (zero_cells hzc).2 j y zv.cells[j] hj (by simp [hj'])
   rw [(ofV_sound (w := w) (lab := lab) hz2).ids] at hk; cases hk⟩
  ·simp [execOp, ho, Instr.alloc, hzr, newVar, newRow]
  ·intro k c j y hk hj
   cases k with
   | succ k => simp at hk
   | zero =>
    simp at hk; subst hk
    have hj' : j < zv.cells.size := by
     rcases Nat.lt_or_ge j z.length with h | h
     ·omega
     ·simp [List.getElem?_eq_none h] at hj
    exact ⟨zv.cells[j], by simp [hj'], h2 j y _ hj (by simp [hj'])⟩
 ·rename_i t y ho
  split at h <;> first | (cases h; done) | skip
  rename_i x'
  split at h <;> first | (cases h; done) | cases h
  rename_i hc
  rw [ho] at hv
  obtain ⟨v, h1, h2⟩ := hv.one
  simp [Op.operands] at h1; subst h1
  obtain ⟨h3, h4⟩ := isCells_sound hn hc h2
  refine ⟨⟨.pointer (some ⟨w.heap.size, 0, none⟩), w.alloc (.cells (ρ y).cells t), (ρ y).cells, t, (0, 0), ?_, rfl, rfl, rfl, by simp, by simp; omega, ?_, fun _ => V_ptr_new⟩, by intro cc hc; simp at hc; subst hc; rfl, by
   intro k hk
   simp [Node.ids] at hk
   exact Or.inl ⟨x', List.mem_singleton.2 rfl, cellsA_ids hk⟩⟩
  ·simp [execOp, ho, Instr.box, newVar, newRow]
  ·intro k c j y' hk hj
   cases k with
   | succ k => simp at hk
   | zero =>
    simp at hk; subst hk
    have hj' : j < (ρ y).cells.size := by
     rcases Nat.lt_or_ge j x'.cellsA.length with h | h
     ·omega
     ·simp [List.getElem?_eq_none h] at hj
    exact ⟨(ρ y).cells[j], by simp [hj'], h4 j y' _ hj (by simp [hj'])⟩
 ·rename_i t n parts ho
  have hk := tkind_ok hT t
  split at h <;> first | (cases h; done) | skip
  rename_i e hk'
  rw [hk'] at hk
  split at h <;> first | (cases h; done) | skip
  rename_i ei hei
  split at h <;> first | (cases h; done) | cases h
  rename_i hcond
  obtain ⟨hp, hlen, hall, hsz, hmax, hzs⟩ := hcond
  rw [ho] at hv
  have hops : (Op.operands (.buildSlice t n parts)).toList.map ρ = parts.toList.map fun p => ρ p.2 := by simp [Op.operands]
  rw [hops] at hv
  rw [List.all_eq_true] at hall hsz
  obtain ⟨z, hz⟩ := Option.isSome_iff_exists.1 hzs
  obtain ⟨zv, hzr, hzc, hzl⟩ := t_zero hT hei hz
  have hzs' : zv.cells.size = ei.size := by have := (zero_cells hzc).1; simp at this; omega
  have hcells : ∀ (j : Nat) x y, vs[j]? = some x → (parts.toList.map fun p => ρ p.2)[j]? = some y → CellsV w lab loc x.cellsA y.cells ∧ x.cellsA.length = ei.size := by
   intro j x y hx hy
   exact ⟨isCells_sound hn (hall x (List.mem_of_getElem? hx)) (hv.2 j x y hx hy), by simpa using hsz x (List.mem_of_getElem? hx)⟩
  obtain ⟨c', hf, hcs, _, hrow⟩ := fillRow (w := w) (lab := lab) (loc := loc) (size := ei.size) vs (parts.toList.map fun p => ρ p.2) 0 ((Array.range (n * ei.size)).map (zv.cells[· % zv.cells.size]!)) hv.1 hcells (by simp [hlen])
  have hparts : (parts.map fun (i, x) => (i, ρ x)).toList = (List.range' 0 vs.length).zip (parts.toList.map fun p => ρ p.2) := by
   have : (List.range' 0 vs.length) = parts.toList.map (·.1) := by rw [hp, hlen, List.range_eq_range']
   rw [this]
   simp only [Array.toList_map]
   induction parts.toList with
   | nil => rfl
   | cons a l ih => simp [ih]
  refine ⟨⟨.slice (some ⟨w.heap.size, 0, none⟩) n n, w.alloc (.cells c' e), c', e, (0, 0), ?_, rfl, rfl, rfl, by simp, ?_, ?_, fun hb => V_sl_new hb (Nat.le_refl _) ?_⟩, ?_, by
   intro k hk
   simp only [Node.ids, List.mem_flatMap, List.mem_map] at hk
   obtain ⟨_, ⟨y, hy, rfl⟩, hk⟩ := hk
   exact Or.inl ⟨y, hy, cellsA_ids hk⟩⟩
  ·have hsize := t_sizeOf hT hei w
   have hmax' : ¬ (n * ei.size > 2 ^ 24) := by simp; omega
   simp only [execOp, ho, Instr.buildSlice, Sem.run_bind, run_underlying (P := P) hk, Result.andThen_ok, hsize, hmax', if_false, hparts]
   by_cases h0 : n * ei.size = 0
   ·have e1 : (Array.range (n * ei.size)).map (fun x => zv.cells[x % zv.cells.size]!) = #[] := by rw [h0]; simp [Array.range_zero']
    rw [e1] at hf
    simp [h0, Array.range_zero', hf, newRow]
   ·simp [h0, hzr, hf, newRow]
  ·rw [hcs]; simp [hlen]
  ·intro i cc j y hi hj
   simp only [List.getElem?_map, Option.map_eq_some_iff] at hi
   obtain ⟨xx, hxx, rfl⟩ := hi
   obtain ⟨u, hu, hV⟩ := hrow i xx j y hxx hj
   exact ⟨u, by simpa using hu, hV⟩
  ·rw [hcs]; simp
  ·intro cc hc
   obtain ⟨xx, hxx, rfl⟩ := List.mem_map.1 hc
   simpa using hsz xx hxx
 ·rename_i t lo co ho
  split at h <;> first | (cases h; done) | skip
  rename_i kl l kc c
  have hk := tkind_ok hT t
  split at h <;> first | (cases h; done) | skip
  rename_i e hk'
  rw [hk'] at hk
  split at h <;> first | (cases h; done) | skip
  rename_i ei hei
  split at h <;> first | (cases h; done) | cases h
  rename_i z hz
  obtain ⟨h0, h1, h2, h3⟩ := hok
  rw [ho] at hv
  obtain ⟨v, u, h4, h5, h6⟩ := hv.two
  simp [Op.operands] at h4
  obtain ⟨h7, h8⟩ := h4
  have hv1 := h5.inv_int; have hv2 := h6.inv_int
  obtain ⟨info, i1, i2, i3, i4⟩ := (hT e ei hei).info
  obtain ⟨zv, i5, i6, i7⟩ := i4 z hz
  have hr := run_make (P := P) w t e info zv hk i1 i5 kl kc l c h0 h1 (by rw [i3]; exact h2) h3
  have hzs' : zv.cells.size = ei.size := by have := (zero_cells i6).1; simp at this; omega
  refine ⟨⟨.slice (some ⟨w.heap.size, 0, none⟩) l.toNat c.toNat, w.alloc (.cells (madeCells zv.cells (c.toNat * info.size)) e), madeCells zv.cells (c.toNat * info.size), e, (0, 0), ?_, rfl, rfl, rfl, by simp, ?_, ?_, fun hb => V_sl_new hb (by omega) ?_⟩, ?_, by
   intro k hk
   simp only [Node.ids, List.mem_flatMap, List.mem_replicate] at hk
   obtain ⟨_, ⟨_, rfl⟩, hk⟩ := hk
   obtain ⟨y, hy, hk⟩ := mem_idsL' hk
   obtain ⟨j, hj⟩ := List.mem_iff_getElem?.1 hy
   have hj' : j < zv.cells.size := by have := (zero_cells i6).1; simp at this; rw [this]; exact (List.getElem?_eq_some_iff.1 hj).1
   have hz2 := (zero_cells i6).2 j y zv.cells[j] hj (by simp [hj'])
   rw [(ofV_sound (w := w) (lab := lab) hz2).ids] at hk; cases hk⟩
  ·simp only [execOp, ho, h7, h8, hv1, hv2, Sem.run_bind, hr, Result.andThen_ok]
   rfl
  ·rw [size_madeCells, i2]; simp only [List.length_replicate]; exact Nat.mul_le_mul_right _ (by omega)
  ·intro i cc j y hi hj
   rw [List.getElem?_replicate] at hi
   split at hi <;> first | (cases hi; done) | cases hi
   rename_i hil
   have hj' : j < ei.size := by
    rcases Nat.lt_or_ge j z.length with h | h
    ·omega
    ·simp [List.getElem?_eq_none h] at hj
   have hlt : i * ei.size + j < c.toNat * ei.size := by
    have : (i + 1) * ei.size ≤ c.toNat * ei.size := Nat.mul_le_mul_right _ (by omega)
    rw [Nat.add_mul] at this; omega
   have hjz : j < zv.cells.size := by omega
   refine ⟨zv.cells[j], ?_, .imm _ _ (ofV_sound ((zero_cells i6).2 j y _ hj (by simp [hjz])))⟩
   simp [madeCells, i2, hlt, hzs', (div_row hj').2]
   rw [getElem!_pos zv.cells j hjz]
  ·rw [size_madeCells, i2]; exact Nat.le_refl _
  ·intro cc hc
   rw [List.mem_replicate] at hc
   rw [hc.2]; exact i7
 ·rename_i s d y ho
  split at h <;> first | (cases h; done) | skip
  rename_i l
  have hks := tkind_ok hT s
  have hkd := tkind_ok hT d
  split at h <;> first | (cases h; done) | skip
  rename_i e h1 h2
  rw [h1] at hks; rw [h2] at hkd
  have hke := tkind_ok hT e
  split at h <;> first | (cases h; done) | cases h
  rename_i h3
  rw [h3] at hke
  rw [ho] at hv
  obtain ⟨v, h4, h5⟩ := hv.one
  simp [Op.operands] at h4; subst h4
  have hv1 := h5.inv_str
  have hsz : (⟨l.toArray⟩ : ByteArray).size = l.length := by simp [ByteArray.size]
  let cap := Question.cut (.appendCap l.length 0 e) (w.tape w.drawn (.appendCap l.length 0 e))
  have hcap : l.length ≤ cap := by simp only [cap, Question.cut]; omega
  let c : Array Value := ((⟨l.toArray⟩ : ByteArray).data.map fun b => .int .u8 b.toNat) ++ Array.replicate (cap - l.length) (.int .u8 0)
  have hcs : c.size = cap := by simp [c]; omega
  refine ⟨⟨.slice (some ⟨w.heap.size, 0, none⟩) l.length cap, { w with drawn := w.drawn + 1, heap := w.heap.push (.cells c e (cap, cap + 1)) }, c, e, (cap, cap + 1), ?_, rfl, rfl, rfl, ?_, ?_, ?_, fun hb => V_sl_new hb hcap ?_⟩, ?_, by
   intro k hk
   simp only [Node.ids, List.mem_flatMap, encB, List.mem_map] at hk
   obtain ⟨_, ⟨b, _, rfl⟩, hk⟩ := hk
   simp [idsL, AV.ids] at hk⟩
  ·have hfz : (⟨w.heap.push (.cells c e), w.tape, w.drawn + 1, w.os, w.output⟩ : World).freeze ⟨w.heap.size, c.size, none⟩ 1 = ⟨w.heap.push (.cells c e (cap, cap + 1)), w.tape, w.drawn + 1, w.os, w.output⟩ := by
    simp only [World.freeze, Nat.one_ne_zero, if_false, World.mk.injEq, and_self, and_true]
    apply Array.ext
    ·simp
    ·intro k h1 h2
     rw [Array.getElem_modify]
     by_cases hk : w.heap.size = k
     ·subst hk; simp [hcs]
     ·rw [if_neg hk]
      have : k < w.heap.size := by simp at h1; omega
      rw [Array.getElem_push_lt this, Array.getElem_push_lt this]
   have hsh : (⟨w.heap.push (.cells c e), w.tape, w.drawn + 1, w.os, w.output⟩ : World).shape? w.heap.size = some (e, c.size) := by
    simp [World.shape?]
   have hrow : (newRow e c).run P ⟨w.heap, w.tape, w.drawn + 1, w.os, w.output⟩ = .ok ⟨w.heap.size, 0, none⟩ ⟨w.heap.push (.cells c e), w.tape, w.drawn + 1, w.os, w.output⟩ := rfl
   have hmk : (markStringish ⟨w.heap.size, 0, none⟩).run P ⟨w.heap.push (.cells c e), w.tape, w.drawn + 1, w.os, w.output⟩ = .ok () ⟨w.heap.push (.cells c e (cap, cap + 1)), w.tape, w.drawn + 1, w.os, w.output⟩ := by
    simp only [markStringish, Sem.run_bind, run_shape, hsh, Result.andThen_ok, run_freeze, hfz]
   have hst : (Conv.stringToBytes e ⟨l.toArray⟩).run P w = .ok (.slice (some ⟨w.heap.size, 0, none⟩) l.length cap) ⟨w.heap.push (.cells c e (cap, cap + 1)), w.tape, w.drawn + 1, w.os, w.output⟩ := by
    unfold Conv.stringToBytes
    simp only [Sem.run_bind, run_choose, hsz, Question.forced, Bool.false_eq_true, if_false, Result.andThen_ok]
    have hrow' := hrow
    simp only [c, cap] at hrow' hmk ⊢
    rw [hrow', Result.andThen_ok, hmk]
    rfl
   have hconv : (convert s d (.string ⟨l.toArray⟩)).run P w = (Conv.stringToBytes e ⟨l.toArray⟩).run P w := by
    simp [convert, run_underlying hks, run_underlying hkd, run_underlying hke]
   simp only [execOp, ho, hv1, Sem.run_bind, hconv, hst, Result.andThen_ok, Sem.run_pure]
  ·intro o ho; simp; omega
  ·rw [hcs]; simp [encB]; exact hcap
  ·intro i cc j y' hi hj
   simp only [encB, List.getElem?_map, Option.map_eq_some_iff] at hi
   obtain ⟨b, hb, rfl⟩ := hi
   cases j with
   | succ j => simp at hj
   | zero =>
    simp at hj; subst hj
    have hil : i < l.length := by rcases Nat.lt_or_ge i l.length with h | h; exact h; simp [List.getElem?_eq_none h] at hb
    have hbe : l[i] = b := by simpa [hil] using hb
    refine ⟨.int .u8 b.toNat, ?_, V.int _ _⟩
    simp [c, List.getElem?_append, hil, hbe]
  ·rw [hcs]; omega
  ·intro cc hc
   unfold encB at hc
   obtain ⟨_, _, rfl⟩ := List.mem_map.1 hc; rfl
 ·rename_i c ho
  split at h <;> first | (cases h; done) | skip
  rename_i t tx b y hc hat
  rw [ho] at hv
  obtain ⟨vb, vy, h1, h2, h3⟩ := hv.two
  have hargs : c.args.map ρ = #[vb, vy] := by
   simp [Op.operands, Call.operands, hc] at h1; apply Array.ext'; simpa using h1
  have hat' : c.argTypes = #[t, tx] := by apply Array.ext'; simpa using hat
  have key : ∀ base : Option Addr, vb = .slice base 0 0 → (match tkind ti t with
    | .slice e => match ti e with
     | some ei => match elemsA ti nodes tx ei.size y with
      | some (l, ok) => if ei.zero.isSome then some ((⟨ei.size, l⟩ : Node), AV.sl id ei.size 0 l.length, ok ∧ 0 < l.length ∧ l.length * ei.bytes ≤ 140737488355328 ∧ l.length ≤ 9223372036854775807) else none
      | none => zerosA ti tx id ei b y
     | none => none
    | _ => none) = some (nd, x, ok) → NewOk P w lab loc nodes [b, y] id nd x (execOp ρ o) := by
   intro base hvb h
   have hk := tkind_ok hT t
   split at h <;> first | (cases h; done) | skip
   rename_i e hk'
   rw [hk'] at hk
   split at h <;> first | (cases h; done) | skip
   rename_i ei hei
   split at h
   rotate_left
   ·unfold zerosA at h
    split at h <;> first | (cases h; done) | cases h
    rename_i kz n kx z hkx hz _
    obtain ⟨q1, q2, q3, q4⟩ := hok
    have hktx := tkind_ok hT tx
    rw [hkx] at hktx
    rw [h2.inv_nils] at hargs
    rw [h3.inv_int] at hargs
    obtain ⟨info, i1, i2, i3, i4⟩ := (hT e ei hei).info
    obtain ⟨zv, i5, i6, i7⟩ := i4 z hz
    obtain ⟨m, rfl⟩ : ∃ m : Nat, n = m := ⟨n.toNat, by omega⟩
    simp only [Int.toNat_natCast]
    have hr := Lib.run_append_nil_zeros (P := P) w t tx o.type e info zv kz kx hk hktx i1 i5 m (by omega) (by omega) q2 (by rw [i3]; omega)
    have hge := grownCap_ge w m 0 e
    have hzs' : zv.cells.size = ei.size := by have := (zero_cells i6).1; simp at this; omega
    have hcsz : (Builtin.zeroCells zv.cells m ++ Builtin.zeroCells zv.cells (grownCap w m 0 e - m)).size = grownCap w m 0 e * ei.size := by
     simp only [Array.size_append, size_zeroCells, hzs']
     rw [← Nat.add_mul]; congr 1; omega
    refine ⟨⟨.slice (some ⟨w.heap.size, 0, none⟩) m (grownCap w m 0 e), w.drew.alloc (.cells (Builtin.zeroCells zv.cells m ++ Builtin.zeroCells zv.cells (grownCap w m 0 e - m)) e), Builtin.zeroCells zv.cells m ++ Builtin.zeroCells zv.cells (grownCap w m 0 e - m), e, (0, 0), ?_, rfl, rfl, rfl, by simp, ?_, ?_, fun hb => ?_⟩, ?_, by
     intro k hk
     simp only [Node.ids, List.mem_flatMap, List.mem_replicate] at hk
     obtain ⟨_, ⟨_, rfl⟩, hk⟩ := hk
     obtain ⟨y, hy, hk⟩ := mem_idsL' hk
     obtain ⟨j, hj⟩ := List.mem_iff_getElem?.1 hy
     have hj' : j < zv.cells.size := by have := (zero_cells i6).1; simp at this; rw [this]; exact (List.getElem?_eq_some_iff.1 hj).1
     have hz2 := (zero_cells i6).2 j y zv.cells[j] hj (by simp [hj'])
     rw [(ofV_sound (w := w) (lab := lab) hz2).ids] at hk; cases hk⟩
    rotate_left
    ·rw [hcsz]; simp only [List.length_replicate]; exact Nat.mul_le_mul_right _ hge
    ·intro i cc j yy hi hj
     rw [List.getElem?_replicate] at hi
     split at hi <;> first | (cases hi; done) | cases hi
     rename_i hil
     have hj' : j < ei.size := by
      rcases Nat.lt_or_ge j z.length with h | h
      ·omega
      ·simp [List.getElem?_eq_none h] at hj
     have hlt : i * ei.size + j < m * ei.size := by
      have : (i + 1) * ei.size ≤ m * ei.size := Nat.mul_le_mul_right _ (by omega)
      rw [Nat.add_mul] at this; omega
     have hjz : j < zv.cells.size := by omega
     refine ⟨zv.cells[j], ?_, .imm _ _ (ofV_sound ((zero_cells i6).2 j yy _ hj (by simp [hjz])))⟩
     have hlt2 : i * ei.size + j < (Builtin.zeroCells zv.cells m).size := by rw [size_zeroCells, hzs']; exact hlt
     simp only [Array.toList_append]
     rw [List.getElem?_append_left (by simpa using hlt2)]
     simp [Builtin.zeroCells, hlt, hzs', (div_row hj').2]
     rw [getElem!_pos zv.cells j hjz]
    ·rw [hcsz] at hb
     exact V_sl_new hb hge (Nat.le_refl _)
    ·intro cc hc
     rw [List.mem_replicate] at hc
     rw [hc.2]; exact i7
    ·have hat2 : c.argTypes = #[t, tx] := hat'
     simp only [execOp, ho, resolve, hc, invoke, builtin, hargs, hat2, Sem.run_bind, hr, Result.andThen_ok, Sem.run_pure]
   rename_i l okl hel
   split at h <;> first | (cases h; done) | cases h
   rename_i hzs
   obtain ⟨hokl, h4, h5, h6⟩ := hok
   obtain ⟨news, hsrc, hrow, hes, hids⟩ := elemsA_sound hT hn hel hokl h3
   obtain ⟨z, hz⟩ := Option.isSome_iff_exists.1 hzs
   obtain ⟨info, i1, i2, i3, i4⟩ := (hT e ei hei).info
   obtain ⟨zv, i5, i6, i7⟩ := i4 z hz
   have hr := run_append_grow_src (P := P) w t tx o.type e info zv hk i1 i5 base 0 0 [] (by cases base <;> simp [Builtin.firstCells, loadCells, loadCellsFrom]) vy l.length news (by rw [i2]; exact hsrc) (by omega) (by omega)
    (by rw [Nat.zero_add, i3]; exact growslice_fits (by omega) h5)
   have hge := grownCap_ge w (0 + l.length) 0 e
   simp only [Nat.zero_add] at hr hge
   have hnl : news.length = l.length * ei.size := by rw [hsrc.newsLen]
   have hzs' : zv.cells.size = ei.size := by have := (zero_cells i6).1; simp at this; omega
   have hcsz : ((([] : List Value) ++ news).toArray ++ Builtin.zeroCells zv.cells (grownCap w l.length 0 e - l.length)).size = grownCap w l.length 0 e * ei.size := by
    simp only [List.nil_append, Array.size_append, List.size_toArray, size_zeroCells, hzs', hnl]
    rw [← Nat.add_mul]; congr 1; omega
   refine ⟨⟨.slice (some ⟨w.heap.size, 0, none⟩) l.length (grownCap w l.length 0 e), w.drew.alloc (.cells ((([] : List Value) ++ news).toArray ++ Builtin.zeroCells zv.cells (grownCap w l.length 0 e - l.length)) e), (([] : List Value) ++ news).toArray ++ Builtin.zeroCells zv.cells (grownCap w l.length 0 e - l.length), e, (0, 0), ?_, rfl, rfl, rfl, by simp, ?_, ?_, fun hb => ?_⟩, hes, by
    intro k hk
    simp only [Node.ids, List.mem_flatMap] at hk
    obtain ⟨c, hc, hk⟩ := hk
    obtain ⟨y, hy, hk⟩ := mem_idsL' hk
    exact Or.inr (hids c hc y hy k hk)⟩
   rotate_left
   ·rw [hcsz]; exact Nat.mul_le_mul_right _ hge
   ·intro i cc j yy hi hj
    obtain ⟨u, hu, hV⟩ := hrow i cc j yy hi hj
    refine ⟨u, ?_, hV⟩
    have hlt := (List.getElem?_eq_some_iff.1 hu).1
    simp only [List.nil_append, Array.toList_append]
    rw [List.getElem?_append_left hlt]; exact hu
   ·rw [hcsz] at hb
    exact V_sl_new hb hge (Nat.le_refl _)
   ·simp only [execOp, ho, resolve, hc, invoke, builtin, hargs, hat', hvb, Sem.run_bind, hr, Result.andThen_ok, Sem.run_pure]
  split at h
  ·exact key none h2.inv_nils h
  ·obtain ⟨a, ha⟩ := h2.inv_zsl
   exact key a ha h
  ·cases h
 ·cases h
end snd
end Go.AM
namespace Go.AM
theorem Blk_setCell {w : World} {a : Addr} {v : Value} {b n : Nat} (h : Blk w b n) : Blk (w.setCell a v) b n := by
 obtain ⟨c, ty, fz, h1, h2, h3⟩ := h
 by_cases hb : a.block = b
 ·have hs : (if a.spot.isSome then c else c.setIfInBounds a.off v).size = c.size := by split <;> simp
  refine ⟨if a.spot.isSome then c else c.setIfInBounds a.off v, ty, fz, ?_, by rw [hs]; exact h2, fun o ho => h3 o (by rw [← hs]; exact ho)⟩
  simp only [World.setCell, Array.getElem?_modify, hb, if_true, h1, Option.map_some]
 ·exact ⟨c, ty, fz, by simp only [World.setCell, Array.getElem?_modify, hb, if_false]; exact h1, h2, h3⟩
theorem Blk_setCells {b n : Nat} (b' : Nat) : ∀ (vs : List Value) (o : Nat) (w : World), Blk w b n → Blk (w.setCells b' o vs) b n
 | [], _, _, h => h
 | _ :: r, o, _, h => Blk_setCells b' r (o + 1) _ (Blk_setCell h)
theorem size_setCells (b : Nat) : ∀ (vs : List Value) (o : Nat) (w : World), (w.setCells b o vs).heap.size = w.heap.size
 | [], _, _ => rfl
 | v :: r, o, w => by rw [World.setCells, size_setCells b r]; simp [World.setCell]
theorem os_setCells (b : Nat) : ∀ (vs : List Value) (o : Nat) (w : World), (w.setCells b o vs).os = w.os ∧ (w.setCells b o vs).output = w.output
 | [], _, _ => ⟨rfl, rfl⟩
 | v :: r, o, w => by rw [World.setCells]; exact os_setCells b r _ _
theorem heap_setCell_ne {w : World} {a : Addr} {v : Value} {i : Nat} (h : i ≠ a.block) : (w.setCell a v).heap[i]? = w.heap[i]? := by
 simp only [World.setCell, Array.getElem?_modify]
 rw [if_neg (fun e => h e.symm)]
theorem heap_setCells_ne (b : Nat) : ∀ (vs : List Value) (o : Nat) (w : World) {i : Nat}, i ≠ b → (w.setCells b o vs).heap[i]? = w.heap[i]?
 | [], _, _, _, _ => rfl
 | v :: r, o, w, i, h => by rw [World.setCells, heap_setCells_ne b r _ _ h, heap_setCell_ne h]
theorem cell_of_blk {w : World} {b n o : Nat} (h : Blk w b n) (ho : o < n) : (w.cell? ⟨b, o, none⟩).isSome = true := by
 obtain ⟨c, ty, fz, h1, h2, h3⟩ := h
 simp only [World.cell?, h1, Option.isSome_none, Bool.false_eq_true, if_false]
 rw [Array.getElem?_eq_getElem (by omega)]; rfl
theorem step_cells {w0 : World} {lab0 : Labs} {st : St} {a : Act} {w : World} {lab : Labs} {loc : Locs} (h : RepL w0 lab0 st a w lab loc) (e : Eff) {dst : Option Nat} {y : AV} {u : Value}
  {id : Nat} {nd nd' : Node} {b base o : Nat} {vals : List Value} (hwr : e.wr = wrD dst y) (hup : e.up = [(id, some nd')]) (hd : ∀ d, dst = some d → d < st.n)
  (hnd : st.obj id = some nd) (hl : loc id = some (b, base)) (ho : ObjOk w lab loc id nd b base)
  (hes' : nd'.es = nd.es) (hlen : ∀ cc ∈ nd'.l, cc.length = nd'.es) (hsz : nd'.l.length = nd.l.length)
  (hin : ∀ k, k < vals.length → (w.cell? ⟨b, o + k, none⟩).isSome = true)
  (hy : V (w.setCells b o vals) lab loc y u)
  (hcells : ∀ (i : Nat) c (j : Nat) x, nd'.l[i]? = some c → c[j]? = some x →
   (∃ k, base + i * nd.es + j = o + k ∧ ∃ v, vals[k]? = some v ∧ V w lab loc x v) ∨
   ((base + i * nd.es + j < o ∨ o + vals.length ≤ base + i * nd.es + j) ∧ ∃ c', nd.l[i]? = some c' ∧ c'[j]? = some x)) :
  RepL w0 lab0 (e.apply st) (a.put dst u) (w.setCells b o vals) lab loc := by
 have hother : ∀ b', b' ≠ b → (w.setCells b o vals).heap[b']? = w.heap[b']? := fun b' hb => heap_setCells_ne b vals o w hb
 have hlabb : lab b = some (.obj id, []) := ho.hlab
 have himm : ∀ b', b' < w.heap.size → lab b' = none → lab b' = none ∧ (w.setCells b o vals).heap[b']? = w.heap[b']? := by
  intro b' _ hb; exact ⟨hb, hother b' (by rintro rfl; rw [hlabb] at hb; cases hb)⟩
 have hz : (w.setCells b o vals).heap.size = w.heap.size := size_setCells b vals o w
 have hblk : ∀ b' n, Blk w b' n → Blk (w.setCells b o vals) b' n := fun b' n hb => Blk_setCells b vals o w hb
 have hV : ∀ x v, V w lab loc x v → V (w.setCells b o vals) lab loc x v := fun x v hv => hv.mono himm (by rw [hz]; exact Nat.le_refl _) fun i _ b' base' hl' => ⟨hl', fun n hn => hblk b' n hn⟩
 have hT : ∀ i j x v, T w lab (.obj id, [(i, j)]) x v → T (w.setCells b o vals) lab (.obj id, [(i, j)]) x v := fun i j x v hx =>
  hx.move himm (fun b' q _ hq => ⟨hq, hother b' (by rintro rfl; rw [hlabb] at hq; simp [Lab.app] at hq)⟩) (by rw [hz]; exact Nat.le_refl _)
 refine h.step e (put_size _ _ _) (by rw [put_defers]; exact h.defers) ⟨by rw [hz]; exact Nat.le_refl _, (os_setCells b vals o w).1, (os_setCells b vals o w).2, fun b' _ hs => ⟨rfl, hother b' (by rintro rfl; rw [hlabb] at hs; exact hs)⟩, hblk⟩ ?_ ?_ ?_ ?_ ?_ ?_ ?_
 ·intro s hs
  rw [hwr] at hs
  exact put_other a u (look_wrD_none hs)
 ·intro s z hs
  rw [hwr] at hs
  obtain ⟨rfl, rfl⟩ := look_wrD_some hs
  rw [put_same a u (by rw [h.size]; exact hd s rfl)]
  exact hy
 ·intro i nd2 b2 base2 hi hu hl2
  rw [hup] at hu
  have hne : i ≠ id := by rintro rfl; simp [look] at hu
  refine ⟨hl2, fun b' q _ hq => ⟨rfl, hother b' ?_⟩⟩
  rintro rfl
  rw [hlabb] at hq
  simp only [Option.some.injEq, Prod.mk.injEq, Root.obj.injEq] at hq
  exact hne hq.1.symm
 ·intro i nd2 hu
  rw [hup] at hu
  simp only [look] at hu
  split at hu <;> first | (cases hu; done) | skip
  rename_i hi
  subst hi
  cases hu
  refine ⟨b, base, hl, hlabb, hblk _ _ (by rw [hsz, hes']; exact ho.blk), hlen, ?_⟩
  intro k c j x hk hj
  rw [hes']
  rcases hcells k c j x hk hj with ⟨m, hm, v, hv, hx⟩ | ⟨hm, c', hc', hx⟩
  ·refine ⟨v, ?_, Or.inl (hV x v hx)⟩
   have hml := (List.getElem?_eq_some_iff.1 hv).1
   rw [hm, World.cell?_setCells_in b vals o w hin m hml]
   rw [(List.getElem?_eq_some_iff.1 hv).2]
  ·obtain ⟨v, hv, hcv⟩ := ho.cells k c' j x hc' hx
   refine ⟨v, ?_, hcv.imp (hV x v) (hT k j x v)⟩
   rw [World.cell?_setCells_out b vals o w _ (fun _ _ => hm)]
   exact hv
 ·intro i hi
  rw [hup] at hi
  by_cases hne : i = id
  ·subst hne; simp [look] at hi
  ·simp [look, hne] at hi
   exact h.dead i hi
 ·intro b' hb'; rw [hz]; exact h.fresh b' hb'
 ·intro i _ b' base' hl'; exact hl'
def storeA (ti : TI) (nodes : Nat → Option Node) (t : Nat) (vs : List AV) : Option (Nat × Node × Prop) :=
 match vs with
 | [.ptr id es i j, x] => match nodes id, ti t with
  | some nd, some ty =>
   if nd.es = es ∧ isCells nodes x = true ∧ x.cellsA.all (okCell nodes) = true ∧ x.cellsA.length = ty.size then
    some (id, ⟨es, nd.l.set i ((nd.l.getD i []).take j ++ (x.cellsA ++ (nd.l.getD i []).drop (j + ty.size)))⟩, i < nd.l.length ∧ j + ty.size ≤ es)
   else none
  | _, _ => none
 | _ => none
section snd
variable {P : Program} {ti : TI} (hT : TOk P ti) {w0 : World} {lab0 : Labs} {st : St} {a : Act} {w : World} {lab : Labs} {loc : Locs}
include hT in
theorem storeA_sound (h : RepL w0 lab0 st a w lab loc) {o : Oper} {t : Nat} {x y : Operand} (ho : o.op = .store t x y) {vs : List AV} {id : Nat} {nd : Node} {ok : Prop}
  {nodes : Nat → Option Node} (hnod : ∀ i n, nodes i = some n → st.obj i = some n) (hs : storeA ti nodes t vs = some (id, nd, ok)) (hok : ok) (hv : OpsV w lab loc vs [a.eval x, a.eval y]) (e : Eff) (hwr : e.wr = wrD o.dst .undef) (hup : e.up = [(id, some nd)]) (hd : ∀ d, o.dst = some d → d < st.n) :
  ∃ w', (execOp a.eval o).run P w = .ok .skip w' ∧ RepL w0 lab0 (e.apply st) (a.put o.dst undef) w' lab loc := by
 unfold storeA at hs
 split at hs <;> first | (cases hs; done) | skip
 rename_i id' es i j z
 split at hs <;> first | (cases hs; done) | skip
 rename_i nd0 ty hnd' hty
 have hnd := hnod _ _ hnd'
 split at hs <;> first | (cases hs; done) | cases hs
 rename_i hc
 obtain ⟨h1, h2, h3, h4⟩ := hc
 obtain ⟨h5, h6⟩ := hok
 obtain ⟨b, base, hl, hob⟩ := h.objs id nd0 hnd
 obtain ⟨u, v, huv, hu, hv'⟩ := hv.two
 simp at huv
 obtain ⟨rfl, rfl⟩ := huv
 have hp := hu.inv_ptr hl
 have hn : ∀ i n, nodes i = some n → ∃ b base, loc i = some (b, base) ∧ ObjOk w lab loc i n b base := fun i n hi => h.objs i n (hnod i n hi)
 obtain ⟨h7, h8⟩ := isCells_sound hn h2 hv'
 have hci : nd0.l[i]? = some (nd0.l.getD i []) := getD_lt h5
 have hcl : (nd0.l.getD i []).length = es := by rw [← h1]; exact hob.es _ (List.mem_of_getElem? hci)
 have hsz : (a.eval y).cells.size = ty.size := by rw [← h7, h4]
 have hsize := t_sizeOf hT hty w
 have hle : i * es + es ≤ nd0.l.length * es := by
  have : (i + 1) * es ≤ nd0.l.length * es := Nat.mul_le_mul_right _ h5
  rw [Nat.add_mul] at this; omega
 have hblk := hob.blk
 rw [h1] at hblk
 have hin : ∀ k, k < (a.eval y).cells.toList.length → (w.cell? ⟨b, base + i * es + j + k, none⟩).isSome = true := by
  intro k hk; exact cell_of_blk hblk (by simp at hk; omega)
 have hfr : ∀ k, k < (a.eval y).cells.toList.length → w.frozen? ⟨b, base + i * es + j + k, none⟩ = false := by
  intro k hk; exact frozen_of_blk hblk (by simp at hk; omega)
 have hone : ∀ v ∈ (a.eval y).cells.toList, v.oneCell' = true := by
  intro v hv
  obtain ⟨k, hk⟩ := List.mem_iff_getElem?.1 hv
  have hk' : k < z.cellsA.length := by
   have := (List.getElem?_eq_some_iff.1 hk).1
   simp at this; omega
  have hz : z.cellsA[k]? = some z.cellsA[k] := List.getElem?_eq_getElem hk'
  rw [List.all_eq_true] at h3
  exact okCell_one hn (h3 _ (List.mem_of_getElem? hz)) (h8 k _ v hz (by simpa using hk))
 have hst := run_storeCells_cells (P := P) b (base + i * es + j) (a.eval y).cells.toList 0 w (by simpa using hin) (by simpa using hfr) hone
 simp only [Nat.add_zero] at hst
 refine ⟨w.setCells b (base + i * es + j) (a.eval y).cells.toList, ?_, ?_⟩
 ·simp only [execOp, ho, Instr.storeAt, hp, Instr.sureAddr, storeVar, Sem.run_bind, Sem.run_pure, Result.andThen_ok, hsize, hsz, ne_eq, not_true, if_false, hst]
 ·refine step_cells h e (nd := nd0) (base := base) hwr hup hd hnd hl hob h1.symm ?_ (by simp) hin (.undef _) ?_
  ·intro cc hc
   rcases List.mem_or_eq_of_mem_set hc with hc | rfl
   ·have := hob.es cc hc; simp only; omega
   ·simp [h4]; rw [← List.getD_eq_getElem?_getD]; omega
  ·intro k c m x hk hm
   simp only at hk
   rw [List.getElem?_set] at hk
   by_cases hki : i = k
   ·subst hki
    rw [if_pos rfl, if_pos h5] at hk
    cases hk
    rw [List.getElem?_append] at hm
    have htk : ((nd0.l.getD i []).take j).length = j := by simp; rw [← List.getD_eq_getElem?_getD]; omega
    rw [htk] at hm
    by_cases hmj : m < j
    ·rw [if_pos hmj, List.getElem?_take, if_pos hmj] at hm
     exact Or.inr ⟨Or.inl (by rw [h1]; omega), _, hci, hm⟩
    ·rw [if_neg hmj, List.getElem?_append, h4] at hm
     by_cases hm2 : m - j < ty.size
     ·rw [if_pos hm2] at hm
      have hlt : m - j < (a.eval y).cells.size := by omega
      refine Or.inl ⟨m - j, by rw [h1]; omega, (a.eval y).cells[m - j], by simp [hlt], ?_⟩
      exact h8 (m - j) x _ hm (by simp [hlt])
     ·rw [if_neg hm2, List.getElem?_drop, show j + ty.size + (m - j - ty.size) = m by omega] at hm
      exact Or.inr ⟨Or.inr (by rw [h1]; simp; omega), _, hci, hm⟩
   ·rw [if_neg hki] at hk
    refine Or.inr ⟨?_, c, hk, hm⟩
    have hmc : m < es := by
     have := hob.es c (List.mem_of_getElem? hk)
     rcases Nat.lt_or_ge m c.length with h | h
     ·omega
     ·simp [List.getElem?_eq_none h] at hm
    rw [h1]
    rcases Nat.lt_or_gt_of_ne hki with hlt | hgt
    ·right
     have : (i + 1) * es ≤ k * es := Nat.mul_le_mul_right _ hlt
     rw [Nat.add_mul] at this
     simp; omega
    ·left
     have : (k + 1) * es ≤ i * es := Nat.mul_le_mul_right _ hgt
     rw [Nat.add_mul] at this
     omega
end snd
end Go.AM
namespace Go.AM
def labR (lab : Labs) (id id' : Nat) : Labs := fun b => match lab b with
 | some (.obj k, p) => if k = id then some (.obj id', p) else some (.obj k, p)
 | o => o
def labG (lab : Labs) (id id' nb : Nat) : Labs := fun b => if b = nb then some (.obj id', []) else match lab b with
 | some (.obj k, p) => if k = id then (if p = [] then none else some (.obj id', p)) else some (.obj k, p)
 | o => o
def locR (loc : Locs) (id id' b base : Nat) : Locs := fun i => if i = id' then some (b, base) else if i = id then none else loc i
theorem labR_none {lab : Labs} {id id' b : Nat} (h : lab b = none) : labR lab id id' b = none := by simp [labR, h]
theorem labR_same {lab : Labs} {id id' b : Nat} {p : List (Nat × Nat)} (h : lab b = some (.obj id, p)) : labR lab id id' b = some (.obj id', p) := by simp [labR, h]
theorem labR_other {lab : Labs} {id id' b k : Nat} {p : List (Nat × Nat)} (h : lab b = some (.obj k, p)) (hk : k ≠ id) : labR lab id id' b = lab b := by simp [labR, h, hk]
theorem labR_still {lab : Labs} {id id' b : Nat} (h : still (lab b)) : labR lab id id' b = lab b := by
 unfold labR; split
 ·rename_i k p e; rw [e] at h; exact h.elim
 ·rfl
theorem labG_still {lab : Labs} {id id' nb b : Nat} (h : still (lab b)) (hb : b ≠ nb) : labG lab id id' nb b = lab b := by
 unfold labG; rw [if_neg hb]; split
 ·rename_i k p e; rw [e] at h; exact h.elim
 ·rfl
theorem labR_ne {lab : Labs} {id id' b : Nat} (h : labR lab id id' b ≠ none) : lab b ≠ none := by intro e; exact h (labR_none e)
theorem labG_none {lab : Labs} {id id' nb b : Nat} (h : lab b = none) (hb : b ≠ nb) : labG lab id id' nb b = none := by simp [labG, h, hb]
theorem labG_same {lab : Labs} {id id' nb b : Nat} {p : List (Nat × Nat)} (h : lab b = some (.obj id, p)) (hp : p ≠ []) (hb : b ≠ nb) : labG lab id id' nb b = some (.obj id', p) := by simp [labG, h, hp, hb]
theorem labG_other {lab : Labs} {id id' nb b k : Nat} {p : List (Nat × Nat)} (h : lab b = some (.obj k, p)) (hk : k ≠ id) (hb : b ≠ nb) : labG lab id id' nb b = lab b := by simp [labG, h, hk, hb]
def appA (ti : TI) (nodes : Nat → Option Node) (id' : Nat) (op : Op) (vs : List AV) : Option (Nat × Node × AV × Prop) :=
 match op with
 | .call c => match c.callee, c.argTypes.toList, vs with
  | .builtin .append, [t, tx], [.sl id es 0 len, x] => match nodes id, tkind ti t with
   | some nd, .slice e => match ti e with
    | some ei => if ei.size = es ∧ nd.es = es ∧ ei.zero.isSome = true then
      match elemsA ti nodes tx es x with
      | some (l, ok) => some (id, ⟨es, nd.l.take len ++ l⟩, .sl id' es 0 (len + l.length), ok ∧ len ≤ nd.l.length ∧ (len + l.length) * ei.bytes ≤ 140737488355328 ∧ len + l.length ≤ 9223372036854775807)
      | none => none
     else none
    | none => none
   | _, _ => none
  | _, _, _ => none
 | _ => none
section snd
variable {P : Program} {ti : TI} (hT : TOk P ti) {w0 : World} {lab0 : Labs} {st : St} {a : Act} {w : World} {lab : Labs} {loc : Locs}
theorem row_append {l1 l2 : List (List AV)} {i : Nat} {c : List AV} (hi : (l1 ++ l2)[i]? = some c) :
  (i < l1.length ∧ l1[i]? = some c) ∨ (l1.length ≤ i ∧ l2[i - l1.length]? = some c) := by
 rw [List.getElem?_append] at hi
 split at hi
 ·rename_i h; exact Or.inl ⟨h, hi⟩
 ·exact Or.inr ⟨by omega, hi⟩
include hT in
theorem appA_sound (h : RepL w0 lab0 st a w lab loc) {o : Oper} {vs : List AV} {id id' : Nat} {nd' : Node} {x : AV} {ok : Prop}
  {nodes : Nat → Option Node} (hnod : ∀ i n, nodes i = some n → st.obj i = some n) (hs : appA ti nodes id' o.op vs = some (id, nd', x, ok)) (hok : ok) (hv : OpsV w lab loc vs (o.op.operands.toList.map a.eval)) (e : Eff)
  (hwr : e.wr = wrD o.dst x) (hup : e.up = [(id', some nd'), (id, none)]) (hd : ∀ d, o.dst = some d → d < st.n) (hni : id' ∉ st.ids) (hid' : st.obj id' = none) :
  ∃ v w', (execOp a.eval o).run P w = .ok (.value v) w' ∧ Rep w0 lab0 (e.apply st) (a.put o.dst v) w' := by
 unfold appA at hs
 split at hs <;> first | (cases hs; done) | skip
 rename_i c ho
 split at hs <;> first | (cases hs; done) | skip
 rename_i t tx id0 es len y hc hat
 split at hs <;> first | (cases hs; done) | skip
 rename_i nd ty hnd' hk'
 have hnd := hnod _ _ hnd'
 have hk := tkind_ok hT t
 rw [hk'] at hk
 split at hs <;> first | (cases hs; done) | skip
 rename_i ei hei
 split at hs <;> first | (cases hs; done) | skip
 rename_i hcond
 obtain ⟨hes, hes2, hzs⟩ := hcond
 split at hs <;> first | (cases hs; done) | cases hs
 rename_i l okl hel
 obtain ⟨hokl, hlen, hbytes, h63⟩ := hok
 subst hes
 have hn : ∀ i n, nodes i = some n → ∃ b base, loc i = some (b, base) ∧ ObjOk w lab loc i n b base := fun i n hi => h.objs i n (hnod i n hi)
 rw [ho] at hv
 obtain ⟨vb, vy, hvv, hvb, hvy⟩ := hv.two
 have hargs : c.args.map a.eval = #[vb, vy] := by
  simp [Op.operands, Call.operands, hc] at hvv; apply Array.ext'; simpa using hvv
 have hat' : c.argTypes = #[t, tx] := by apply Array.ext'; simpa using hat
 obtain ⟨b, base, hl, hob⟩ := h.objs id nd hnd
 obtain ⟨ad, cap, rfl, hlc, hadr, hbk⟩ := hvb.inv_sl hl
 obtain ⟨news, hsrc, hrow, hesl, hids⟩ := elemsA_sound hT hn hel hokl hvy
 obtain ⟨z, hz⟩ := Option.isSome_iff_exists.1 hzs
 obtain ⟨info, i1, i2, i3, i4⟩ := (hT ty ei hei).info
 obtain ⟨zv, i5, i6, i7⟩ := i4 z hz
 have hnl : news.length = l.length * ei.size := by rw [hsrc.newsLen]
 have hzs' : zv.cells.size = ei.size := by have := (zero_cells i6).1; simp at this; omega
 have htl : (nd.l.take len).length = len := by simp; omega
 have hidne : id' ≠ id := by rintro rfl; rw [hnd] at hid'; cases hid'
 have hlocid' : loc id' = none := h.dead id' hid'
 have hlens : ∀ cc ∈ nd.l.take len ++ l, cc.length = ei.size := by
  intro cc hcc
  rcases List.mem_append.1 hcc with hcc | hcc
  ·rw [← hes2]; exact hob.es cc (List.mem_of_mem_take hcc)
  ·exact hesl cc hcc
 have hidnd : ∀ k ∈ nd.ids, k ≠ id' := by rintro k hk rfl; exact hni (ids_of_obj hnd hk)
 have hidl : ∀ c ∈ l, ∀ y ∈ c, ∀ k ∈ y.ids, k ≠ id' := by
  rintro c hc y hy k hk rfl
  obtain ⟨i, n, h1, h2⟩ := hids c hc y hy k hk
  exact hni (ids_of_obj (hnod _ _ h1) h2)
 have hlabb : lab b = some (.obj id, []) := hob.hlab
 have hobj : ∀ k p b', lab b' = some (.obj k, p) → b' < w.heap.size := fun k p b' hb => h.fresh b' (by rw [hb]; simp)
 by_cases hroom : len + l.length ≤ cap
 ·-- there is room
  have hbk' : Blk w b (base + cap * ei.size) := by simpa using hbk
  have hin : ∀ k, k < news.length → (w.cell? ⟨b, base + len * ei.size + k, none⟩).isSome = true := by
   intro k hk
   refine cell_of_blk hbk' ?_
   have : (len + l.length) * ei.size ≤ cap * ei.size := Nat.mul_le_mul_right _ hroom
   rw [Nat.add_mul] at this; omega
  have hfr : ∀ k, k < news.length → w.frozen? ⟨b, base + len * ei.size + k, none⟩ = false := by
   intro k hk
   refine frozen_of_blk hbk' ?_
   have : (len + l.length) * ei.size ≤ cap * ei.size := Nat.mul_le_mul_right _ hroom
   rw [Nat.add_mul] at this; omega
  have hr : (Builtin.append_ #[t, tx] o.type #[.slice (some ad) len cap, vy]).run P w = .ok (.slice (some ad) (len + l.length) cap) (w.setCells b (base + len * ei.size) news) := by
   rcases hadr with h0 | h0
   ·have hl1 : l.length = 0 := by omega
    have hnn : news = [] := List.eq_nil_of_length_eq_zero (by rw [hnl, hl1, Nat.zero_mul])
    subst hnn
    have hlen0 : len = 0 := by omega
    have hcs := hsrc.cells
    have hls := hsrc.len
    rw [hl1] at hcs hls
    rcases hsrc.kind with ⟨e', hkx⟩ | hkx <;> simp [Builtin.append_, run_underlying hk, run_underlying hkx, sizeOf, typeInfo, i1, i2, hls, hcs, h0, hlen0, hl1, storeCells, World.setCells]
   ·have had : ad = ⟨b, base, none⟩ := by simpa using h0
    subst had
    have hr := run_append_room_src (P := P) w t tx o.type ty info hk i1 b base len cap vy l.length news (by rw [i2]; exact hsrc) hroom (by rw [i2]; exact hin) (by rw [i2]; exact hfr)
    rw [i2] at hr
    exact hr
  refine ⟨.slice (some ad) (len + l.length) cap, w.setCells b (base + len * ei.size) news, ?_, labR lab id id', locR loc id id' b base, ?_⟩
  ·simp only [execOp, ho, resolve, hc, invoke, builtin, hargs, hat', Sem.run_bind, hr, Result.andThen_ok, Sem.run_pure]
  ·have hother : ∀ b', b' ≠ b → (w.setCells b (base + len * ei.size) news).heap[b']? = w.heap[b']? := fun b' hb => heap_setCells_ne b _ _ w hb
   have hz : (w.setCells b (base + len * ei.size) news).heap.size = w.heap.size := size_setCells b _ _ w
   have himm : ∀ b', b' < w.heap.size → lab b' = none → labR lab id id' b' = none ∧ (w.setCells b (base + len * ei.size) news).heap[b']? = w.heap[b']? := by
    intro b' _ hb; exact ⟨labR_none hb, hother b' (by rintro rfl; rw [hlabb] at hb; cases hb)⟩
   have hblk : ∀ b' n, Blk w b' n → Blk (w.setCells b (base + len * ei.size) news) b' n := fun b' n hb => Blk_setCells b _ _ w hb
   have hloc : ∀ i b' base', i ≠ id' → locR loc id id' b base i = some (b', base') → loc i = some (b', base') := by
    intro i b' base' hi hh
    simp only [locR, if_neg hi] at hh
    split at hh
    ·cases hh
    ·exact hh
   have hV : ∀ y v, (∀ k ∈ y.ids, k ≠ id') → V w lab loc y v → V (w.setCells b (base + len * ei.size) news) (labR lab id id') (locR loc id id' b base) y v := fun y v hy hv =>
    hv.mono himm (by rw [hz]; exact Nat.le_refl _) fun i hi b' base' hl' => ⟨hloc i b' base' (hy i hi) hl', fun n hn => hblk b' n hn⟩
   refine h.step e (put_size _ _ _) (by rw [put_defers]; exact h.defers) ⟨by rw [hz]; exact Nat.le_refl _, (os_setCells b _ _ w).1, (os_setCells b _ _ w).2, fun b' _ hs => ⟨labR_still hs, hother b' (by rintro rfl; rw [hlabb] at hs; exact hs)⟩, hblk⟩ ?_ ?_ ?_ ?_ ?_ ?_ ?_
   ·intro s hs
    rw [hwr] at hs
    exact put_other a _ (look_wrD_none hs)
   ·intro s zz hs
    rw [hwr] at hs
    obtain ⟨hds, rfl⟩ := look_wrD_some hs
    rw [hds, put_same a _ (by rw [h.size]; exact hd s hds)]
    refine .sl _ _ _ _ _ fun b' base' hl' => ?_
    simp [locR] at hl'
    obtain ⟨rfl, rfl⟩ := hl'
    exact ⟨_, cap, rfl, hroom, hadr, by simpa using hblk _ _ hbk'⟩
   ·intro i nd2 b2 base2 hi hu hl2
    rw [hup] at hu
    have hne' : i ≠ id' := by rintro rfl; simp [look] at hu
    have hne : i ≠ id := by rintro rfl; simp [look, hne'] at hu
    refine ⟨by simp only [locR, if_neg hne', if_neg hne]; exact hl2, fun b' q _ hq => ⟨labR_other hq hne, hother b' ?_⟩⟩
    rintro rfl
    rw [hlabb] at hq
    simp only [Option.some.injEq, Prod.mk.injEq, Root.obj.injEq] at hq
    exact hne hq.1.symm
   ·intro i nd2 hu
    rw [hup] at hu
    simp only [look] at hu
    split at hu
    ·rename_i hi
     subst hi
     cases hu
     refine ⟨b, base, by simp [locR], labR_same hlabb, ?_, hlens, ?_⟩
     ·refine (hblk _ _ hbk').le ?_
      simp only [List.length_append, htl]
      have : (len + l.length) * ei.size ≤ cap * ei.size := Nat.mul_le_mul_right _ hroom
      omega
     ·intro k cc j y hk hj
      simp only at hk ⊢
      have hjl : j < ei.size := by
       have := hlens cc (List.mem_of_getElem? hk)
       rcases Nat.lt_or_ge j cc.length with h | h
       ·omega
       ·simp [List.getElem?_eq_none h] at hj
      rcases row_append hk with ⟨h1, h2⟩ | ⟨h1, h2⟩
      ·rw [htl] at h1
       rw [List.getElem?_take, if_pos h1] at h2
       obtain ⟨v, hv, hcv⟩ := hob.cells k cc j y h2 hj
       rw [hes2] at hv
       refine ⟨v, ?_, ?_⟩
       ·rw [World.cell?_setCells_out b news _ w _ (fun _ _ => Or.inl (by
         have : (k + 1) * ei.size ≤ len * ei.size := Nat.mul_le_mul_right _ h1
         rw [Nat.add_mul] at this; simp; omega))]
        exact hv
       ·rcases hcv with hcv | hcv
        ·exact Or.inl (hV y v (fun kk hkk => hidnd kk (ids_of_cell h2 hj hkk)) hcv)
        ·refine Or.inr (hcv.move himm (fun b' q _ hq => ?_) (by rw [hz]; exact Nat.le_refl _))
         refine ⟨?_, hother b' (by rintro rfl; rw [hlabb] at hq; simp [Lab.app] at hq)⟩
         exact labR_same hq
      ·rw [htl] at h1 h2
       obtain ⟨u, hu, huv⟩ := hrow (k - len) cc j y h2 hj
       refine ⟨u, ?_, Or.inl (hV y u (fun kk hkk => hidl cc (List.mem_of_getElem? h2) y (List.mem_of_getElem? hj) kk hkk) huv)⟩
       have hul := (List.getElem?_eq_some_iff.1 hu).1
       have := World.cell?_setCells_in b news (base + len * ei.size) w hin _ hul
       rw [(List.getElem?_eq_some_iff.1 hu).2] at this
       rw [← this]
       congr 2
       have : k * ei.size = len * ei.size + (k - len) * ei.size := by rw [← Nat.add_mul]; congr 1; omega
       omega
    ·split at hu
     ·cases hu
     ·cases hu
   ·intro i hi
    rw [hup] at hi
    simp only [look] at hi
    by_cases hne' : i = id'
    ·subst hne'; simp at hi
    ·simp only [locR, if_neg hne']
     by_cases hne : i = id
     ·rw [if_pos hne]
     ·rw [if_neg hne]
      simp [hne', hne] at hi
      exact h.dead i hi
   ·intro b' hb'; rw [hz]; exact h.fresh b' (labR_ne hb')
   ·intro i hi b' base' hl'
    exact hloc i b' base' (by rintro rfl; exact hni hi) hl'
 ·-- a new row
  have holdc : ∀ k, k < len * ei.size → ∃ c y, nd.l[k / ei.size]? = some c ∧ c[k % ei.size]? = some y ∧ (k / ei.size) * ei.size + k % ei.size = k := by
   intro k hk
   obtain ⟨h1, h2, h3⟩ := row_lt hk
   have hc : nd.l[k / ei.size]? = some nd.l[k / ei.size] := List.getElem?_eq_getElem (by omega)
   have hcl := hob.es _ (List.mem_of_getElem? hc)
   exact ⟨_, _, hc, List.getElem?_eq_getElem (by rw [hcl, hes2]; exact h2), h3⟩
  let olds : List Value := (List.range (len * ei.size)).map fun k => (w.cell? ⟨b, base + k, none⟩).getD undef
  have hold1 : ∀ k, k < len * ei.size → w.cell? ⟨b, base + k, none⟩ = some ((w.cell? ⟨b, base + k, none⟩).getD undef) := by
   intro k hk
   obtain ⟨c, y, h1, h2, h3⟩ := holdc k hk
   obtain ⟨v, hv, _⟩ := hob.cells _ c _ y h1 h2
   rw [hes2, Nat.add_assoc, h3] at hv
   rw [hv]; rfl
  have hcapl : len ≤ cap := hlc
  have hold : (Builtin.firstCells info.size len (.slice (some ad) len cap)).run P w.drew = .ok olds.toArray w.drew := by
   rw [i2]
   refine run_firstCells_some w.drew ei.size len ad len cap olds (by simp [olds]) ?_
   intro k v hv
   have hk : k < len * ei.size := by
    have := (List.getElem?_eq_some_iff.1 hv).1
    simpa [olds] using this
   have hv' : (w.cell? ⟨b, base + k, none⟩).getD undef = v := by simpa [olds, hk] using hv
   have had : ad = ⟨b, base, none⟩ := by
    rcases hadr with h | h
    ·have : len = 0 := by omega
     rw [this, Nat.zero_mul] at hk; omega
    ·simpa using h
   subst had
   rw [addr_add, ← hv']
   have := hold1 k hk
   simpa using this
  have hr := run_append_grow_src (P := P) w t tx o.type ty info zv hk i1 i5 (some ad) len cap olds hold vy l.length news (by rw [i2]; exact hsrc) (by omega) (by omega)
   (by rw [i3]; exact growslice_fits (by omega) hbytes)
  have hge := grownCap_ge w (len + l.length) cap ty
  let G := grownCap w (len + l.length) cap ty
  let row : Array Value := (olds ++ news).toArray ++ Builtin.zeroCells zv.cells (G - (len + l.length))
  have hrs : row.size = G * ei.size := by
   simp only [row, Array.size_append, List.size_toArray, List.length_append, size_zeroCells, hzs', hnl, olds, List.length_map, List.length_range]
   rw [← Nat.add_mul, ← Nat.add_mul]; congr 1; have : len + l.length ≤ G := hge; omega
  let w' : World := w.drew.alloc (.cells row ty)
  have hheap : w'.heap = w.heap.push (.cells row ty) := rfl
  have hother : ∀ b', b' < w.heap.size → w'.heap[b']? = w.heap[b']? := by
   intro b' hb; rw [hheap, Array.getElem?_push, if_neg (by omega)]
  have hnew : w'.heap[w.heap.size]? = some (.cells row ty) := by rw [hheap]; simp
  have hz : w.heap.size ≤ w'.heap.size := by rw [hheap]; simp
  have hblkn : Blk w' w.heap.size row.size := ⟨row, ty, (0, 0), hnew, Nat.le_refl _, by simp⟩
  have himm : ∀ b', b' < w.heap.size → lab b' = none → labG lab id id' w.heap.size b' = none ∧ w'.heap[b']? = w.heap[b']? := by
   intro b' hb' hb; exact ⟨labG_none hb (by omega), hother b' hb'⟩
  have hloc : ∀ i b' base', i ≠ id' → locR loc id id' w.heap.size 0 i = some (b', base') → loc i = some (b', base') := by
   intro i b' base' hi hh
   simp only [locR, if_neg hi] at hh
   split at hh
   ·cases hh
   ·exact hh
  have hV : ∀ y v, (∀ k ∈ y.ids, k ≠ id') → V w lab loc y v → V w' (labG lab id id' w.heap.size) (locR loc id id' w.heap.size 0) y v := fun y v hy hv =>
   hv.mono himm hz fun i hi b' base' hl' => ⟨hloc i b' base' (hy i hi) hl', fun n hn => hn.same (hother b' hn.lt)⟩
  refine ⟨.slice (some ⟨w.heap.size, 0, none⟩) (len + l.length) G, w', ?_, labG lab id id' w.heap.size, locR loc id id' w.heap.size 0, ?_⟩
  ·simp only [execOp, ho, resolve, hc, invoke, builtin, hargs, hat', Sem.run_bind, hr, Result.andThen_ok, Sem.run_pure]
   rfl
  ·refine h.step e (put_size _ _ _) (by rw [put_defers]; exact h.defers) ⟨hz, rfl, rfl, fun b' hb' hs => ⟨labG_still hs (by omega), hother b' hb'⟩, fun b' n hn => hn.same (hother b' hn.lt)⟩ ?_ ?_ ?_ ?_ ?_ ?_ ?_
   ·intro s hs
    rw [hwr] at hs
    exact put_other a _ (look_wrD_none hs)
   ·intro s zz hs
    rw [hwr] at hs
    obtain ⟨hds, rfl⟩ := look_wrD_some hs
    rw [hds, put_same a _ (by rw [h.size]; exact hd s hds)]
    refine .sl _ _ _ _ _ fun b' base' hl' => ?_
    simp [locR] at hl'
    obtain ⟨rfl, rfl⟩ := hl'
    exact ⟨_, G, rfl, hge, Or.inr (by simp), hblkn.le (by rw [hrs]; simp)⟩
   ·intro i nd2 b2 base2 hi hu hl2
    rw [hup] at hu
    have hne' : i ≠ id' := by rintro rfl; simp [look] at hu
    have hne : i ≠ id := by rintro rfl; simp [look, hne'] at hu
    refine ⟨by simp only [locR, if_neg hne', if_neg hne]; exact hl2, fun b' q hb' hq => ⟨labG_other hq hne (by omega), hother b' hb'⟩⟩
   ·intro i nd2 hu
    rw [hup] at hu
    simp only [look] at hu
    split at hu
    ·rename_i hi
     subst hi
     cases hu
     refine ⟨w.heap.size, 0, by simp [locR], by simp [labG], ?_, hlens, ?_⟩
     ·refine hblkn.le ?_
      rw [hrs]
      simp only [List.length_append, htl, Nat.zero_add]
      exact Nat.mul_le_mul_right _ hge
     ·intro k cc j y hk hj
      simp only at hk ⊢
      have hjl : j < ei.size := by
       have := hlens cc (List.mem_of_getElem? hk)
       rcases Nat.lt_or_ge j cc.length with h | h
       ·omega
       ·simp [List.getElem?_eq_none h] at hj
      have hcell : ∀ m, w'.cell? ⟨w.heap.size, m, none⟩ = row[m]? := by
       intro m; simp [World.cell?, hnew]
      rw [Nat.zero_add, hcell]
      rcases row_append hk with ⟨h1, h2⟩ | ⟨h1, h2⟩
      ·rw [htl] at h1
       rw [List.getElem?_take, if_pos h1] at h2
       obtain ⟨v, hv, hcv⟩ := hob.cells k cc j y h2 hj
       rw [hes2] at hv
       have hlt : k * ei.size + j < len * ei.size := by
        have : (k + 1) * ei.size ≤ len * ei.size := Nat.mul_le_mul_right _ h1
        rw [Nat.add_mul] at this; omega
       refine ⟨v, ?_, ?_⟩
       ·have e1 : (olds ++ news)[k * ei.size + j]? = some v := by
         rw [List.getElem?_append_left (by simp [olds]; exact hlt)]
         simp only [olds, List.getElem?_map, List.getElem?_range hlt, Option.map_some]
         rw [← Nat.add_assoc, hv]; rfl
        have e2 := (List.getElem?_eq_some_iff.1 e1).1
        simp only [row]
        rw [Array.getElem?_append_left (by simpa using e2)]
        simpa using e1
       ·rcases hcv with hcv | hcv
        ·exact Or.inl (hV y v (fun kk hkk => hidnd kk (ids_of_cell h2 hj hkk)) hcv)
        ·refine Or.inr (hcv.move himm (fun b' q hb' hq => ⟨?_, hother b' hb'⟩) hz)
         exact labG_same hq (by simp) (by omega)
      ·rw [htl] at h1 h2
       obtain ⟨u, hu, huv⟩ := hrow (k - len) cc j y h2 hj
       refine ⟨u, ?_, Or.inl (hV y u (fun kk hkk => hidl cc (List.mem_of_getElem? h2) y (List.mem_of_getElem? hj) kk hkk) huv)⟩
       have e0 : k * ei.size + j = len * ei.size + ((k - len) * ei.size + j) := by
        have : k * ei.size = len * ei.size + (k - len) * ei.size := by rw [← Nat.add_mul]; congr 1; omega
        omega
       have e1 : (olds ++ news)[k * ei.size + j]? = some u := by
        rw [e0, List.getElem?_append_right (by simp [olds])]
        simpa [olds] using hu
       have e2 := (List.getElem?_eq_some_iff.1 e1).1
       simp only [row]
       rw [Array.getElem?_append_left (by simpa using e2)]
       simpa using e1
    ·split at hu
     ·cases hu
     ·cases hu
   ·intro i hi
    rw [hup] at hi
    simp only [look] at hi
    by_cases hne' : i = id'
    ·subst hne'; simp at hi
    ·simp only [locR, if_neg hne']
     by_cases hne : i = id
     ·rw [if_pos hne]
     ·rw [if_neg hne]
      simp [hne', hne] at hi
      exact h.dead i hi
   ·intro b' hb'
    rw [hheap]; simp
    by_cases hb2 : b' = w.heap.size
    ·omega
    ·have : lab b' ≠ none := by intro e; exact hb' (labG_none e hb2)
     have := h.fresh b' this; omega
   ·intro i hi b' base' hl'
    exact hloc i b' base' (by rintro rfl; exact hni hi) hl'
end snd
end Go.AM
namespace Go.AM
def clearA (ti : TI) (nodes : Nat → Option Node) (op : Op) (vs : List AV) : Option (Nat × Node × Prop) :=
 match op with
 | .call c => match c.callee, c.argTypes.toList, vs with
  | .builtin .clear, [t], [.sl id es i len] => match nodes id, tkind ti t with
   | some nd, .slice e => match ti e with
    | some ei => if ei.size = es ∧ nd.es = es ∧ ei.zero.isSome = true then
      some (id, ⟨es, nd.l.take i ++ (List.replicate len (List.replicate es .undef) ++ nd.l.drop (i + len))⟩, i + len ≤ nd.l.length)
     else none
    | none => none
   | _, _ => none
  | _, _, _ => none
 | _ => none
section snd
variable {P : Program} {ti : TI} (hT : TOk P ti) {w0 : World} {lab0 : Labs} {st : St} {a : Act} {w : World} {lab : Labs} {loc : Locs}
include hT in
theorem clearA_sound (h : RepL w0 lab0 st a w lab loc) {o : Oper} {vs : List AV} {id : Nat} {nd' : Node} {ok : Prop}
  {nodes : Nat → Option Node} (hnod : ∀ i n, nodes i = some n → st.obj i = some n) (hs : clearA ti nodes o.op vs = some (id, nd', ok)) (hok : ok) (hv : OpsV w lab loc vs (o.op.operands.toList.map a.eval)) (e : Eff)
  (hwr : e.wr = wrD o.dst (.tup [])) (hup : e.up = [(id, some nd')]) (hd : ∀ d, o.dst = some d → d < st.n) :
  ∃ v w', (execOp a.eval o).run P w = .ok (.value v) w' ∧ RepL w0 lab0 (e.apply st) (a.put o.dst v) w' lab loc := by
 unfold clearA at hs
 split at hs <;> first | (cases hs; done) | skip
 rename_i c ho
 split at hs <;> first | (cases hs; done) | skip
 rename_i t id0 es i len hc hat
 split at hs <;> first | (cases hs; done) | skip
 rename_i nd ty hnd' hk'
 have hnd := hnod _ _ hnd'
 have hk := tkind_ok hT t
 rw [hk'] at hk
 split at hs <;> first | (cases hs; done) | skip
 rename_i ei hei
 split at hs <;> first | (cases hs; done) | cases hs
 rename_i hcond
 obtain ⟨hes, hes2, hzs⟩ := hcond
 subst hes
 rw [ho] at hv
 obtain ⟨vb, hvv, hvb⟩ := hv.one
 have hargs : c.args.map a.eval = #[vb] := by
  simp [Op.operands, Call.operands, hc] at hvv; apply Array.ext'; simpa using hvv
 have hat' : c.argTypes = #[t] := by apply Array.ext'; simpa using hat
 obtain ⟨b, base, hl, hob⟩ := h.objs id nd hnd
 obtain ⟨ad, cap, rfl, hlc, hadr, hbk⟩ := hvb.inv_sl hl
 obtain ⟨z, hz⟩ := Option.isSome_iff_exists.1 hzs
 obtain ⟨info, i1, i2, i3, i4⟩ := (hT ty ei hei).info
 obtain ⟨zv, i5, i6, i7⟩ := i4 z hz
 have hzs' : zv.cells.size = ei.size := by have := (zero_cells i6).1; simp at this; omega
 have hblk := hob.blk
 rw [hes2] at hblk
 have hlen0 : ((Builtin.zeroCells zv.cells len).toList).length = len * ei.size := by simp [size_zeroCells, hzs']
 have hle : (i + len) * ei.size ≤ nd.l.length * ei.size := Nat.mul_le_mul_right _ hok
 rw [Nat.add_mul] at hle
 have hin : ∀ k, k < ((Builtin.zeroCells zv.cells len).toList).length → (w.cell? ⟨b, base + i * ei.size + k, none⟩).isSome = true := by
  intro k hk2; rw [hlen0] at hk2; exact cell_of_blk hblk (by omega)
 have hfr : ∀ k, k < ((Builtin.zeroCells zv.cells len).toList).length → w.frozen? ⟨b, base + i * ei.size + k, none⟩ = false := by
  intro k hk2; rw [hlen0] at hk2; exact frozen_of_blk hblk (by omega)
 have hone : ∀ v ∈ (Builtin.zeroCells zv.cells len).toList, v.oneCell' = true := by
  intro v hv
  have hv2 : v ∈ zv.cells.toList := by
   simp only [Builtin.zeroCells, Array.toList_map, List.mem_map, Array.mem_toList_iff, Array.mem_range] at hv
   obtain ⟨k, hk2, rfl⟩ := hv
   have hpos : 0 < zv.cells.size := by rcases Nat.eq_zero_or_pos zv.cells.size with h | h; rw [h] at hk2; simp at hk2; exact h
   have hm := Nat.mod_lt k hpos
   rw [getElem!_pos zv.cells _ hm]
   exact Array.getElem_mem_toList hm
  obtain ⟨k, hk2⟩ := List.mem_iff_getElem?.1 hv2
  have h1 := zero_cells i6
  have hkl : k < z.length := by rw [← h1.1]; exact (List.getElem?_eq_some_iff.1 hk2).1
  exact ofV_one (h1.2 k _ v (List.getElem?_eq_getElem hkl) hk2)
 have hrun : (Builtin.clear_ #[t] o.type #[.slice (some ad) len cap]).run P w = .ok (.tuple #[]) (w.setCells b (base + i * ei.size) (Builtin.zeroCells zv.cells len).toList) := by
  rcases Nat.eq_zero_or_pos len with h0 | h0
  ·subst h0
   simp [Builtin.clear_, run_underlying hk, Builtin.zeroCells, World.setCells]
  ·have had : ad = ⟨b, base + i * ei.size, none⟩ := by rcases hadr with h | h; omega; exact h
   subst had
   have hst := run_storeCells_cells (P := P) b (base + i * ei.size) (Builtin.zeroCells zv.cells len).toList 0 w (by simpa using hin) (by simpa using hfr) hone
   simp only [Nat.add_zero] at hst
   obtain ⟨m, rfl⟩ : ∃ m, len = m + 1 := ⟨len - 1, by omega⟩
   simp [Builtin.clear_, run_underlying hk, zeroValue, typeInfo, i1, i5, hst]
 refine ⟨.tuple #[], w.setCells b (base + i * ei.size) (Builtin.zeroCells zv.cells len).toList, ?_, ?_⟩
 ·simp only [execOp, ho, resolve, hc, invoke, builtin, hargs, hat', Sem.run_bind, hrun, Result.andThen_ok, Sem.run_pure]
 ·refine step_cells h e (nd := nd) (base := base) hwr hup hd hnd hl hob hes2.symm ?_ (by simp; omega) hin (.imm _ _ (.tup [] [] rfl (by intro j x y hx; simp at hx))) ?_
  ·intro cc hcc
   simp only [List.mem_append, List.mem_replicate] at hcc
   rcases hcc with hcc | ⟨_, rfl⟩ | hcc
   ·simp only; rw [← hes2]; exact hob.es cc (List.mem_of_mem_take hcc)
   ·simp
   ·simp only; rw [← hes2]; exact hob.es cc (List.mem_of_mem_drop hcc)
  ·intro k cc m x hk2 hm
   simp only at hk2
   have hti : (nd.l.take i).length = i := by simp; omega
   rw [List.getElem?_append, hti] at hk2
   by_cases hki : k < i
   ·rw [if_pos hki, List.getElem?_take, if_pos hki] at hk2
    have hmc : m < ei.size := by
     have := hob.es cc (List.mem_of_getElem? hk2)
     rcases Nat.lt_or_ge m cc.length with h | h
     ·omega
     ·simp [List.getElem?_eq_none h] at hm
    refine Or.inr ⟨Or.inl ?_, cc, hk2, hm⟩
    rw [hes2]
    have : (k + 1) * ei.size ≤ i * ei.size := Nat.mul_le_mul_right _ hki
    rw [Nat.add_mul] at this; omega
   ·rw [if_neg hki, List.getElem?_append, List.length_replicate] at hk2
    by_cases hkl : k - i < len
    ·rw [if_pos hkl, List.getElem?_replicate, if_pos hkl] at hk2
     cases hk2
     rw [List.getElem?_replicate] at hm
     split at hm <;> first | (cases hm; done) | cases hm
     rename_i hme
     have hlt : (k - i) * ei.size + m < len * ei.size := by
      have : (k - i + 1) * ei.size ≤ len * ei.size := Nat.mul_le_mul_right _ hkl
      rw [Nat.add_mul] at this; omega
     refine Or.inl ⟨(k - i) * ei.size + m, ?_, ((Builtin.zeroCells zv.cells len).toList)[(k - i) * ei.size + m]'(by rw [hlen0]; exact hlt), List.getElem?_eq_getElem _, .undef _⟩
     rw [hes2]
     have : k * ei.size = i * ei.size + (k - i) * ei.size := by rw [← Nat.add_mul]; congr 1; omega
     omega
    ·rw [if_neg hkl, List.getElem?_drop] at hk2
     have hke : i + len + (k - i - len) = k := by omega
     rw [hke] at hk2
     refine Or.inr ⟨Or.inr ?_, cc, hk2, hm⟩
     rw [hlen0, hes2]
     have : (i + len) * ei.size ≤ k * ei.size := Nat.mul_le_mul_right _ (by omega)
     rw [Nat.add_mul] at this; omega
end snd
end Go.AM
namespace Go.AM
def opA (st : St) : Operand → Option AV
 | .tmp t => st.slot t
 | .const v => ofV v
 | .func f => some (.fn f [])
 | .global _ => none
def rdOf (st : St) : List Operand → List (Nat × AV)
 | [] => []
 | .tmp t :: r => match st.slot t with
  | some x => (t, x) :: rdOf st r
  | none => rdOf st r
 | _ :: r => rdOf st r
def evs (st : St) : List Operand → Option (List AV)
 | [] => some []
 | x :: r => match opA st x, evs st r with
  | some y, some l => some (y :: l)
  | _, _ => none
def obsOf (st : St) (vs : List AV) : List (Nat × Option Node) := (idsL vs).map fun i => (i, st.obj i)
def rowIds (st : St) : List AV → List Nat
 | [_, .sl i _ _ _] => match st.obj i with
  | some nd => nd.l.flatMap idsL
  | none => []
 | _ => []
def obsA (st : St) (vs : List AV) : List (Nat × Option Node) := obsOf st vs ++ (rowIds st vs).map fun i => (i, st.obj i)
def obsN (st : St) (vs : List AV) : List (Nat × Option Node) := match vs with
 | [.nils, .sl i a b c] => obsA st [.nils, .sl i a b c]
 | _ => obsOf st vs
theorem obsN_sub {st : St} {vs : List AV} : ∀ p ∈ obsOf st vs, p ∈ obsN st vs := by
 intro p hp
 unfold obsN
 split
 ·exact List.mem_append_left _ hp
 ·exact hp
theorem obsN_ok {st : St} {vs : List AV} : ∀ p ∈ obsN st vs, st.obj p.1 = p.2 := by
 have h1 : ∀ p ∈ obsOf st vs, st.obj p.1 = p.2 := by
  intro p hp
  unfold obsOf at hp
  obtain ⟨i, _, rfl⟩ := List.mem_map.1 hp; rfl
 intro p hp
 unfold obsN at hp
 split at hp
 ·unfold obsA at hp
  rcases List.mem_append.1 hp with hp | hp
  ·exact h1 p hp
  ·obtain ⟨i, _, rfl⟩ := List.mem_map.1 hp; rfl
 ·exact h1 p hp
def nodesOf (ob : List (Nat × Option Node)) (i : Nat) : Option Node := (look i ob).join
def dstOk (st : St) : Option Nat → Bool
 | some d => decide (d < st.n)
 | none => true
theorem evs_pre {st st' : St} {xs : List Operand} {vs : List AV} (h : evs st xs = some vs) (hp : ∀ p ∈ rdOf st xs, st'.slot p.1 = some p.2) : evs st' xs = some vs := by
 induction xs generalizing vs with
 | nil => exact h
 | cons x xs ih =>
  simp only [evs] at h ⊢
  split at h <;> first | (cases h; done) | cases h
  rename_i y l hy hl
  have hx : opA st' x = some y := by
   cases x with
   | tmp t => exact hp (t, y) (by simp only [opA] at hy; simp [rdOf, hy])
   | const v => exact hy
   | func f => exact hy
   | global g => exact hy
  have hr := ih hl (fun p hp' => hp p (by
   cases x with
   | tmp t => simp only [opA] at hy; simp only [rdOf, hy]; exact List.mem_cons_of_mem _ hp'
   | const v => exact hp'
   | func f => exact hp'
   | global g => exact hp'))
  simp [hx, hr]
theorem rdOf_self {st : St} (xs : List Operand) : ∀ p ∈ rdOf st xs, st.slot p.1 = some p.2 := by
 induction xs with
 | nil => intro p hp; cases hp
 | cons x xs ih =>
  intro p hp
  cases x with
  | tmp t =>
   simp only [rdOf] at hp
   split at hp
   ·rename_i y hy
    rcases List.mem_cons.1 hp with rfl | hp
    ·exact hy
    ·exact ih p hp
   ·exact ih p hp
  | const v => exact ih p hp
  | func f => exact ih p hp
  | global g => exact ih p hp
section
variable {w0 : World} {lab0 : Labs} {st : St} {a : Act} {w : World} {lab : Labs} {loc : Locs}
theorem evs_V (h : RepL w0 lab0 st a w lab loc) {xs : List Operand} {vs : List AV} (he : evs st xs = some vs) : OpsV w lab loc vs (xs.map a.eval) := by
 induction xs generalizing vs with
 | nil => simp [evs] at he; subst he; exact ⟨rfl, by intro j x y hx; simp at hx⟩
 | cons x xs ih =>
  simp only [evs] at he
  split at he <;> first | (cases he; done) | cases he
  rename_i y l hy hl
  obtain ⟨h1, h2⟩ := ih hl
  have hx : V w lab loc y (a.eval x) := by
   cases x with
   | tmp t => exact h.slots t y hy
   | const v => exact .imm _ _ (ofV_sound hy)
   | func f => simp only [opA] at hy; cases hy; exact .fn f [] [] rfl (by intro j x y hx; simp at hx)
   | global g => cases hy
  refine ⟨by simp [h1], ?_⟩
  intro j u v hu hv
  cases j with
  | zero => simp at hu hv; subst hu; subst hv; exact hx
  | succ j => exact h2 j u v (by simpa using hu) (by simpa using hv)
theorem evs_ids {xs : List Operand} {vs : List AV} (he : evs st xs = some vs) : ∀ x ∈ vs, ∀ k ∈ x.ids, k ∈ st.ids := by
 induction xs generalizing vs with
 | nil => simp [evs] at he; subst he; intro x hx; cases hx
 | cons x xs ih =>
  simp only [evs] at he
  split at he <;> first | (cases he; done) | cases he
  rename_i y l hy hl
  intro z hz k hk
  rcases List.mem_cons.1 hz with rfl | hz
  ·cases x with
   | tmp t => exact ids_of_slot hy hk
   | const v => rw [(ofV_sound (w := default) (lab := fun _ => none) hy).ids] at hk; cases hk
   | func f => simp only [opA] at hy; cases hy; simp [AV.ids, idsL] at hk
   | global g => cases hy
  ·exact ih hl z hz k hk
theorem nodesOf_pre {ob : List (Nat × Option Node)} (h : ∀ p ∈ ob, st.obj p.1 = p.2) : ∀ i nd, nodesOf ob i = some nd → st.obj i = some nd := by
 intro i nd hi
 unfold nodesOf at hi
 cases hl : look i ob with
 | none => simp [hl] at hi
 | some o =>
  simp [hl] at hi
  subst hi
  exact h (i, some nd) (look_mem hl)
end
def obF : Op → List (Nat × Option Node) → List (Nat × Option Node)
 | .move _, _ => []
 | .assign _, _ => []
 | .indexAddr _ _ _, _ => []
 | _, l => l
theorem obF_sub {op : Op} {l : List (Nat × Option Node)} : ∀ p ∈ obF op l, p ∈ l := by
 intro p hp
 unfold obF at hp
 split at hp <;> first | (cases hp; done) | exact hp
theorem indexAddr_some (ti : TI) {nodes nodes2 : Nat → Option Node} (h : ∀ i, (nodes i).isSome = (nodes2 i).isSome) (t : Nat) (x y : AV) : indexAddrA ti nodes t x y = indexAddrA ti nodes2 t x y := by
 unfold indexAddrA
 split
 ·rfl
 ·rename_i id es i0 len k i
  have := h id
  cases h1 : nodes id <;> cases h2 : nodes2 id <;> simp [h1, h2] at this ⊢
 ·rfl
theorem evalP_ia (ti : TI) {nodes nodes2 : Nat → Option Node} (h : ∀ i, (nodes i).isSome = (nodes2 i).isSome) (t : Nat) (a b : Operand) (vs : List AV) : evalP ti nodes (.indexAddr t a b) vs = evalP ti nodes2 (.indexAddr t a b) vs :=
 match vs with
 | [] => rfl
 | [_] => rfl
 | [x, y] => indexAddr_some ti h t x y
 | _ :: _ :: _ :: _ => rfl
theorem obF_or (ti : TI) (nodes : Nat → Option Node) (op : Op) (vs : List AV) (l : List (Nat × Option Node)) : obF op l = l ∨ evalP ti nodes op vs = evalP ti (fun _ => none) op vs ∨ ∃ t a b, op = .indexAddr t a b := by
 cases op <;> first | exact Or.inl rfl | exact Or.inr (Or.inl rfl) | exact Or.inr (Or.inr ⟨_, _, _, rfl⟩)
def exF : Op → List (Nat × Option Node) → List Nat
 | .indexAddr _ _ _, l => (l.filter fun p => p.2.isSome).map (·.1)
 | _, _ => []
def opEff (ti : TI) (o : Oper) (st : St) (id : Nat) : Option (Eff × Prop) :=
 match evs st o.op.operands.toList with
 | none => none
 | some vs =>
  if dstOk st o.dst then
   match evalP ti (nodesOf (obsOf st vs)) o.op vs with
   | some (x, ok) => some ({ rd := rdOf st o.op.operands.toList, ob := obF o.op (obsOf st vs), wr := wrD o.dst x, ex := exF o.op (obsOf st vs) }, ok)
   | none =>
    match newA ti (nodesOf (obsN st vs)) id o.op vs with
    | some (nd, x, ok) => some ({ rd := rdOf st o.op.operands.toList, ob := (id, none) :: obsN st vs, new := [id], wr := wrD o.dst x, up := [(id, some nd)] }, ok ∧ st.obj id = none ∧ id ∉ st.ids)
    | none =>
     match appA ti (nodesOf (obsA st vs)) id o.op vs with
     | some (old, nd, x, ok) => some ({ rd := rdOf st o.op.operands.toList, ob := (id, none) :: obsA st vs, new := [id], wr := wrD o.dst x, up := [(id, some nd), (old, none)] }, ok ∧ st.obj id = none ∧ id ∉ st.ids)
     | none =>
      match o.op with
      | .store t _ _ => match storeA ti (nodesOf (obsOf st vs)) t vs with
       | some (i, nd, ok) => some ({ rd := rdOf st o.op.operands.toList, ob := obsOf st vs, wr := wrD o.dst .undef, up := [(i, some nd)] }, ok)
       | none => none
      | _ => match clearA ti (nodesOf (obsOf st vs)) o.op vs with
       | some (i, nd, ok) => some ({ rd := rdOf st o.op.operands.toList, ob := obsOf st vs, wr := wrD o.dst (.tup []), up := [(i, some nd)] }, ok)
       | none => none
  else none
def Sound (P : Program) (w0 : World) (lab0 : Labs) (n : Nat) (o : Oper) (e : Eff) : Prop :=
 ∀ st a w, st.n = n → e.pre st → Rep w0 lab0 st a w → ∀ (next : Act → World → Prop) (Q : Exit → Act → World → Prop), (∀ a' w', Rep w0 lab0 (e.apply st) a' w' → next a' w') → o.wp P a w next Q
section snd
variable {P : Program} {ti : TI} (hT : TOk P ti) {w0 : World} {lab0 : Labs}
theorem dstOk_lt {st st' : St} {dst : Option Nat} (h : dstOk st dst = true) (hn : st'.n = st.n) : ∀ d, dst = some d → d < st'.n := by
 intro d hd; subst hd; rw [hn]; simpa [dstOk] using h
include hT in
theorem opEff_sound {o : Oper} {st : St} {id : Nat} {e : Eff} {ok : Prop} (h : opEff ti o st id = some (e, ok)) (hok : ok) : e.pre st ∧ Sound P w0 lab0 st.n o e := by
 unfold opEff at h
 split at h <;> first | (cases h; done) | skip
 rename_i vs hvs
 split at h <;> first | (cases h; done) | skip
 rename_i hdst
 have hobs : ∀ p ∈ obsOf st vs, st.obj p.1 = p.2 := by
  intro p hp
  unfold obsOf at hp
  obtain ⟨i, _, rfl⟩ := List.mem_map.1 hp; rfl
 have hobsA : ∀ p ∈ obsA st vs, st.obj p.1 = p.2 := by
  intro p hp
  rcases List.mem_append.1 hp with hp | hp
  ·exact hobs p hp
  ·obtain ⟨i, _, rfl⟩ := List.mem_map.1 hp; rfl
 have hrd := rdOf_self (st := st) o.op.operands.toList
 have sh : ∀ {e : Eff} {st' : St} {a w lab loc}, e.rd = rdOf st o.op.operands.toList → (∀ p ∈ obsOf st vs, p ∈ e.ob) → e.pre st' → RepL w0 lab0 st' a w lab loc →
   OpsV w lab loc vs (o.op.operands.toList.map a.eval) ∧ (∀ i nd, nodesOf (obsOf st vs) i = some nd → st'.obj i = some nd) ∧ (∀ x ∈ vs, ∀ k ∈ x.ids, k ∈ st'.ids) := by
  intro e st' a w lab loc he1 he2 hp hR
  have hv := evs_pre (st' := st') hvs (by rw [← he1]; exact hp.1)
  exact ⟨evs_V hR hv, nodesOf_pre (fun p hp' => hp.2.1 p (he2 p hp')), evs_ids hv⟩
 split at h
 ·cases h
  rename_i x hev
  refine ⟨⟨hrd, fun p hp => hobs p (obF_sub p hp), by simp, ?_⟩, ?_⟩
  ·intro i hi
   cases hop : o.op <;> rw [hop] at hi <;> first | (cases hi; done) | skip
   obtain ⟨p, hp, rfl⟩ := List.mem_map.1 hi
   obtain ⟨hp1, hp2⟩ := List.mem_filter.1 hp
   rw [hobs p hp1]; exact hp2
  intro st' a w hn hp ⟨lab, loc, hR⟩ next Q hnext
  obtain ⟨v, hr, hV⟩ : ∃ v, (execOp a.eval o).run P w = .ok (.value v) w ∧ V w lab loc x v := by
   rcases obF_or ti (nodesOf (obsOf st vs)) o.op vs (obsOf st vs) with h1 | h1 | ⟨t, ia, ib, h1⟩
   ·obtain ⟨hv, hnod, _⟩ := sh (e := { rd := rdOf st o.op.operands.toList, ob := obF o.op (obsOf st vs), wr := wrD o.dst x, ex := exF o.op (obsOf st vs) }) rfl (fun p hp => by rw [h1]; exact hp) hp hR
    exact evalP_sound hT (fun i nd hi => hR.objs i nd (hnod i nd hi)) hev hok hv
   ·rw [h1] at hev
    have hv := evs_pre (st' := st') hvs hp.1
    exact evalP_sound hT (nodes := fun _ => none) (fun i nd hi => by cases hi) hev hok (evs_V hR hv)
   ·have hv := evs_pre (st' := st') hvs hp.1
    have hx : ∀ i ∈ (obsOf st vs).filter (fun p => p.2.isSome), (st'.obj i.1).isSome = true := fun i hi => hp.2.2.2 i.1 (by rw [h1]; exact List.mem_map.2 ⟨i, hi, rfl⟩)
    have hev2 : evalP ti (fun i => if (nodesOf (obsOf st vs) i).isSome = true then st'.obj i else none) o.op vs = some (x, ok) := by
     rw [← hev, h1]
     have hs : ∀ i, ((fun i => if (nodesOf (obsOf st vs) i).isSome = true then st'.obj i else none) i).isSome = (nodesOf (obsOf st vs) i).isSome := by
      intro i
      simp only
      cases hni : nodesOf (obsOf st vs) i with
      | none => rfl
      | some nd =>
       simp only [Option.isSome_some, if_true]
       unfold nodesOf at hni
       cases hlk : look i (obsOf st vs) with
       | none => rw [hlk] at hni; cases hni
       | some y =>
        rw [hlk] at hni
        have hm := look_mem hlk
        have hy : y = some nd := by simpa using hni
        subst hy
        exact hx (i, some nd) (List.mem_filter.2 ⟨hm, rfl⟩)
     exact evalP_ia ti hs _ _ _ _
    exact evalP_sound hT (fun i nd hi => hR.objs i nd (by
     revert hi
     split
     ·exact fun hi => hi
     ·intro hi; cases hi)) hev2 hok (evs_V hR hv)
  unfold Oper.wp
  rw [hr]
  exact hnext _ _ ⟨lab, loc, step_pure hR _ rfl rfl (dstOk_lt hdst hn) hV rfl rfl rfl⟩
 ·split at h
  ·cases h
   rename_i nd x ok' hnew
   obtain ⟨hok1, hid, hni⟩ := hok
   refine ⟨⟨hrd, by intro p hp; rcases List.mem_cons.1 hp with rfl | hp; exact hid; exact obsN_ok p hp, by simpa using hni⟩, ?_⟩
   intro st' a w hn hp ⟨lab, loc, hR⟩ next Q hnext
   obtain ⟨hv, _, hids⟩ := sh (e := { rd := rdOf st o.op.operands.toList, ob := (id, none) :: obsN st vs, new := [id], wr := wrD o.dst x, up := [(id, some nd)] }) rfl (fun p hp => List.mem_cons_of_mem _ (obsN_sub p hp)) hp hR
   have hnod : ∀ i nd, nodesOf (obsN st vs) i = some nd → st'.obj i = some nd := nodesOf_pre (fun p hp' => hp.2.1 p (List.mem_cons_of_mem _ hp'))
   have hid' : st'.obj id = none := hp.2.1 (id, none) List.mem_cons_self
   have hni' : id ∉ st'.ids := hp.2.2.1 id (by simp)
   obtain ⟨⟨v, w', c, ty, fz, hr, h1, h2, h3, h4, h5, h6, h7⟩, h8, h9⟩ := newA_sound hT (fun i nd hi => hR.objs i nd (hnod i nd hi)) hnew hok1 hv
   unfold Oper.wp
   rw [hr]
   refine hnext _ _ ⟨_, _, step_new hR _ rfl rfl (dstOk_lt hdst hn) h1 h2 h3 h4 hni' ?_ hid' h8 h5 ?_ h7⟩
   ·intro hk
    rcases h9 id hk with ⟨y, hy, hk⟩ | ⟨i, n, hi, hk⟩
    ·exact hni' (hids y hy id hk)
    ·exact hni' (ids_of_obj (hnod i n hi) hk)
   ·intro i cc j y hi hj
    obtain ⟨u, hu, hV⟩ := h6 i cc j y hi hj
    exact ⟨u, by simpa using hu, hV⟩
  ·split at h
   ·cases h
    rename_i old nd x ok' happ
    obtain ⟨hok1, hid, hni⟩ := hok
    refine ⟨⟨hrd, by intro p hp; rcases List.mem_cons.1 hp with rfl | hp; exact hid; exact hobsA p hp, by simpa using hni⟩, ?_⟩
    intro st' a w hn hp ⟨lab, loc, hR⟩ next Q hnext
    obtain ⟨hv, _, hids⟩ := sh (e := { rd := rdOf st o.op.operands.toList, ob := (id, none) :: obsA st vs, new := [id], wr := wrD o.dst x, up := [(id, some nd), (old, none)] }) rfl (fun p hp => List.mem_cons_of_mem _ (List.mem_append_left _ hp)) hp hR
    have hnod : ∀ i nd, nodesOf (obsA st vs) i = some nd → st'.obj i = some nd := nodesOf_pre (fun p hp' => hp.2.1 p (List.mem_cons_of_mem _ hp'))
    have hid' : st'.obj id = none := hp.2.1 (id, none) List.mem_cons_self
    have hni' : id ∉ st'.ids := hp.2.2.1 id (by simp)
    obtain ⟨v, w', hr, hR'⟩ := appA_sound hT hR hnod happ hok1 hv { rd := rdOf st o.op.operands.toList, ob := (id, none) :: obsA st vs, new := [id], wr := wrD o.dst x, up := [(id, some nd), (old, none)] } rfl rfl (dstOk_lt hdst hn) hni' hid'
    unfold Oper.wp
    rw [hr]
    exact hnext _ _ hR'
   ·split at h
    ·rename_i t x y hop
     split at h <;> first | (cases h; done) | cases h
     rename_i i nd hst
     refine ⟨⟨hrd, hobs, by simp⟩, ?_⟩
     intro st' a w hn hp ⟨lab, loc, hR⟩ next Q hnext
     obtain ⟨hv, hnod, hids⟩ := sh (e := { rd := rdOf st o.op.operands.toList, ob := obsOf st vs, wr := wrD o.dst .undef, up := [(i, some nd)] }) rfl (fun p hp => hp) hp hR
     rw [hop] at hv
     simp only [Op.operands, List.map_cons, List.map_nil] at hv
     obtain ⟨w', hr, hR'⟩ := storeA_sound hT hR hop hnod hst hok hv { rd := rdOf st o.op.operands.toList, ob := obsOf st vs, wr := wrD o.dst .undef, up := [(i, some nd)] } rfl rfl (dstOk_lt hdst hn)
     unfold Oper.wp
     rw [hr]
     exact hnext _ _ ⟨lab, loc, hR'⟩
    ·split at h <;> first | (cases h; done) | cases h
     rename_i i nd hst
     refine ⟨⟨hrd, hobs, by simp⟩, ?_⟩
     intro st' a w hn hp ⟨lab, loc, hR⟩ next Q hnext
     obtain ⟨hv, hnod, hids⟩ := sh (e := { rd := rdOf st o.op.operands.toList, ob := obsOf st vs, wr := wrD o.dst (.tup []), up := [(i, some nd)] }) rfl (fun p hp => hp) hp hR
     obtain ⟨v, w', hr, hR'⟩ := clearA_sound hT hR hnod hst hok hv { rd := rdOf st o.op.operands.toList, ob := obsOf st vs, wr := wrD o.dst (.tup []), up := [(i, some nd)] } rfl rfl (dstOk_lt hdst hn)
     unfold Oper.wp
     rw [hr]
     exact hnext _ _ ⟨lab, loc, hR'⟩
end snd
end Go.AM
namespace Go.AM
mutual
def unown : AV → AV
  | .osl es l => .isl es (unownLL l)
  | .op l => .ip (unownL l)
  | .agg cs => .agg (unownL cs)
  | .tup cs => .tup (unownL cs)
  | x => x
def unownL : List AV → List AV
  | [] => []
  | x :: xs => unown x :: unownL xs
def unownLL : List (List AV) → List (List AV)
  | [] => []
  | c :: cs => unownL c :: unownLL cs
end
theorem unownL_eq (l : List AV) : unownL l = l.map unown := by induction l with | nil => rfl | cons x l ih => simp [unownL, ih]
theorem unownLL_eq (l : List (List AV)) : unownLL l = l.map (·.map unown) := by induction l with | nil => rfl | cons x l ih => simp [unownLL, unownL_eq, ih]
theorem unown_plain {x : AV} (h : x.tree = true) : (unown x).plain = true := by
  cases x <;> simp [AV.tree] at h <;> simp [unown, AV.plain]
theorem I.unown {w : World} {lab : Labs} {x : AV} {v : Value} (h : I w lab x v) : Go.AM.unown x = x := by
  have key : ∀ (cs : List AV) (vs : List Value), cs.length = vs.length → (∀ (j : Nat) x y, cs[j]? = some x → vs[j]? = some y → Go.AM.unown x = x) → unownL cs = cs := by
    intro cs vs hl ih
    rw [unownL_eq]
    apply List.ext_getElem?
    intro j
    rw [List.getElem?_map]
    cases hj : cs[j]? with
    | none => rfl
    | some x =>
      have : j < vs.length := by rw [← hl]; exact (List.getElem?_eq_some_iff.1 hj).1
      simp [ih j x _ hj (List.getElem?_eq_getElem this)]
  induction h with
  | agg cs vs hl _ ih => simp only [Go.AM.unown]; rw [key cs vs hl ih]
  | tup cs vs hl _ ih => simp only [Go.AM.unown]; rw [key cs vs hl ih]
  | _ => rfl
theorem T.unown {w : World} {lab lab' : Labs} {p : Lab} {x : AV} {v : Value} (h : T w lab p x v) (h0 : ∀ b, lab b = none → lab' b = none) (h1 : ∀ b q, lab b = some (p.app q) → lab' b = none) :
    I w lab' (unown x) v := by
  induction h with
  | imm p x v h => rw [h.unown]; exact h.mono (fun b _ hb => ⟨h0 b hb, rfl⟩) (Nat.le_refl _)
  | osl p es l b off cap vals hb hk hc hes hp hv _ ih =>
    simp only [Go.AM.unown, unownLL_eq]
    have hlen : (l.map (·.map Go.AM.unown)).length = l.length := by simp
    have hres := I.isl (w := w) (lab := lab') es (l.map (·.map Go.AM.unown)) b off cap vals (h1 b [] (by rw [Lab.app_nil]; exact hb)) hk.lt (by rw [hlen]; exact hc)
      (by intro c hc; obtain ⟨c', hc', rfl⟩ := List.mem_map.1 hc; rw [List.length_map]; exact hes c' hc')
      (by
        intro c hc x hx
        obtain ⟨c', hc', rfl⟩ := List.mem_map.1 hc
        obtain ⟨y, hy, rfl⟩ := List.mem_map.1 hx
        exact unown_plain (hp c' hc' y hy))
      (by intro i j hi hj; exact hv i j (by rw [← hlen]; exact hi) hj)
      (by
        intro i c j x hi hj
        simp only [List.getElem?_map, Option.map_eq_some_iff] at hi
        obtain ⟨c', hc', rfl⟩ := hi
        simp only [List.getElem?_map, Option.map_eq_some_iff] at hj
        obtain ⟨y, hy, rfl⟩ := hj
        exact ih i c' j y hc' hy (fun b q hq => by rw [Lab.down_app] at hq; exact h1 b _ hq))
    rw [hlen] at hres
    exact hres
  | op p l b off vals hb hk hp hv _ ih =>
    simp only [Go.AM.unown, unownL_eq]
    refine .ip _ b off vals (h1 b [] (by rw [Lab.app_nil]; exact hb)) hk.lt (by intro j hj; exact hv j (by simpa using hj)) ?_
    intro j x hj
    simp only [List.getElem?_map, Option.map_eq_some_iff] at hj
    obtain ⟨y, hy, rfl⟩ := hj
    exact ih j y hy (fun b q hq => by rw [Lab.down_app] at hq; exact h1 b _ hq)
  | agg p cs vs hl _ ih =>
    simp only [Go.AM.unown, unownL_eq]
    refine .agg _ _ (by simpa using hl) ?_
    intro j x y hx hy
    simp only [List.getElem?_map, Option.map_eq_some_iff] at hx
    obtain ⟨z, hz, rfl⟩ := hx
    exact ih j z y hz hy (fun b q hq => by rw [Lab.down_app] at hq; exact h1 b _ hq)
  | tup p cs vs hl _ ih =>
    simp only [Go.AM.unown, unownL_eq]
    refine .tup _ _ (by simpa using hl) ?_
    intro j x y hx hy
    simp only [List.getElem?_map, Option.map_eq_some_iff] at hx
    obtain ⟨z, hz, rfl⟩ := hx
    exact ih j z y hz hy (fun b q hq => by rw [Lab.down_app] at hq; exact h1 b _ hq)
def HasBody (P : Program) (f : FuncId) : Prop := ∃ fn, P.funcs[f]? = some fn ∧ fn.body.isNone = false ∧ (fn.name == "runtime.NumGoroutine") = false
structure DC (P : Program) (f : FuncId) (args : List AV) (res : AV) (muts : List (Nat × AV)) : Prop where
  body : HasBody P f
  calls : ∀ (w : World) (lab : Labs) (vals : List Value), args.length = vals.length → (∀ (k : Nat) x v, args[k]? = some x → vals[k]? = some v → T w lab (.arg k, []) x v) →
    (∀ b, lab b ≠ none → b < w.heap.size) →
    Calls P f ⟨vals⟩ w fun e w' => ∃ v lab', e = .returned v ∧ T w' lab' (.res, []) res v ∧ (∀ p ∈ muts, ∀ v, vals[p.1]? = some v → T w' lab' (.arg p.1, []) p.2 v) ∧
      Ext lab w lab' w' ∧ ∀ b, lab' b ≠ none → b < w'.heap.size
abbrev PlanI := List (Nat × (Nat × List (Nat × Nat)))
def labC (lab : Labs) (pl : PlanI) (ro : List Nat) : Labs := fun b => match lab b with
  | some (.obj id, p) => match look id pl with
    | some (k, pre) => some (.arg k, pre ++ p)
    | none => if id ∈ ro then none else some (.tmp, [])
  | none => none
  | some _ => some (.tmp, [])
theorem labC_none {lab : Labs} {pl : PlanI} {ro : List Nat} {b : Nat} (h : lab b = none) : labC lab pl ro b = none := by simp [labC, h]
def frz0 (nodes : Nat → Option Node) (own : Bool) (k : Nat) (pre : List (Nat × Nat)) : AV → Option (AV × PlanI × Prop)
  | .sl id es i len => match nodes id with
    | some nd => if nd.es = es then
        match own with
        | true => if i = 0 then some (.osl es nd.l, [(id, (k, pre))], len = nd.l.length ∧ ∀ c ∈ nd.l, ∀ x ∈ c, AV.tree x = true) else none
        | false => some (.isl es (((nd.l.drop i).take len).map (·.map unown)), [], i + len ≤ nd.l.length ∧ ∀ c ∈ (nd.l.drop i).take len, ∀ x ∈ c, AV.tree x = true)
      else none
    | none => none
  | .ptr id es i j => match nodes id with
    | some nd => if nd.es = es then
        match own with
        | true => match nd.l with
          | [c] => if i = 0 ∧ j = 0 then some (.op c, [(id, (k, pre))], ∀ x ∈ c, AV.tree x = true) else none
          | _ => none
        | false => some (.ip (((nd.l.getD i []).drop j).map unown), [], i < nd.l.length ∧ j ≤ es ∧ ∀ x ∈ (nd.l.getD i []).drop j, AV.tree x = true)
      else none
    | none => none
  | .bool b => some (.bool b, [], True)
  | .int k n => some (.int k n, [], True)
  | .str s => some (.str s, [], True)
  | .nilp => some (.nilp, [], True)
  | .nils => some (.nils, [], True)
  | .zsl => some (.zsl, [], True)
  | .nel => some (.nel, [], True)
  | .lns n => some (.lns n, [], True)
  | .val v => some (.val v, [], True)
  | .isl es l => some (.isl es l, [], True)
  | .ip l => some (.ip l, [], True)
  | _ => none
def frzL (nodes : Nat → Option Node) (own : Bool) (k : Nat) (pre : Nat → List (Nat × Nat)) : Nat → List AV → Option (List AV × PlanI × Prop)
  | _, [] => some ([], [], True)
  | j, x :: xs => match frz0 nodes own k (pre j) x, frzL nodes own k pre (j + 1) xs with
    | some (t, p, ok), some (ts, ps, oks) => some (t :: ts, p ++ ps, ok ∧ oks)
    | _, _ => none
def frz (nodes : Nat → Option Node) (own : Bool) (k : Nat) : AV → Option (AV × PlanI × Prop)
  | .agg cs => match frzL nodes own k (fun j => [(0, j)]) 0 cs with
    | some (ts, p, ok) => some (.agg ts, p, ok)
    | none => none
  | .fn f cs => match frzL nodes false k (fun _ => []) 0 cs with
    | some (ts, _, ok) => some (.fn f ts, [], ok)
    | none => none
  | x => frz0 nodes own k [] x
section snd
variable {w : World} {lab : Labs} {loc : Locs} {nodes : Nat → Option Node} (hn : ∀ id nd, nodes id = some nd → ∃ b base, loc id = some (b, base) ∧ ObjOk w lab loc id nd b base)
  {pl : PlanI} {ro : List Nat}
theorem Cell.tree {p : Lab} {x : AV} {v : Value} (h : Cell w lab loc p x v) (hx : x.tree = true) : T w lab p x v := by
  rcases h with h | h
  · cases h with
    | imm _ _ h => exact .imm _ _ _ h
    | _ => simp [AV.tree] at hx
  · exact h
include hn in
theorem frz0_sound {own : Bool} {k : Nat} {pre : List (Nat × Nat)} {x t : AV} {p : PlanI} {ok : Prop} (h : frz0 nodes own k pre x = some (t, p, ok)) (hok : ok)
    {v : Value} (hx : V w lab loc x v) (hp : ∀ e ∈ p, look e.1 pl = some e.2) (hro : own = false → ∀ id ∈ x.ids, look id pl = none ∧ id ∈ ro) :
    T w (labC lab pl ro) (.arg k, pre) t v ∧ (own = false → I w (labC lab pl ro) t v) := by
  have hsc : ∀ y, I w lab y v → T w (labC lab pl ro) (.arg k, pre) y v ∧ (own = false → I w (labC lab pl ro) y v) := by
    intro y hy
    have := hy.mono (w' := w) (lab' := labC lab pl ro) (fun b _ hb => ⟨labC_none hb, rfl⟩) (Nat.le_refl _)
    exact ⟨.imm _ _ _ this, fun _ => this⟩
  unfold frz0 at h
  split at h
  · rename_i id es i len
    split at h <;> first | (cases h; done) | skip
    rename_i nd hnd
    split at h <;> first | (cases h; done) | skip
    rename_i hes
    obtain ⟨b, base, hl, ho⟩ := hn id nd hnd
    obtain ⟨a, cap, rfl, h1, h2, h3⟩ := hx.inv_sl hl
    split at h
    · split at h <;> first | (cases h; done) | cases h
      rename_i hi
      subst hi
      obtain ⟨hlen, htree⟩ := hok
      have ha : a = ⟨b, base, none⟩ := by rcases h2 with h | h; omega; simpa using h
      subst ha
      have hlk := hp (id, (k, pre)) (by simp)
      have hlabc : ∀ b' q, lab b' = some (.obj id, q) → labC lab pl ro b' = some (.arg k, pre ++ q) := by
        intro b' q hq; simp only [labC, hq]; simp only at hlk; rw [hlk]
      subst hlen
      refine ⟨?_, fun h => by cases h⟩
      subst hes
      refine .osl _ nd.es nd.l b base cap (fun i j => (w.cell? ⟨b, base + i * nd.es + j, none⟩).getD undef) ?_ (by simpa using h3) h1 ho.es htree ?_ ?_
      · rw [hlabc b [] ho.hlab]; simp
      · intro i j hi hj
        have hc : nd.l[i]? = some nd.l[i] := List.getElem?_eq_getElem hi
        have hcl := ho.es _ (List.mem_of_getElem? hc)
        obtain ⟨v, hv, _⟩ := ho.cells i _ j _ hc (List.getElem?_eq_getElem (by omega))
        rw [hv]; rfl
      · intro i c j x hi hj
        obtain ⟨v, hv, hcv⟩ := ho.cells i c j x hi hj
        simp only [hv, Option.getD_some]
        refine (hcv.tree (htree c (List.mem_of_getElem? hi) x (List.mem_of_getElem? hj))).move (fun b _ hb => ⟨labC_none hb, rfl⟩) ?_ (Nat.le_refl _)
        intro b' q _ hq
        refine ⟨?_, rfl⟩
        rw [hlabc b' _ hq]
        simp [Lab.app, Lab.down]
    · cases h
      obtain ⟨hlen, htree⟩ := hok
      obtain ⟨hnone, hin⟩ := hro rfl id (by simp only [AV.ids]; exact List.mem_singleton.2 rfl)
      have hlabc : ∀ b' q, lab b' = some (.obj id, q) → labC lab pl ro b' = none := by
        intro b' q hq; simp only [labC, hq, hnone, hin, if_true]
      have key : I w (labC lab pl ro) (.isl es (((nd.l.drop i).take len).map (·.map unown))) (.slice (some a) len cap) := by
        have hll : ((nd.l.drop i).take len).length = len := by simp; omega
        by_cases hz : len = 0
        · subst hz
          simp only [List.take_zero, List.map_nil]
          exact .esl _ _ _
        have ha : a = ⟨b, base + i * es, none⟩ := by rcases h2 with h | h; omega; exact h
        subst ha
        have hres := I.isl (w := w) (lab := labC lab pl ro) es (((nd.l.drop i).take len).map (·.map unown)) b (base + i * es) cap
          (fun i' j => (w.cell? ⟨b, base + i * es + i' * es + j, none⟩).getD undef) (hlabc b [] ho.hlab) ho.blk.lt (by rw [List.length_map, hll]; exact h1)
          (by
            intro c hc
            obtain ⟨c', hc', rfl⟩ := List.mem_map.1 hc
            rw [List.length_map, ← hes]
            exact ho.es c' (List.mem_of_mem_drop (List.mem_of_mem_take hc')))
          (by
            intro c hc x hx
            obtain ⟨c', hc', rfl⟩ := List.mem_map.1 hc
            obtain ⟨y, hy, rfl⟩ := List.mem_map.1 hx
            exact unown_plain (htree c' hc' y hy))
          (by
            intro m j hm hj
            rw [List.length_map, hll] at hm
            have hc : nd.l[i + m]? = some nd.l[i + m] := List.getElem?_eq_getElem (by omega)
            have hcl := ho.es _ (List.mem_of_getElem? hc)
            obtain ⟨v, hv, _⟩ := ho.cells (i + m) _ j _ hc (List.getElem?_eq_getElem (by omega))
            rw [hes, Nat.add_mul, ← Nat.add_assoc] at hv
            rw [hv]; rfl)
          (by
            intro m c j x hm hj
            simp only [List.getElem?_map, Option.map_eq_some_iff] at hm
            obtain ⟨c', hc', rfl⟩ := hm
            simp only [List.getElem?_map, Option.map_eq_some_iff] at hj
            obtain ⟨y, hy, rfl⟩ := hj
            have hml : m < len := by
              have := (List.getElem?_eq_some_iff.1 hc').1
              omega
            have hc2 : nd.l[i + m]? = some c' := by
              rw [List.getElem?_take, if_pos hml, List.getElem?_drop] at hc'; exact hc'
            obtain ⟨v, hv, hcv⟩ := ho.cells (i + m) c' j y hc2 hy
            rw [hes, Nat.add_mul, ← Nat.add_assoc] at hv
            simp only [hv, Option.getD_some]
            exact (hcv.tree (htree c' (List.mem_of_getElem? hc') y (List.mem_of_getElem? hy))).unown (fun b hb => labC_none hb) (fun b' q hq => hlabc b' _ hq))
        rw [List.length_map, hll] at hres
        exact hres
      exact ⟨.imm _ _ _ key, fun _ => key⟩
  · rename_i id es i j
    split at h <;> first | (cases h; done) | skip
    rename_i nd hnd
    split at h <;> first | (cases h; done) | skip
    rename_i hes
    obtain ⟨b, base, hl, ho⟩ := hn id nd hnd
    rw [hx.inv_ptr hl]
    split at h
    · split at h <;> first | (cases h; done) | skip
      rename_i c hc1
      split at h <;> first | (cases h; done) | cases h
      rename_i hij
      obtain ⟨rfl, rfl⟩ := hij
      have hlk := hp (id, (k, pre)) (by simp)
      have hlabc : ∀ b' q, lab b' = some (.obj id, q) → labC lab pl ro b' = some (.arg k, pre ++ q) := by
        intro b' q hq; simp only [labC, hq]; simp only at hlk; rw [hlk]
      have hcl : c.length = nd.es := ho.es c (by rw [hc1]; exact List.mem_singleton.2 rfl)
      have hblk := ho.blk
      rw [hc1] at hblk
      refine ⟨?_, fun h => by cases h⟩
      simp only [Nat.zero_mul, Nat.add_zero]
      refine .op _ c b base (fun j => (w.cell? ⟨b, base + j, none⟩).getD undef) ?_ (hblk.le (by simp; omega)) hok ?_ ?_
      · rw [hlabc b [] ho.hlab]; simp
      · intro j hj
        obtain ⟨v, hv, _⟩ := ho.cells 0 c j _ (by rw [hc1]; rfl) (List.getElem?_eq_getElem hj)
        simp only [Nat.zero_mul, Nat.add_zero] at hv
        rw [hv]; rfl
      · intro j x hj
        obtain ⟨v, hv, hcv⟩ := ho.cells 0 c j x (by rw [hc1]; rfl) hj
        simp only [Nat.zero_mul, Nat.add_zero] at hv
        simp only [hv, Option.getD_some]
        refine (hcv.tree (hok x (List.mem_of_getElem? hj))).move (fun b _ hb => ⟨labC_none hb, rfl⟩) ?_ (Nat.le_refl _)
        intro b' q _ hq
        refine ⟨?_, rfl⟩
        rw [hlabc b' _ hq]
        simp [Lab.app, Lab.down]
    · cases h
      obtain ⟨hi, hj, htree⟩ := hok
      obtain ⟨hnone, hin⟩ := hro rfl id (by simp only [AV.ids]; exact List.mem_singleton.2 rfl)
      have hlabc : ∀ b' q, lab b' = some (.obj id, q) → labC lab pl ro b' = none := by
        intro b' q hq; simp only [labC, hq, hnone, hin, if_true]
      have hci : nd.l[i]? = some (nd.l.getD i []) := getD_lt hi
      have hcl : (nd.l.getD i []).length = es := by rw [← hes]; exact ho.es _ (List.mem_of_getElem? hci)
      have key : I w (labC lab pl ro) (.ip (((nd.l.getD i []).drop j).map unown)) (.pointer (some ⟨b, base + i * es + j, none⟩)) := by
        refine .ip _ b (base + i * es + j) (fun m => (w.cell? ⟨b, base + i * es + j + m, none⟩).getD undef) (hlabc b [] ho.hlab) ho.blk.lt ?_ ?_
        · intro m hm
          rw [List.length_map, List.length_drop] at hm
          obtain ⟨v, hv, _⟩ := ho.cells i _ (j + m) _ hci (List.getElem?_eq_getElem (by omega))
          rw [hes, ← Nat.add_assoc] at hv
          rw [hv]; rfl
        · intro m x hm
          simp only [List.getElem?_map, Option.map_eq_some_iff] at hm
          obtain ⟨y, hy, rfl⟩ := hm
          have hy2 := hy
          rw [List.getElem?_drop] at hy2
          obtain ⟨v, hv, hcv⟩ := ho.cells i _ (j + m) y hci hy2
          rw [hes, ← Nat.add_assoc] at hv
          simp only [hv, Option.getD_some]
          exact (hcv.tree (htree y (List.mem_of_getElem? hy))).unown (fun b hb => labC_none hb) (fun b' q hq => hlabc b' _ hq)
      exact ⟨.imm _ _ _ key, fun _ => key⟩
  all_goals first
    | (cases h; done)
    | (cases h
       cases hx with
       | imm _ _ hi => exact hsc _ hi)
include hn in
theorem frzL_sound {own : Bool} {k : Nat} {pre : Nat → List (Nat × Nat)} : ∀ (xs : List AV) (vs : List Value) (j : Nat) (ts : List AV) (p : PlanI) (ok : Prop), frzL nodes own k pre j xs = some (ts, p, ok) → ok →
    xs.length = vs.length → (∀ (i : Nat) x v, xs[i]? = some x → vs[i]? = some v → V w lab loc x v) → (∀ e ∈ p, look e.1 pl = some e.2) → (own = false → ∀ id ∈ idsL xs, look id pl = none ∧ id ∈ ro) →
    ts.length = vs.length ∧ ∀ (i : Nat) t v, ts[i]? = some t → vs[i]? = some v → T w (labC lab pl ro) (.arg k, pre (j + i)) t v ∧ (own = false → I w (labC lab pl ro) t v) := by
  intro xs
  induction xs with
  | nil =>
    intro vs j ts p ok h _ hl _ _ _
    simp [frzL] at h
    obtain ⟨rfl, _, _⟩ := h
    exact ⟨hl, by intro i t v hi; simp at hi⟩
  | cons x xs ih =>
    intro vs j ts p ok h hok hl hv hp hro
    simp only [frzL] at h
    split at h <;> first | (cases h; done) | cases h
    rename_i t p1 ok1 ts' ps oks h1 h2
    cases vs with
    | nil => simp at hl
    | cons v vs =>
      obtain ⟨hk1, hk2⟩ := hok
      have hA := frz0_sound hn h1 hk1 (hv 0 x v rfl rfl) (fun e he => hp e (List.mem_append_left _ he)) (fun ho id hid => hro ho id (by simp only [idsL]; exact List.mem_append_left _ hid))
      obtain ⟨hB1, hB2⟩ := ih vs (j + 1) ts' ps oks h2 hk2 (by simpa using hl) (fun i y u hy hu => hv (i + 1) y u (by simpa using hy) (by simpa using hu))
        (fun e he => hp e (List.mem_append_right _ he)) (fun ho id hid => hro ho id (by simp only [idsL]; exact List.mem_append_right _ hid))
      refine ⟨by simp [hB1], ?_⟩
      intro i t' v' ht hv'
      cases i with
      | zero => simp at ht hv'; subst ht; subst hv'; exact hA
      | succ i =>
        have := hB2 i t' v' (by simpa using ht) (by simpa using hv')
        rw [show j + 1 + i = j + (i + 1) by omega] at this
        exact this
include hn in
theorem frz_sound {own : Bool} {k : Nat} {x t : AV} {p : PlanI} {ok : Prop} (h : frz nodes own k x = some (t, p, ok)) (hok : ok)
    {v : Value} (hx : V w lab loc x v) (hp : ∀ e ∈ p, look e.1 pl = some e.2) (hro : own = false ∨ (∃ f cs, x = .fn f cs) → ∀ id ∈ x.ids, look id pl = none ∧ id ∈ ro) :
    T w (labC lab pl ro) (.arg k, []) t v := by
  unfold frz at h
  split at h
  · rename_i cs
    split at h <;> first | (cases h; done) | cases h
    rename_i ts ps h1
    obtain ⟨vs, rfl, hl, hr⟩ := hx.inv_agg
    obtain ⟨h2, h3⟩ := frzL_sound hn cs vs 0 _ _ _ h1 hok hl hr hp (fun ho id hid => hro (Or.inl ho) id (by simpa [AV.ids] using hid))
    refine .agg _ _ _ h2 ?_
    intro j y u hy hu
    have := (h3 j y u hy hu).1
    simpa [Lab.down] using this
  · rename_i f cs
    split at h <;> first | (cases h; done) | cases h
    rename_i ts ps okk h1
    obtain ⟨vs, rfl, hl, hr⟩ := hx.inv_fn
    obtain ⟨h2, h3⟩ := frzL_sound (pl := pl) (ro := ro) hn cs vs 0 _ _ _ h1 hok hl hr (by
      have key : ∀ (xs : List AV) (j : Nat) ts ps ok, frzL nodes false k (fun _ => []) j xs = some (ts, ps, ok) → ps = [] := by
        intro xs
        induction xs with
        | nil => intro j ts ps ok h; simp [frzL] at h; exact h.2.1
        | cons y ys ih =>
          intro j ts ps ok h
          simp only [frzL] at h
          split at h <;> first | (cases h; done) | cases h
          rename_i t p1 ok1 ts' ps' oks h1 h2
          have e1 : p1 = [] := by
            unfold frz0 at h1
            split at h1
            · split at h1 <;> first | (cases h1; done) | skip
              split at h1 <;> first | (cases h1; done) | (cases h1; rfl)
            · split at h1 <;> first | (cases h1; done) | skip
              split at h1 <;> first | (cases h1; done) | (cases h1; rfl)
            all_goals first | (cases h1; rfl) | (cases h1; done)
          rw [e1, ih _ _ _ _ h2]; rfl
      rw [key cs 0 _ _ _ h1]
      intro e he; cases he) (fun _ id hid => hro (Or.inr ⟨f, cs, rfl⟩) id (by simpa [AV.ids] using hid))
    refine .imm _ _ _ (.fn f _ vs h2 ?_)
    intro j y u hy hu
    exact (h3 j y u hy hu).2 rfl
  · exact (frz0_sound hn h hok hx hp (fun ho => hro (Or.inl ho))).1
end snd
end Go.AM
