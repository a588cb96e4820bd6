/- The abstract machine, part 4: the operations that read: addresses, loads, slices, lengths. -/
import Derived.Test.YtefkpiameojpoaaAm3
set_option linter.unusedVariables false
set_option linter.unusedSimpArgs false
namespace Go.AM

theorem getD_lt {α : Type} {l : List α} {i : Nat} {d : α} (h : i < l.length) : l[i]? = some (l.getD i d) := by simp [List.getD, h]

theorem T.inv_plain {w : World} {lab : Labs} {p : Lab} {x : AV} {v : Value} (h : T w lab p x v) (hx : x.plain = true) : I w lab x v := by
  cases h with
  | imm _ _ _ h => exact h
  | osl => simp [AV.plain] at hx
  | op => simp [AV.plain] at hx
  | agg => simp [AV.plain] at hx
  | tup => simp [AV.plain] at hx

theorem Cell.inv_plain {w : World} {lab : Labs} {loc : Locs} {p : Lab} {x : AV} {v : Value} (h : Cell w lab loc p x v) (hx : x.plain = true) : V w lab loc x v := by
  rcases h with h | h
  · exact h
  · exact .imm _ _ (h.inv_plain hx)

def unA (u : UnOp) : AV → Option (AV × Prop)
  | .bool b => match u with | .not => some (.bool (!b), True) | _ => none
  | .int k n => match u with | .neg => some (.int k (k.wrap (0 - n)), True) | _ => none
  | _ => none

def indexA (ti : TI) (t : Nat) : AV → AV → Option (AV × Prop)
  | .str s, .int _ i => match tkind ti t with
    | .str => some (.int .u8 (s.getD i.toNat 0).toNat, 0 ≤ i ∧ i < s.length)
    | _ => none
  | _, _ => none

def esize (ti : TI) (t : Nat) : Option Nat :=
  match tkind ti t with
  | .slice e => (ti e).map (·.size)
  | _ => none

def indexAddrA (ti : TI) (nodes : Nat → Option Node) (t : Nat) : AV → AV → Option (AV × Prop)
  | .isl es l, .int _ i => if esize ti t = some es then some (.ip (l.getD i.toNat []), 0 ≤ i ∧ i < l.length) else none
  | .sl id es i0 len, .int _ i => match nodes id with
    | some _ => if esize ti t = some es then some (.ptr id es (i0 + i.toNat) 0, 0 ≤ i ∧ i < len) else none
    | none => none
  | _, _ => none

/-- a field's offset and type: its type has cells -/
def fieldOf (ti : TI) (s f : Nat) : Option (Nat × Nat × TInfo) :=
  match tkind ti s with
  | .struct fs => match fs[f]? with
    | some (o, ft) => match ti ft with
      | some fi => if fi.size = 0 then none else some (o, ft, fi)
      | none => none
    | none => none
  | _ => none

def fieldAddrA (ti : TI) (nodes : Nat → Option Node) (s f : Nat) : AV → Option (AV × Prop)
  | .ip l => match fieldOf ti s f with
    | some (o, _, _) => some (.ip (l.drop o), True)
    | none => none
  | .ptr id es i j => match nodes id, fieldOf ti s f with
    | some _, some (o, _, _) => some (.ptr id es i (j + o), True)
    | _, _ => none
  | _ => none

def fieldA (ti : TI) (s f : Nat) : AV → Option (AV × Prop)
  | .agg cs => match fieldOf ti s f with
    | some (o, _, fi) => match fi.kind.agg with
      | some true => some (.agg ((cs.drop o).take fi.size), True)
      | some false => some (cs.getD o .undef, o < cs.length)
      | none => none
    | none => none
  | _ => none

def loadA (ti : TI) (nodes : Nat → Option Node) (t : Nat) : AV → Option (AV × Prop)
  | .ip l => match ti t with
    | some i => match i.kind.agg with
      | some true => some (.agg (l.take i.size), i.size ≤ l.length)
      | some false => some (l.getD 0 .undef, 0 < l.length)
      | none => none
    | none => none
  | .ptr id es i j => match nodes id, ti t with
    | some nd, some ty => if nd.es = es then match ty.kind.agg with
      | some true => some (.agg (((nd.l.getD i []).drop j).take ty.size), i < nd.l.length ∧ j + ty.size ≤ es ∧ (((nd.l.getD i []).drop j).take ty.size).all AV.plain = true)
      | some false => some ((nd.l.getD i []).getD j .undef, i < nd.l.length ∧ j < es ∧ ((nd.l.getD i []).getD j .undef).plain = true)
      | none => none else none
    | _, _ => none
  | _ => none

def extractA (i : Nat) : AV → Option (AV × Prop)
  | .tup vs => some (vs.getD i .undef, i < vs.length)
  | _ => none

def lenA (ti : TI) (nodes : Nat → Option Node) (t : Nat) : AV → Option (AV × Prop)
  | .str s => match tkind ti t with | .str => some (.int .i64 s.length, True) | _ => none
  | .isl _ l => match tkind ti t with | .slice _ => some (.int .i64 l.length, True) | _ => none
  | .nils | .zsl => match tkind ti t with | .slice _ => some (.int .i64 0, True) | _ => none
  | .sl id _ _ len => match tkind ti t, nodes id with | .slice _, some _ => some (.int .i64 len, True) | _, _ => none
  | _ => none

def capA (ti : TI) (t : Nat) : AV → Option (AV × Prop)
  | .nils | .zsl => match tkind ti t with | .slice _ => some (.int .i64 0, True) | _ => none
  | _ => none

def encB (s : List UInt8) : List (List AV) := s.map fun b => [.int .u8 b.toNat]
def byteOfCell : List AV → Option UInt8
  | [.int .u8 n] => if 0 ≤ n ∧ n < 256 then some (UInt8.ofNat n.toNat) else none
  | _ => none
def decB (l : List (List AV)) : Option (List UInt8) := l.mapM byteOfCell

theorem decB_encB (s : List UInt8) : decB (encB s) = some s := by
  unfold decB encB
  induction s with
  | nil => rfl
  | cons b s ih =>
    have : byteOfCell [.int .u8 b.toNat] = some b := by
      have := b.toNat_lt
      simp [byteOfCell]; omega
    simp only [List.map_cons, List.mapM_cons, this, ih]; rfl

section snd
variable {P : Program} {ti : TI} (hT : TOk P ti) {w : World} {lab : Labs} {loc : Locs} {nodes : Nat → Option Node}
  (hn : ∀ id nd, nodes id = some nd → ∃ b base, loc id = some (b, base) ∧ ObjOk w lab loc id nd b base)

theorem unA_sound {u : UnOp} {x z : AV} {ok : Prop} (h : unA u x = some (z, ok)) {vx : Value} (hx : V w lab loc x vx) :
    ∃ v, (Op.unary u vx).run P w = .ok v w ∧ V w lab loc z v := by
  unfold unA at h
  split at h
  · split at h <;> first | (cases h; done) | cases h
    rw [hx.inv_bool]; exact ⟨_, by simp [Op.unary], V.bool _⟩
  · split at h <;> first | (cases h; done) | cases h
    rw [hx.inv_int]; exact ⟨_, by simp [Op.unary, Op.intArith], V.int _ _⟩
  · cases h

include hT in
theorem indexA_sound {t : Nat} {x y z : AV} {ok : Prop} (h : indexA ti t x y = some (z, ok)) (hok : ok) {vx vy : Value} (hx : V w lab loc x vx) (hy : V w lab loc y vy) :
    ∃ v, (Instr.index t vx vy).run P w = .ok v w ∧ V w lab loc z v := by
  unfold indexA at h
  split at h
  · rename_i s k i
    have hk := tkind_ok hT t
    split at h <;> first | (cases h; done) | cases h
    rename_i hk'
    rw [hk'] at hk
    rw [hx.inv_str, hy.inv_int]
    obtain ⟨h0, h1⟩ := hok
    have hlt : i.toNat < s.length := by omega
    refine ⟨.int .u8 (s.getD i.toNat 0).toNat, ?_, V.int _ _⟩
    have hg : (⟨s.toArray⟩ : ByteArray)[i.toNat]? = some s[i.toNat] := by
      have hz : i.toNat < (⟨s.toArray⟩ : ByteArray).size := by simpa [ByteArray.size] using hlt
      exact getElem?_pos (⟨s.toArray⟩ : ByteArray) i.toNat hz
    simp [Instr.index, asIntOf, run_underlying hk, h0, hg, List.getD, hlt]
  · cases h

include hT hn in
theorem indexAddrA_sound {t : Nat} {x y z : AV} {ok : Prop} (h : indexAddrA ti nodes t x y = some (z, ok)) (hok : ok) {vx vy : Value} (hx : V w lab loc x vx) (hy : V w lab loc y vy) :
    ∃ v, (Instr.indexAt t vx vy).run P w = .ok v w ∧ V w lab loc z v := by
  have key : ∀ es, esize ti t = some es → ∃ e, P.underlying t = some (.slice e) ∧ (sizeOf e).run P w = .ok es w := by
    intro es he
    unfold esize at he
    have hk := tkind_ok hT t
    split at he
    · rename_i e hk'
      rw [hk'] at hk
      cases hi : ti e with
      | none => simp [hi] at he
      | some i => simp [hi] at he; subst he; exact ⟨e, hk, t_sizeOf hT hi w⟩
    · cases he
  unfold indexAddrA at h
  split at h
  · rename_i es l k i
    split at h <;> first | (cases h; done) | cases h
    rename_i he
    obtain ⟨e, hu, hs⟩ := key es he
    rw [hy.inv_int]
    obtain ⟨h0, h1⟩ := hok
    have hlt : i.toNat < l.length := by omega
    cases hx.inv_isl with
    | esl => simp at hlt
    | nsl => simp at hlt
    | isl _ _ b off cap vals hb hsz hc hes hp hv hr =>
      refine ⟨.pointer (some ⟨b, off + i.toNat * es, none⟩), ?_, ?_⟩
      · simp [Instr.indexAt, asIntOf, run_underlying hu, hs, h0, h1, addr_add]
      · have hl : l[i.toNat]? = some (l.getD i.toNat []) := by simp [List.getD, hlt]
        have hln : (l.getD i.toNat []).length = es := hes _ (List.mem_of_getElem? hl)
        refine .imm _ _ (.ip _ b _ (fun j => vals i.toNat j) hb hsz ?_ ?_)
        · intro j hj; exact hv i.toNat j hlt (by omega)
        · intro j x hj; exact hr i.toNat _ j x hl hj
  · rename_i id es i0 len k i
    split at h <;> first | (cases h; done) | skip
    rename_i nd hnd
    split at h <;> first | (cases h; done) | cases h
    rename_i he
    obtain ⟨e, hu, hs⟩ := key es he
    rw [hy.inv_int]
    obtain ⟨h0, h1⟩ := hok
    obtain ⟨b, base, hl, _⟩ := hn id nd hnd
    obtain ⟨a, cap, rfl, h2, h3, _⟩ := hx.inv_sl hl
    have ha : a = ⟨b, base + i0 * es, none⟩ := by rcases h3 with h3 | h3 <;> first | exact h3 | omega
    subst ha
    refine ⟨.pointer (some ⟨b, base + i0 * es + i.toNat * es, none⟩), ?_, ?_⟩
    · simp [Instr.indexAt, asIntOf, run_underlying hu, hs, h0, h1, addr_add]
    · refine .ptr _ _ _ _ _ fun b' base' hl' => ?_
      rw [hl] at hl'; cases hl'
      simp [Nat.add_mul, Nat.add_assoc]
  · cases h

include hT in
theorem fieldOf_sound {s f o ft : Nat} {fi : TInfo} (h : fieldOf ti s f = some (o, ft, fi)) :
    ∃ (fields : Array Field) (fd : Field), P.underlying s = some (.struct fields) ∧ fields[f]? = some fd ∧ fd.offset = o ∧ fd.type = ft ∧ ti ft = some fi ∧ fi.size ≠ 0 := by
  unfold fieldOf at h
  have hk := tkind_ok hT s
  split at h <;> first | (cases h; done) | skip
  rename_i fs hk'
  rw [hk'] at hk
  obtain ⟨fields, hu, hf⟩ := hk
  split at h <;> first | (cases h; done) | skip
  rename_i o' ft' hf'
  split at h <;> first | (cases h; done) | skip
  rename_i fi' hi
  split at h <;> first | (cases h; done) | cases h
  rename_i hne
  rw [← hf] at hf'
  simp only [List.getElem?_map, Option.map_eq_some_iff, Prod.mk.injEq] at hf'
  obtain ⟨fd, h1, h2, h3⟩ := hf'
  exact ⟨fields, fd, hu, by simpa using h1, h2, h3, hi, hne⟩

include hT hn in
theorem fieldAddrA_sound {s f : Nat} {x z : AV} {ok : Prop} (h : fieldAddrA ti nodes s f x = some (z, ok)) {vx : Value} (hx : V w lab loc x vx) :
    ∃ v, (Instr.fieldAt s vx f).run P w = .ok v w ∧ V w lab loc z v := by
  unfold fieldAddrA at h
  split at h
  · rename_i l
    split at h <;> first | (cases h; done) | cases h
    rename_i o ft fi hf
    obtain ⟨fields, fd, hu, h1, h2, h3, h4, h5⟩ := fieldOf_sound hT hf
    cases hx.inv_ip with
    | ip _ b off vals hb hs hv hr =>
      refine ⟨.pointer (some ⟨b, off + o, none⟩), ?_, ?_⟩
      · have hz := t_sizeOf hT h4 w
        simp [Instr.fieldAt, run_underlying hu, h1, Instr.sureAddr, fieldPlace, h3, hz, h5, h2, addr_add]
      · refine .imm _ _ (.ip _ b (off + o) (fun j => vals (o + j)) hb hs ?_ ?_)
        · intro j hj
          have := hv (o + j) (by simp at hj; omega)
          rw [← Nat.add_assoc] at this; exact this
        · intro j x hj
          rw [List.getElem?_drop] at hj
          exact hr (o + j) x hj
  · rename_i id es i j
    split at h <;> first | (cases h; done) | cases h
    rename_i nd o ft fi hnd hf
    obtain ⟨fields, fd, hu, h1, h2, h3, h4, h5⟩ := fieldOf_sound hT hf
    obtain ⟨b, base, hl, _⟩ := hn id nd hnd
    rw [hx.inv_ptr hl]
    refine ⟨.pointer (some ⟨b, base + i * es + j + o, none⟩), ?_, ?_⟩
    · have hz := t_sizeOf hT h4 w
      simp [Instr.fieldAt, run_underlying hu, h1, Instr.sureAddr, fieldPlace, h3, hz, h5, h2, addr_add]
    · refine .ptr _ _ _ _ _ fun b' base' hl' => ?_
      rw [hl] at hl'; cases hl'
      simp [Nat.add_assoc]
  · cases h

include hT in
theorem fieldA_sound {s f : Nat} {x z : AV} {ok : Prop} (h : fieldA ti s f x = some (z, ok)) (hok : ok) {vx : Value} (hx : V w lab loc x vx) :
    ∃ v, (Instr.field s vx f).run P w = .ok v w ∧ V w lab loc z v := by
  unfold fieldA at h
  split at h <;> first | (cases h; done) | skip
  rename_i cs
  split at h <;> first | (cases h; done) | skip
  rename_i o ft fi hf
  obtain ⟨fields, fd, hu, h1, h2, h3, h4, h5⟩ := fieldOf_sound hT hf
  obtain ⟨vs, rfl, hl, hr⟩ := hx.inv_agg
  split at h <;> first | (cases h; done) | cases h
  · rename_i ha
    refine ⟨.agg ⟨(vs.drop o).take fi.size⟩, ?_, ?_⟩
    · have hz := t_sizeOf hT h4 w
      have hg := t_isAgg hT h4 ha w
      simp [Instr.field, run_underlying hu, h1, asAgg, part, h3, h2, hg, hz, List.take_drop]
    · refine .agg _ _ (by simp [hl]) ?_
      intro j x y hx hy
      rw [List.getElem?_take] at hx hy
      split at hx <;> first | (cases hx; done) | skip
      rename_i hj
      rw [if_pos hj] at hy
      rw [List.getElem?_drop] at hx hy
      exact hr _ x y hx hy
  · rename_i ha
    have ho : o < vs.length := by rw [← hl]; exact hok
    refine ⟨vs[o], ?_, ?_⟩
    · have hg := t_isAgg hT h4 ha w
      simp [Instr.field, run_underlying hu, h1, asAgg, part, h3, h2, hg, ho]
    · have h1 : cs[o]? = some (cs.getD o .undef) := by
        have : o < cs.length := hok
        simp [List.getD, this]
      exact hr o _ _ h1 (by simp [ho])

include hT hn in
theorem loadA_sound {t : Nat} {x z : AV} {ok : Prop} (h : loadA ti nodes t x = some (z, ok)) (hok : ok) {vx : Value} (hx : V w lab loc x vx) :
    ∃ v, (Instr.loadAt t vx).run P w = .ok v w ∧ V w lab loc z v := by
  unfold loadA at h
  split at h
  · rename_i l
    split at h <;> first | (cases h; done) | skip
    rename_i i hi
    cases hx.inv_ip with
    | ip _ b off vals hb hs hv hr =>
      split at h <;> first | (cases h; done) | cases h
      · rename_i ha
        have hz := t_sizeOf hT hi w
        have hg := t_isAgg hT hi ha w
        have hld := run_loadCells (P := P) w ⟨b, off, none⟩ i.size vals (fun j hj => by rw [addr_add]; exact hv j (by omega))
        refine ⟨.agg ⟨(List.range i.size).map vals⟩, by simp [Instr.loadAt, Instr.sureAddr, loadVar, hg, hz, hld], ?_⟩
        refine .imm _ _ (.agg _ _ (by simp; omega) ?_)
        intro j x y hx hy
        rw [List.getElem?_take] at hx
        split at hx <;> first | (cases hx; done) | skip
        rename_i hj
        simp [hj] at hy
        subst hy
        exact hr j x hx
      · rename_i ha
        have hg := t_isAgg hT hi ha w
        have hc := hv 0 hok
        refine ⟨vals 0, by simp at hc; simp [Instr.loadAt, Instr.sureAddr, loadVar, hg, hc], ?_⟩
        exact .imm _ _ (hr 0 _ (by have : 0 < l.length := hok; simp [List.getD, this]))
  · rename_i id es i j
    split at h <;> first | (cases h; done) | skip
    rename_i nd ty hnd hi
    split at h <;> first | (cases h; done) | skip
    rename_i hes
    obtain ⟨b, base, hl, ho⟩ := hn id nd hnd
    rw [hx.inv_ptr hl]
    split at h <;> first | (cases h; done) | cases h
    · rename_i ha
      obtain ⟨h1, h2, h3⟩ := hok
      have hz := t_sizeOf hT hi w
      have hg := t_isAgg hT hi ha w
      have hci : nd.l[i]? = some (nd.l.getD i []) := by simp [List.getD, h1]
      have hlen : (nd.l.getD i []).length = es := by rw [← hes]; exact ho.es _ (List.mem_of_getElem? hci)
      have hcell : ∀ k, k < ty.size → ∃ v, w.cell? ⟨b, base + i * es + j + k, none⟩ = some v ∧ V w lab loc ((nd.l.getD i []).getD (j + k) .undef) v := by
        intro k hk
        have hk2 : (nd.l.getD i [])[j + k]? = some ((nd.l.getD i []).getD (j + k) .undef) := by
          have hlt : j + k < (nd.l.getD i []).length := by omega
          exact getD_lt hlt
        obtain ⟨v, hv, hcv⟩ := ho.cells i _ (j + k) _ hci hk2
        refine ⟨v, by rw [hes, ← Nat.add_assoc] at hv; exact hv, hcv.inv_plain ?_⟩
        rw [List.all_eq_true] at h3
        apply h3
        rw [List.mem_iff_getElem?]
        exact ⟨k, by rw [List.getElem?_take, if_pos hk, List.getElem?_drop]; exact hk2⟩
      let f : Nat → Value := fun k => (w.cell? ⟨b, base + i * es + j + k, none⟩).getD undef
      have hld := run_loadCells (P := P) w ⟨b, base + i * es + j, none⟩ ty.size f (fun k hk => by
        obtain ⟨v, hv, _⟩ := hcell k hk
        rw [addr_add]; simp only [f, hv]; rfl)
      refine ⟨.agg ⟨(List.range ty.size).map f⟩, by simp [Instr.loadAt, Instr.sureAddr, loadVar, hg, hz, hld], ?_⟩
      have hlen2 : (nd.l[i]?.getD []).length = es := by rw [← List.getD_eq_getElem?_getD]; exact hlen
      refine .agg _ _ (by simp; omega) ?_
      intro k x y hx hy
      rw [List.getElem?_take] at hx
      split at hx <;> first | (cases hx; done) | skip
      rename_i hk
      rw [List.getElem?_drop] at hx
      simp [hk] at hy
      subst hy
      obtain ⟨v, hv, hcv⟩ := hcell k hk
      have : (nd.l.getD i []).getD (j + k) .undef = x := by unfold List.getD; unfold List.getD at hx; rw [hx]; rfl
      rw [this] at hcv
      simp only [f, hv]; exact hcv
    · rename_i ha
      obtain ⟨h1, h2, h3⟩ := hok
      have hg := t_isAgg hT hi ha w
      have hci : nd.l[i]? = some (nd.l.getD i []) := by simp [List.getD, h1]
      have hlen : (nd.l.getD i []).length = es := by rw [← hes]; exact ho.es _ (List.mem_of_getElem? hci)
      have hk2 : (nd.l.getD i [])[j]? = some ((nd.l.getD i []).getD j .undef) := by
        have hlt : j < (nd.l.getD i []).length := by omega
        exact getD_lt hlt
      obtain ⟨v, hv, hcv⟩ := ho.cells i _ j _ hci hk2
      rw [hes] at hv
      refine ⟨v, by simp [Instr.loadAt, Instr.sureAddr, loadVar, hg, hv], hcv.inv_plain h3⟩
  · cases h

theorem extractA_sound {i : Nat} {x z : AV} {ok : Prop} (h : extractA i x = some (z, ok)) (hok : ok) {vx : Value} (hx : V w lab loc x vx) :
    ∃ v, (Instr.extract vx i).run P w = .ok v w ∧ V w lab loc z v := by
  unfold extractA at h
  split at h <;> first | (cases h; done) | cases h
  rename_i vs
  obtain ⟨us, rfl, hl, hr⟩ := hx.inv_tup
  have hi : i < us.length := by rw [← hl]; exact hok
  have h2 : vs[i]? = some (vs.getD i .undef) := by have : i < vs.length := hok; simp [List.getD, this]
  exact ⟨us[i], by simp [Instr.extract, hi], hr i _ _ h2 (by simp [hi])⟩

include hT hn in
theorem lenA_sound {t ty : Nat} {x z : AV} {ok : Prop} (h : lenA ti nodes t x = some (z, ok)) {vx : Value} (hx : V w lab loc x vx) :
    ∃ v, (Builtin.len_ #[t] ty #[vx]).run P w = .ok v w ∧ V w lab loc z v := by
  have hk := tkind_ok hT t
  unfold lenA at h
  split at h
  · split at h <;> first | (cases h; done) | cases h
    rename_i hk'; rw [hk'] at hk
    rw [hx.inv_str]
    refine ⟨_, by simp [Builtin.len_, run_underlying hk]; rfl, ?_⟩
    simp [goInt, ByteArray.size]; exact V.int _ _
  · split at h <;> first | (cases h; done) | cases h
    rename_i hk'; rw [hk'] at hk
    cases hx.inv_isl with
    | esl => exact ⟨_, by simp [Builtin.len_, run_underlying hk]; rfl, V.int _ _⟩
    | nsl => exact ⟨_, by simp [Builtin.len_, run_underlying hk]; rfl, V.int _ _⟩
    | isl => exact ⟨_, by simp [Builtin.len_, run_underlying hk]; rfl, V.int _ _⟩
  · split at h <;> first | (cases h; done) | cases h
    rename_i hk'; rw [hk'] at hk
    rw [hx.inv_nils]
    exact ⟨_, by simp [Builtin.len_, run_underlying hk]; rfl, V.int _ _⟩
  · split at h <;> first | (cases h; done) | cases h
    rename_i hk'; rw [hk'] at hk
    obtain ⟨a, rfl⟩ := hx.inv_zsl
    exact ⟨_, by simp [Builtin.len_, run_underlying hk]; rfl, V.int _ _⟩
  · split at h <;> first | (cases h; done) | cases h
    rename_i nd hk' hnd; rw [hk'] at hk
    obtain ⟨b, base, hl, _⟩ := hn _ nd hnd
    obtain ⟨a, cap, rfl, _⟩ := hx.inv_sl hl
    exact ⟨_, by simp [Builtin.len_, run_underlying hk]; rfl, V.int _ _⟩
  · cases h

include hT in
theorem capA_sound {t ty : Nat} {x z : AV} {ok : Prop} (h : capA ti t x = some (z, ok)) {vx : Value} (hx : V w lab loc x vx) :
    ∃ v, (Builtin.cap_ #[t] ty #[vx]).run P w = .ok v w ∧ V w lab loc z v := by
  have hk := tkind_ok hT t
  unfold capA at h
  split at h
  · split at h <;> first | (cases h; done) | cases h
    rename_i hk'; rw [hk'] at hk
    rw [hx.inv_nils]
    exact ⟨_, by simp [Builtin.cap_, run_underlying hk]; rfl, V.int _ _⟩
  · split at h <;> first | (cases h; done) | cases h
    rename_i hk'; rw [hk'] at hk
    obtain ⟨a, rfl⟩ := hx.inv_zsl
    exact ⟨_, by simp [Builtin.cap_, run_underlying hk]; rfl, V.int _ _⟩
  · cases h
end snd

end Go.AM
