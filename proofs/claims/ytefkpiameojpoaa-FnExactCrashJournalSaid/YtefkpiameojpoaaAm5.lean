/- The abstract machine, part 5: slicing, conversions, built structs, min and max. -/
import Derived.Test.YtefkpiameojpoaaAm4
import Derived.Laws.BytesString
set_option linter.unusedVariables false
set_option linter.unusedSimpArgs false
namespace Go.AM

def intOf : Option AV → Int → Option Int
  | none, d => some d
  | some (.int _ n), _ => some n
  | _, _ => none

def sliceA (ti : TI) (nodes : Nat → Option Node) (t : Nat) (x : AV) (lo hi mx : Option AV) : Option (AV × Prop) :=
  match mx with
  | none => match x with
    | .str s => match tkind ti t, intOf lo 0, intOf hi s.length with
      | .str, some l, some h => some (.str ((s.take h.toNat).drop l.toNat), 0 ≤ l ∧ l ≤ h ∧ h ≤ s.length)
      | _, _, _ => none
    | .isl es c => match esize ti t, intOf lo 0, intOf hi c.length with
      | some es', some l, some h => if es' = es then some (.isl es ((c.take h.toNat).drop l.toNat), 0 ≤ l ∧ l ≤ h ∧ h ≤ c.length) else none
      | _, _, _ => none
    | .nils => match esize ti t, intOf lo 0, intOf hi (0 : Nat) with
      | some _, some l, some h => some (.nils, 0 ≤ l ∧ l ≤ h ∧ h ≤ (0 : Nat))
      | _, _, _ => none
    | .zsl => match esize ti t, intOf lo 0, intOf hi (0 : Nat) with
      | some _, some l, some h => some (.zsl, 0 ≤ l ∧ l ≤ h ∧ h ≤ (0 : Nat))
      | _, _, _ => none
    | .sl id es i len => match nodes id, esize ti t, intOf lo 0, intOf hi len with
      | some _, some es', some l, some h => if es' = es then some (.sl id es (i + l.toNat) (h.toNat - l.toNat), 0 ≤ l ∧ l ≤ h ∧ h ≤ len) else none
      | _, _, _, _ => none
    | _ => none
  | some (.int _ m) => match esize ti t, intOf lo 0, hi with
    | some _, some l, some (.int _ h) => match x with
      | .nils => some (.nils, l = 0 ∧ h = 0 ∧ m = 0)
      | .isl _ _ | .zsl => some (.zsl, l = 0 ∧ h = 0 ∧ m = 0)
      | .sl id _ _ _ => match nodes id with
        | some _ => some (.zsl, l = 0 ∧ h = 0 ∧ m = 0)
        | none => none
      | _ => none
    | _, _, _ => none
  | _ => none

def convA (ti : TI) (nodes : Nat → Option Node) (src dst : Nat) : AV → Option (AV × Prop)
  | .int _ n => match tkind ti src, tkind ti dst with
    | .int _, .int k => some (.int k (k.wrap n), True)
    | _, _ => none
  | .isl es l => match tkind ti src, tkind ti dst with
    | .slice e, .str => match tkind ti e, decB l with
      | .int .u8, some s => if es = 1 then some (.str s, True) else none
      | _, _ => none
    | _, _ => none
  | .nils | .zsl => match tkind ti src, tkind ti dst with
    | .slice e, .str => match tkind ti e with
      | .int .u8 => some (.str [], True)
      | _ => none
    | _, _ => none
  | .sl id es i len => match nodes id, tkind ti src, tkind ti dst with
    | some nd, .slice e, .str => match tkind ti e, decB ((nd.l.drop i).take len) with
      | .int .u8, some s => if es = 1 ∧ nd.es = 1 then some (.str s, i + len ≤ nd.l.length) else none
      | _, _ => none
    | _, _, _ => none
  | _ => none

def AV.cellsA : AV → List AV
  | .agg cs => cs
  | x => [x]

def okCell (nodes : Nat → Option Node) (x : AV) : Bool := x.plain && x.ids.all fun i => (nodes i).isSome

def isCells (nodes : Nat → Option Node) : AV → Bool
  | .agg _ => true
  | x => okCell nodes x

def fillA (nodes : Nat → Option Node) (place : Nat → Option (Nat × Nat)) : List AV → List (Nat × AV) → Option (List AV)
  | cells, [] => some cells
  | cells, (i, v) :: rest => match place i with
    | none => none
    | some (off, size) =>
      if isCells nodes v = true ∧ v.cellsA.length = size ∧ off + size ≤ cells.length then
        fillA nodes place (cells.take off ++ (v.cellsA ++ cells.drop (off + size))) rest
      else none

def placeOf (ti : TI) (t i : Nat) : Option (Nat × Nat) :=
  match tkind ti t with
  | .struct fs => match fs[i]? with
    | some (o, ft) => match ti ft with
      | some fi => some (o, fi.size)
      | none => none
    | none => none
  | _ => none

/-- all of a struct's fields are in the table -/
def allFields (ti : TI) (t : Nat) : Bool :=
  match tkind ti t with
  | .struct fs => fs.all fun p => (ti p.2).isSome
  | _ => false

def buildA (ti : TI) (nodes : Nat → Option Node) (t : Nat) (parts : List (Nat × AV)) : Option (AV × Prop) :=
  match ti t with
  | some i => match i.zero with
    | some z => if allFields ti t = true then
        match fillA nodes (placeOf ti t) z parts with
        | some cells => some (.agg cells, True)
        | none => none
      else none
    | none => none
  | none => none

def minmaxA (isMax : Bool) : AV → AV → Option (AV × Prop)
  | .int k x, .int k' y => if k = k' then some (.int k (if isMax then (if y > x then y else x) else (if y < x then y else x)), True) else none
  | _, _ => none

section snd
variable {P : Program} {ti : TI} (hT : TOk P ti) {w : World} {lab : Labs} {loc : Locs} {nodes : Nat → Option Node}
  (hn : ∀ id nd, nodes id = some nd → ∃ b base, loc id = some (b, base) ∧ ObjOk w lab loc id nd b base)

include hT in
theorem esize_sound {t es : Nat} (he : esize ti t = some es) : ∃ e, P.underlying t = some (.slice e) ∧ ∀ w, (sizeOf e).run P w = .ok es w := by
  unfold esize at he
  have hk := tkind_ok hT t
  split at he
  · rename_i e hk'
    rw [hk'] at hk
    cases hi : ti e with
    | none => simp [hi] at he
    | some i => simp [hi] at he; subst he; exact ⟨e, hk, fun w => t_sizeOf hT hi w⟩
  · cases he

theorem run_bound (k : IntKind) (i : Int) (y : Nat) (c : BoundsCode) (h0 : 0 ≤ i) (h1 : i ≤ y) : (Instr.sliceBound (.int k i) y c).run P w = .ok i.toNat w := by
  simp [Instr.sliceBound, asIntOf, h0, h1]

/-- an optional operand and its value -/
def OptV (w : World) (lab : Labs) (loc : Locs) (x : Option AV) (v : Option Value) : Prop :=
  (x = none ∧ v = none) ∨ ∃ y u, x = some y ∧ v = some u ∧ V w lab loc y u

theorem OptV.int {x : Option AV} {v : Option Value} (h : OptV w lab loc x v) {d n : Int} (hi : intOf x d = some n) :
    (v = none ∧ n = d) ∨ ∃ k, v = some (.int k n) := by
  rcases h with ⟨rfl, rfl⟩ | ⟨y, u, rfl, rfl, hv⟩
  · simp [intOf] at hi; exact Or.inl ⟨rfl, hi.symm⟩
  · cases y <;> simp [intOf] at hi
    subst hi
    exact Or.inr ⟨_, by rw [hv.inv_int]⟩

theorem run_bounds2 {isS : Bool} {len cap : Nat} {lo hi : Option AV} {vlo vhi : Option Value} {l h : Int} (hlo : OptV w lab loc lo vlo) (hhi : OptV w lab loc hi vhi)
    (hl : intOf lo 0 = some l) (hh : intOf hi len = some h) (h0 : 0 ≤ l) (h1 : l ≤ h) (h2 : h ≤ len) (h3 : len ≤ cap) :
    (Instr.sliceBounds isS len cap vlo vhi none).run P w = .ok (l.toNat, h.toNat, cap) w := by
  rcases hlo.int hl with ⟨rfl, rfl⟩ | ⟨k, rfl⟩ <;> rcases hhi.int hh with ⟨rfl, rfl⟩ | ⟨k', rfl⟩
  · simp [Instr.sliceBounds]
  · simp [Instr.sliceBounds, run_bound k' h cap _ (by omega) (by omega)]
  · simp [Instr.sliceBounds, run_bound k l len _ h0 (by omega)]
  · simp [Instr.sliceBounds, run_bound k' h cap _ (by omega) (by omega), run_bound k l h.toNat _ h0 (by omega)]

theorem run_bounds3 {isS : Bool} {len cap : Nat} {lo : Option AV} {vlo : Option Value} {k1 k2 : IntKind} {l : Int} (hlo : OptV w lab loc lo vlo)
    (hl : intOf lo 0 = some l) (h0 : l = 0) :
    (Instr.sliceBounds isS len cap vlo (some (.int k1 0)) (some (.int k2 0))).run P w = .ok (0, 0, 0) w := by
  subst h0
  rcases hlo.int hl with ⟨rfl, _⟩ | ⟨k, rfl⟩
  · simp [Instr.sliceBounds, run_bound k2 0 cap _ (by omega) (by omega), run_bound k1 0 0 _ (by omega) (by omega)]
  · simp [Instr.sliceBounds, run_bound k2 0 cap _ (by omega) (by omega), run_bound k1 0 0 _ (by omega) (by omega), run_bound k 0 0 _ (by omega) (by omega)]

theorem toArray_extract (s : List UInt8) (l h : Nat) (hl : l ≤ h) : (⟨s.toArray⟩ : ByteArray).extract l h = ⟨((s.take h).drop l).toArray⟩ := by
  apply ByteArray.ext
  rw [ByteArray.data_extract]
  simp [List.drop_take]

include hT in
/-- a slice of a slice: what the model answers -/
theorem run_slice2 {t es : Nat} (he : esize ti t = some es) {a : Option Addr} {len cap : Nat} {lo hi : Option AV} {vlo vhi : Option Value} {l h : Int}
    (hlo : OptV w lab loc lo vlo) (hhi : OptV w lab loc hi vhi) (hl : intOf lo 0 = some l) (hh : intOf hi len = some h) (h0 : 0 ≤ l) (h1 : l ≤ h) (h2 : h ≤ len) (h3 : len ≤ cap) :
    (Instr.sliceAt t (.slice a len cap) vlo vhi none).run P w = .ok (.slice (if cap = l.toNat then a else a.map (·.add (l.toNat * es))) (h.toNat - l.toNat) (cap - l.toNat)) w := by
  obtain ⟨e, hu, hs⟩ := esize_sound hT he
  have hb := run_bounds2 (P := P) (isS := true) hlo hhi hl hh h0 h1 h2 h3
  simp only [Instr.sliceAt, Instr.slice, Sem.run_bind, run_underlying (P := P) hu, Result.andThen_ok, hb, hs]
  rfl

include hT in
theorem run_slice3 {t es : Nat} (he : esize ti t = some es) {a : Option Addr} {len cap : Nat} {lo : Option AV} {vlo : Option Value} {k1 k2 : IntKind} {l : Int}
    (hlo : OptV w lab loc lo vlo) (hl : intOf lo 0 = some l) (h0 : l = 0) :
    (Instr.sliceAt t (.slice a len cap) vlo (some (.int k1 0)) (some (.int k2 0))).run P w = .ok (.slice (if 0 = 0 then a else a.map (·.add (0 * es))) (0 - 0) (0 - 0)) w := by
  obtain ⟨e, hu, hs⟩ := esize_sound hT he
  have hb := run_bounds3 (P := P) (isS := true) (len := len) (cap := cap) (k1 := k1) (k2 := k2) hlo hl h0
  simp only [Instr.sliceAt, Instr.slice, Sem.run_bind, run_underlying (P := P) hu, Result.andThen_ok, hb, hs]
  rfl

include hT hn in
theorem sliceA_sound {t : Nat} {x z : AV} {lo hi mx : Option AV} {ok : Prop} (h : sliceA ti nodes t x lo hi mx = some (z, ok)) (hok : ok) {vx : Value} {vlo vhi vmx : Option Value}
    (hx : V w lab loc x vx) (hlo : OptV w lab loc lo vlo) (hhi : OptV w lab loc hi vhi) (hmx : OptV w lab loc mx vmx) :
    ∃ v, (Instr.sliceAt t vx vlo vhi vmx).run P w = .ok v w ∧ V w lab loc z v := by
  unfold sliceA at h
  split at h
  · have hm : vmx = none := by rcases hmx with ⟨_, h⟩ | ⟨_, _, h, _⟩ <;> first | exact h | cases h
    subst hm
    split at h
    · rename_i s
      have hk := tkind_ok hT t
      split at h <;> first | (cases h; done) | cases h
      rename_i l h' hk' hl hh
      rw [hk'] at hk
      obtain ⟨h0, h1, h2⟩ := hok
      rw [hx.inv_str]
      have hz : (⟨s.toArray⟩ : ByteArray).size = s.length := by simp [ByteArray.size]
      have hb := run_bounds2 (P := P) (isS := false) (len := s.length) (cap := s.length) hlo hhi hl hh h0 h1 h2 (Nat.le_refl _)
      refine ⟨.string ((⟨s.toArray⟩ : ByteArray).extract l.toNat h'.toNat), ?_, ?_⟩
      · simp only [Instr.sliceAt, Instr.slice, Sem.run_bind, run_underlying (P := P) hk, Result.andThen_ok, Option.isSome_none, Bool.false_eq_true, if_false, hz, hb]
        rfl
      · rw [toArray_extract _ _ _ (by omega)]; exact V.str _
    · rename_i es c
      split at h <;> first | (cases h; done) | skip
      rename_i es' l h' he hl hh
      split at h <;> first | (cases h; done) | cases h
      rename_i hes
      subst hes
      obtain ⟨h0, h1, h2⟩ := hok
      cases hx.inv_isl with
      | esl _ a cap =>
        have hl0 : l.toNat = 0 := by simp at h2; omega
        have hh0 : h'.toNat = 0 := by simp at h2; omega
        refine ⟨_, run_slice2 hT he (len := 0) hlo hhi hl hh h0 h1 h2 (Nat.zero_le _), ?_⟩
        rw [hl0, hh0]
        simp only [Option.map_some, List.take_nil, List.drop_nil]
        split
        · exact .imm _ _ (.esl _ _ _)
        · exact .imm _ _ (.esl _ _ _)
      | nsl =>
        have hl0 : l.toNat = 0 := by simp at h2; omega
        have hh0 : h'.toNat = 0 := by simp at h2; omega
        refine ⟨_, run_slice2 hT he (len := 0) (cap := 0) hlo hhi hl hh h0 h1 h2 (Nat.zero_le _), ?_⟩
        rw [hl0, hh0]
        exact .imm _ _ (.nsl _)
      | isl _ _ b off cap vals hb hsz hc hes hp hv hr =>
        refine ⟨_, run_slice2 hT he hlo hhi hl hh h0 h1 h2 hc, ?_⟩
        have hlen : ((c.take h'.toNat).drop l.toNat).length = h'.toNat - l.toNat := by simp; omega
        simp only [Option.map_some, addr_add]
        by_cases hz : h'.toNat - l.toNat = 0
        · have : (c.take h'.toNat).drop l.toNat = [] := List.eq_nil_of_length_eq_zero (by omega)
          rw [this, hz]
          split
          · exact .imm _ _ (.esl _ _ _)
          · exact .imm _ _ (.esl _ _ _)
        · rw [if_neg (by omega)]
          have hres := I.isl (w := w) (lab := lab) es' ((c.take h'.toNat).drop l.toNat) b (off + l.toNat * es') (cap - l.toNat) (fun i j => vals (l.toNat + i) j) hb hsz (by omega)
            (fun x hx => hes x (List.mem_of_mem_take (List.mem_of_mem_drop hx))) (fun x hx => hp x (List.mem_of_mem_take (List.mem_of_mem_drop hx)))
            (fun i j hi hj => by
              have := hv (l.toNat + i) j (by omega) hj
              rw [Nat.add_mul, ← Nat.add_assoc] at this; exact this)
            (fun i cc j x hi hj => by
              rw [List.getElem?_drop, List.getElem?_take] at hi
              split at hi <;> first | (cases hi; done) | skip
              exact hr _ cc j x hi hj)
          rw [hlen] at hres
          exact .imm _ _ hres
    · split at h <;> first | (cases h; done) | cases h
      rename_i es' l h' he hl hh
      obtain ⟨h0, h1, h2⟩ := hok
      have hl0 : l.toNat = 0 := by omega
      have hh0 : h'.toNat = 0 := by omega
      rw [hx.inv_nils]
      refine ⟨_, run_slice2 hT he (len := 0) (cap := 0) hlo hhi hl hh h0 h1 h2 (Nat.zero_le _), ?_⟩
      rw [hl0, hh0]
      exact .imm _ _ .nils
    · split at h <;> first | (cases h; done) | cases h
      rename_i es' l h' he hl hh
      obtain ⟨h0, h1, h2⟩ := hok
      have hl0 : l.toNat = 0 := by omega
      have hh0 : h'.toNat = 0 := by omega
      obtain ⟨a, rfl⟩ := hx.inv_zsl
      refine ⟨_, run_slice2 hT he (len := 0) (cap := 0) hlo hhi hl hh h0 h1 h2 (Nat.zero_le _), ?_⟩
      rw [hl0, hh0]
      exact .imm _ _ (.zsl _)
    · rename_i id es i len
      split at h <;> first | (cases h; done) | skip
      rename_i nd es' l h' hnd he hl hh
      split at h <;> first | (cases h; done) | cases h
      rename_i hes
      subst hes
      obtain ⟨h0, h1, h2⟩ := hok
      obtain ⟨b, base, hlc, _⟩ := hn id nd hnd
      obtain ⟨a, cap, rfl, h3, h4, h5⟩ := hx.inv_sl hlc
      refine ⟨_, run_slice2 hT he hlo hhi hl hh h0 h1 h2 h3, ?_⟩
      have key : ∀ a', (cap - l.toNat = 0 ∧ i + l.toNat ≠ 0 ∨ a' = (⟨b, base + (i + l.toNat) * es', none⟩ : Addr)) → V w lab loc (.sl id es' (i + l.toNat) (h'.toNat - l.toNat)) (.slice (some a') (h'.toNat - l.toNat) (cap - l.toNat)) := by
        intro a' ha'
        refine .sl _ _ _ _ _ fun b' base' hl' => ?_
        rw [hlc] at hl'; cases hl'
        exact ⟨a', _, rfl, by omega, ha', by rw [show i + l.toNat + (cap - l.toNat) = i + cap by omega]; exact h5⟩
      split
      · refine key a ?_
        by_cases hl0 : l.toNat = 0
        · rcases h4 with h4 | h4
          · exact Or.inl (by omega)
          · right; rw [h4, hl0, Nat.add_zero]
        · exact Or.inl (by omega)
      · simp only [Option.map_some]
        refine key _ ?_
        rcases h4 with h4 | h4
        · exact Or.inl (by omega)
        · right; rw [h4, addr_add, Nat.add_mul, Nat.add_assoc]
    · cases h
  · rename_i k m
    rcases hmx with ⟨h, _⟩ | ⟨_, u, h, rfl, hu'⟩
    · cases h
    cases h
    rw [hu'.inv_int]
    split at h <;> first | (cases h; done) | skip
    rename_i es' l k' h' he hl
    rcases hhi with ⟨h, _⟩ | ⟨_, u2, h, rfl, hu2⟩
    · cases h
    cases h
    rw [hu2.inv_int]
    split at h
    · cases h
      obtain ⟨h0, rfl, rfl⟩ := hok
      rw [hx.inv_nils]
      exact ⟨_, run_slice3 hT he hlo hl h0, .imm _ _ .nils⟩
    · cases h
      obtain ⟨h0, rfl, rfl⟩ := hok
      cases hx.inv_isl with
      | esl _ a cap => exact ⟨_, run_slice3 hT he hlo hl h0, .imm _ _ (.zsl _)⟩
      | nsl => exact ⟨_, run_slice3 hT he hlo hl h0, .imm _ _ (.zsl _)⟩
      | isl => exact ⟨_, run_slice3 hT he hlo hl h0, .imm _ _ (.zsl _)⟩
    · cases h
      obtain ⟨h0, rfl, rfl⟩ := hok
      obtain ⟨a, rfl⟩ := hx.inv_zsl
      exact ⟨_, run_slice3 hT he hlo hl h0, .imm _ _ (.zsl _)⟩
    · split at h <;> first | (cases h; done) | cases h
      rename_i nd hnd
      obtain ⟨h0, rfl, rfl⟩ := hok
      obtain ⟨b, base, hlc, _⟩ := hn _ nd hnd
      obtain ⟨a, cap, rfl, _⟩ := hx.inv_sl hlc
      exact ⟨_, run_slice3 hT he hlo hl h0, .imm _ _ (.zsl _)⟩
    · cases h
  · cases h

theorem byteOfCell_some {c : List AV} {b : UInt8} (h : byteOfCell c = some b) : c = [.int .u8 b.toNat] := by
  unfold byteOfCell at h
  split at h <;> first | (cases h; done) | skip
  split at h <;> first | (cases h; done) | cases h
  rename_i n hn
  have : (UInt8.ofNat n.toNat).toNat = n.toNat := by rw [UInt8.toNat_ofNat']; omega
  rw [this]; congr 2; omega

theorem decB_some {l : List (List AV)} {s : List UInt8} (h : decB l = some s) : l = encB s := by
  unfold decB at h
  induction l generalizing s with
  | nil => simp at h; subst h; rfl
  | cons c l ih =>
    simp only [List.mapM_cons, Option.bind_eq_bind] at h
    cases hc : byteOfCell c with
    | none => simp [hc] at h
    | some b =>
      simp only [hc, Option.bind_some] at h
      cases hl : l.mapM byteOfCell with
      | none => simp [hl] at h
      | some s' =>
        simp [hl] at h
        subst h
        rw [byteOfCell_some hc, ih hl]; rfl

theorem foldl_push (s : List UInt8) (a : ByteArray) : (s.map fun b => (b.toNat : Int)).foldl (fun r n => r.push (UInt8.ofNat n.toNat)) a = ⟨(a.data.toList ++ s).toArray⟩ := by
  induction s generalizing a with
  | nil => apply ByteArray.ext; simp
  | cons b s ih =>
    simp only [List.map_cons, List.foldl_cons]
    rw [ih]
    apply ByteArray.ext
    simp

theorem run_bytes (a : Addr) (cap : Nat) (s : List UInt8) (h : ∀ j b, s[j]? = some b → w.cell? (a.add j) = some (.int .u8 b.toNat)) :
    (Conv.bytesToString (.slice (some a) s.length cap)).run P w = .ok (.string ⟨s.toArray⟩) w := by
  have hld := run_loadCells_list (P := P) w a ((s.map fun b => (b.toNat : Int)).map (Value.int .u8)) (by
    intro j v hv
    simp only [List.getElem?_map, Option.map_eq_some_iff] at hv
    obtain ⟨_, ⟨b, hb, rfl⟩, rfl⟩ := hv
    exact h j b hb)
  simp only [List.length_map] at hld
  rw [run_bytesToString w a s.length cap (s.map fun b => (b.toNat : Int)) hld, foldl_push]
  simp

include hT hn in
theorem convA_sound {src dst : Nat} {x z : AV} {ok : Prop} (h : convA ti nodes src dst x = some (z, ok)) (hok : ok) {vx : Value} (hx : V w lab loc x vx) :
    ∃ v, (convert src dst vx).run P w = .ok v w ∧ V w lab loc z v := by
  have hks := tkind_ok hT src
  have hkd := tkind_ok hT dst
  unfold convA at h
  split at h
  · split at h <;> first | (cases h; done) | cases h
    rename_i h1 h2
    rw [h1] at hks; rw [h2] at hkd
    rw [hx.inv_int]
    exact ⟨_, by simp [convert, run_underlying hks, run_underlying hkd, Conv.intToInt], V.int _ _⟩
  · split at h <;> first | (cases h; done) | skip
    rename_i es l _ _ e h1 h2
    rw [h1] at hks; rw [h2] at hkd
    have hke := tkind_ok hT e
    split at h <;> first | (cases h; done) | skip
    rename_i s h3 hd
    rw [h3] at hke
    split at h <;> first | (cases h; done) | cases h
    rename_i hes
    subst hes
    have hl := decB_some hd
    subst hl
    obtain ⟨L, hL⟩ : ∃ L, L = encB s := ⟨_, rfl⟩
    rw [← hL] at hx
    cases hx.inv_isl with
    | esl _ a cap =>
      have hs : s = [] := by cases s <;> simp [encB] at hL ⊢
      subst hs
      refine ⟨_, ?_, V.str _⟩
      rw [run_convert_bytes_string w src dst e _ _ _ hks hke hkd]
      have := run_bytes (P := P) (w := w) a cap [] (by intro j b hb; simp at hb)
      simpa using this
    | nsl =>
      have hs : s = [] := by cases s <;> simp [encB] at hL ⊢
      subst hs
      refine ⟨.string .empty, ?_, V.str []⟩
      rw [run_convert_bytes_string w src dst e _ _ _ hks hke hkd]
      simp [Conv.bytesToString]
    | isl _ _ b off cap vals hb hsz hc hes hp hv hr =>
      subst hL
      refine ⟨_, ?_, V.str _⟩
      rw [run_convert_bytes_string w src dst e _ _ _ hks hke hkd]
      have := run_bytes (P := P) (w := w) ⟨b, off, none⟩ cap s (by
        intro j x hx
        have hj : j < s.length := by rcases Nat.lt_or_ge j s.length with h | h; exact h; simp [List.getElem?_eq_none h] at hx
        have hc := hv j 0 (by simpa [encB] using hj) (by omega)
        have hi := hr j [.int .u8 x.toNat] 0 _ (by simp [encB, hx]) rfl
        rw [addr_add]
        simp only [Nat.mul_one, Nat.add_zero] at hc
        rw [hc, hi.inv_int])
      simpa [encB] using this
  · split at h <;> first | (cases h; done) | skip
    rename_i _ _ e h1 h2
    rw [h1] at hks; rw [h2] at hkd
    have hke := tkind_ok hT e
    split at h <;> first | (cases h; done) | cases h
    rename_i h3
    rw [h3] at hke
    rw [hx.inv_nils]
    refine ⟨.string .empty, ?_, V.str []⟩
    rw [run_convert_bytes_string w src dst e _ _ _ hks hke hkd]
    simp [Conv.bytesToString]
  · split at h <;> first | (cases h; done) | skip
    rename_i _ _ e h1 h2
    rw [h1] at hks; rw [h2] at hkd
    have hke := tkind_ok hT e
    split at h <;> first | (cases h; done) | cases h
    rename_i h3
    rw [h3] at hke
    obtain ⟨a, rfl⟩ := hx.inv_zsl
    refine ⟨_, ?_, V.str []⟩
    cases a with
    | none =>
      rw [run_convert_bytes_string w src dst e _ _ _ hks hke hkd]
      simp [Conv.bytesToString]
      rfl
    | some a =>
    rw [run_convert_bytes_string w src dst e _ _ _ hks hke hkd]
    have := run_bytes (P := P) (w := w) a 0 [] (by intro j b hb; simp at hb)
    simpa using this
  · split at h <;> first | (cases h; done) | skip
    rename_i id es i len _ _ _ nd e hnd h1 h2
    rw [h1] at hks; rw [h2] at hkd
    have hke := tkind_ok hT e
    split at h <;> first | (cases h; done) | skip
    rename_i s h3 hd
    rw [h3] at hke
    split at h <;> first | (cases h; done) | cases h
    rename_i hes
    obtain ⟨hes1, hes2⟩ := hes
    subst hes1
    obtain ⟨b, base, hlc, ho⟩ := hn id nd hnd
    obtain ⟨a, cap, rfl, hc1, hc2, hc3⟩ := hx.inv_sl hlc
    have hl := decB_some hd
    have hlen : s.length = len := by
      have := congrArg List.length hl
      simp [encB] at this; omega
    refine ⟨_, ?_, V.str _⟩
    rw [run_convert_bytes_string w src dst e _ _ _ hks hke hkd]
    have := run_bytes (P := P) (w := w) a cap s (by
      intro j x hsx
      have hj : j < s.length := by rcases Nat.lt_or_ge j s.length with h | h; exact h; simp [List.getElem?_eq_none h] at hsx
      have ha : a = ⟨b, base + i * 1, none⟩ := by rcases hc2 with h | h <;> first | exact h | omega
      subst ha
      have hcl : nd.l[i + j]? = some [.int .u8 x.toNat] := by
        have h4 : ((nd.l.drop i).take len)[j]? = (encB s)[j]? := by rw [hl]
        rw [List.getElem?_take, if_pos (by omega), List.getElem?_drop] at h4
        rw [h4]; simp [encB, hsx]
      obtain ⟨v, hv, hcv⟩ := ho.cells (i + j) _ 0 _ hcl rfl
      rw [addr_add]
      rw [hes2] at hv
      simp only [Nat.mul_one, Nat.add_zero] at hv
      rw [show base + i * 1 + j = base + (i + j) by omega, hv, (hcv.inv_plain rfl).inv_int])
    rw [hlen] at this
    exact this
  · cases h

theorem minmaxA_sound {m : Bool} {ats : Array TypeId} {ty : Nat} {x y z : AV} {ok : Prop} (h : minmaxA m x y = some (z, ok)) {vx vy : Value} (hx : V w lab loc x vx) (hy : V w lab loc y vy) :
    ∃ v, (if m then Builtin.max_ ats ty #[vx, vy] else Builtin.min_ ats ty #[vx, vy]).run P w = .ok v w ∧ V w lab loc z v := by
  unfold minmaxA at h
  split at h <;> first | (cases h; done) | skip
  split at h <;> first | (cases h; done) | cases h
  rename_i hk
  subst hk
  rw [hx.inv_int, hy.inv_int]
  cases m
  · exact ⟨_, by simp [Builtin.min_, Builtin.min2], V.int _ _⟩
  · exact ⟨_, by simp [Builtin.max_, Builtin.max2], V.int _ _⟩
end snd

end Go.AM
