/- The abstract machine, part 3: types, and the operations that only compute. -/
import Derived.Test.YtefkpiameojpoaaAm2
import Derived.Laws.Cells
import Derived.Laws.IdiomCopy
import Derived.Laws.Entries
import Derived.Laws.StructEq
set_option linter.unusedVariables false
set_option linter.unusedSimpArgs false
namespace Go.AM

inductive TKind where
  | bool | int (k : IntKind) | str | slice (e : Nat) | struct (fs : List (Nat × Nat)) | pointer (e : Nat) | other

structure TInfo where
  kind : TKind
  size : Nat
  bytes : Nat
  zero : Option (List AV)
  flat : Bool      -- a struct of int64s: may be compared

abbrev TI := Nat → Option TInfo

def ofV : Value → Option AV
  | .bool b => some (.bool b)
  | .int k n => some (.int k n)
  | .string s => some (.str s.data.toList)
  | .pointer none => some .nilp
  | .slice none 0 0 => some .nils
  | _ => none

theorem ofV_sound {w : World} {lab : Labs} {v : Value} {x : AV} (h : ofV v = some x) : I w lab x v := by
  unfold ofV at h
  split at h <;> first | (cases h; done) | skip
  · cases h; exact .bool _
  · cases h; exact .int _ _
  · cases h; exact .str _
  · cases h; exact .nilp
  · cases h; exact .nils

theorem ofV_one {v : Value} {x : AV} (h : ofV v = some x) : v.oneCell' = true := by
  unfold ofV at h
  split at h <;> first | rfl | (cases h)

def KOk (P : Program) (t : Nat) : TKind → Prop
  | .bool => P.underlying t = some .bool
  | .int k => P.underlying t = some (.int k)
  | .str => P.underlying t = some .string
  | .slice e => P.underlying t = some (.slice e)
  | .struct fs => ∃ fields : Array Field, P.underlying t = some (.struct fields) ∧ fields.toList.map (fun f => (f.offset, f.type)) = fs
  | .pointer e => P.underlying t = some (.pointer e)
  | .other => True

/-- a struct of n numbers, compared -/
def FlatEq (P : Program) (t n : Nat) : Prop := P.eqGuardType P.depth t = false ∧ ∀ (w : World) (a b : List Int), a.length = n → b.length = n →
  (Op.equalIn 10000 t (.agg ⟨a.map (Value.int .i64)⟩) (.agg ⟨b.map (Value.int .i64)⟩)).run P w = .ok (decide (a = b)) w

structure TOk1 (P : Program) (t : Nat) (i : TInfo) : Prop where
  eqs : i.flat = true → FlatEq P t i.size
  info : ∃ info, P.info? t = some info ∧ info.size = i.size ∧ info.bytes = i.bytes ∧ ∀ z, i.zero = some z → ∃ zv, info.zero = some zv ∧ zv.cells.toList.mapM ofV = some z ∧ z.length = i.size
  kind : KOk P t i.kind

def TOk (P : Program) (ti : TI) : Prop := ∀ t i, ti t = some i → TOk1 P t i

def tkind (ti : TI) (t : Nat) : TKind := match ti t with | some i => i.kind | none => .other
theorem tkind_ok {P : Program} {ti : TI} (hT : TOk P ti) (t : Nat) : KOk P t (tkind ti t) := by
  unfold tkind; cases h : ti t with
  | none => trivial
  | some i => exact (hT t i h).kind

/-- is it an aggregate? -/
def TKind.agg : TKind → Option Bool
  | .struct _ => some true
  | .other => none
  | _ => some false

section run
variable {P : Program} {ti : TI} (hT : TOk P ti) {t : Nat} {i : TInfo} (h : ti t = some i)
include hT h

theorem t_sizeOf (w : World) : (sizeOf t).run P w = .ok i.size w := by
  obtain ⟨info, h1, h2, _⟩ := (hT t i h).info
  simp [sizeOf, typeInfo, h1, h2]

theorem t_isAgg {b : Bool} (hb : i.kind.agg = some b) (w : World) : (isAgg t).run P w = .ok b w := by
  have hk := (hT t i h).kind
  cases hi : i.kind <;> simp [hi, TKind.agg, KOk] at hb hk <;> subst hb
  case struct fs =>
    obtain ⟨fields, hf, _⟩ := hk
    simp [isAgg, run_underlying hf]
  all_goals simp [isAgg, run_underlying hk]

theorem t_slice {e : Nat} (hk : i.kind = .slice e) : P.underlying t = some (.slice e) := by
  have := (hT t i h).kind; rw [hk] at this; exact this
theorem t_bool (hk : i.kind = .bool) : P.underlying t = some .bool := by
  have := (hT t i h).kind; rw [hk] at this; exact this
theorem t_str (hk : i.kind = .str) : P.underlying t = some .string := by
  have := (hT t i h).kind; rw [hk] at this; exact this
theorem t_int {k : IntKind} (hk : i.kind = .int k) : P.underlying t = some (.int k) := by
  have := (hT t i h).kind; rw [hk] at this; exact this
theorem t_pointer {e : Nat} (hk : i.kind = .pointer e) : P.underlying t = some (.pointer e) := by
  have := (hT t i h).kind; rw [hk] at this; exact this
theorem t_struct {fs : List (Nat × Nat)} (hk : i.kind = .struct fs) : ∃ fields : Array Field, P.underlying t = some (.struct fields) ∧ fields.toList.map (fun f => (f.offset, f.type)) = fs := by
  have := (hT t i h).kind; rw [hk] at this; exact this
end run

theorem addr_add (b o n : Nat) : (⟨b, o, none⟩ : Addr).add n = ⟨b, o + n, none⟩ := by
  unfold Addr.add; split <;> simp_all

/-! ### integers, bools, strings -/
def intBin (b : BinOp) (k : IntKind) (x y : Int) : Option (AV × Prop) :=
  match b with
  | .add => some (.int k (k.wrap (x + y)), True)
  | .sub => some (.int k (k.wrap (x - y)), True)
  | .mul => some (.int k (k.wrap (x * y)), True)
  | .quo => some (.int k (k.wrap (x.tdiv y)), y ≠ 0)
  | .rem => some (.int k (x.tmod y), y ≠ 0)
  | .and => some (.int k (k.wrap (BitVec.ofInt k.bits x &&& BitVec.ofInt k.bits y).toNat), True)
  | .eql => some (.bool (decide (x = y)), True)
  | .neq => some (.bool (!decide (x = y)), True)
  | .lss => some (.bool (decide (x < y)), True)
  | .leq => some (.bool (decide (x ≤ y)), True)
  | .gtr => some (.bool (decide (y < x)), True)
  | .geq => some (.bool (decide (y ≤ x)), True)
  | _ => none

def strBin (b : BinOp) (x y : List UInt8) : Option (AV × Prop) :=
  match b with
  | .add => some (.str (x ++ y), x.length + y.length ≤ 140737488355328)
  | .eql => some (.bool (decide (x = y)), True)
  | .neq => some (.bool (!decide (x = y)), True)
  | _ => none

def intsA : List AV → Option (List Int)
  | [] => some []
  | x :: r => match x, intsA r with
    | .int .i64 n, some l => some (n :: l)
    | _, _ => none

theorem intsA_eq : ∀ {xs : List AV} {l : List Int}, intsA xs = some l → xs = l.map (AV.int .i64) := by
  intro xs
  induction xs with
  | nil => intro l h; simp [intsA] at h; subst h; rfl
  | cons x r ih =>
    intro l h
    simp only [intsA] at h
    split at h <;> first | (cases h; done) | cases h
    rename_i n l' hr
    rw [ih hr]; rfl

def binA (ti : TI) (b : BinOp) (t : Nat) : AV → AV → Option (AV × Prop)
  | .int k x, .int k' y =>
    match b with
    | .shl => some (.int k (k.wrap (x * 2 ^ (min y.toNat k.bits))), 0 ≤ y)
    | .shr => some (.int k (x.fdiv (2 ^ (min y.toNat k.bits))), 0 ≤ y)
    | _ => if k = k' then intBin b k x y else none
  | .str x, .str y => strBin b x y
  | .bool x, .bool y =>
    match tkind ti t, b with
    | .bool, .eql => some (.bool (x == y), True)
    | .bool, .neq => some (.bool (x != y), True)
    | _, _ => none
  | .nils, .nils => match tkind ti t, b with
    | .slice _, .eql => some (.bool true, True)
    | .slice _, .neq => some (.bool false, True)
    | _, _ => none
  | .sl _ _ _ _, .nils => match tkind ti t, b with
    | .slice _, .eql => some (.bool false, True)
    | .slice _, .neq => some (.bool true, True)
    | _, _ => none
  | .nel, .nils => match tkind ti t, b with
    | .slice _, .eql => some (.bool false, True)
    | .slice _, .neq => some (.bool true, True)
    | _, _ => none
  | .isl _ (_ :: _), .nils => match tkind ti t, b with
    | .slice _, .eql => some (.bool false, True)
    | .slice _, .neq => some (.bool true, True)
    | _, _ => none
  | .agg xs, .agg ys => match ti t, intsA xs, intsA ys with
    | some i, some a, some c => if i.flat = true ∧ a.length = i.size ∧ c.length = i.size then match b with
        | .eql => some (.bool (decide (a = c)), True)
        | .neq => some (.bool (!decide (a = c)), True)
        | _ => none else none
    | _, _, _ => none
  | _, _ => none

theorem bytes_toList (s : ByteArray) : s.toList = s.data.toList := by
  have h : ∀ n i r, s.size - i = n → i ≤ s.size → ByteArray.toList.loop s i r = r.reverse ++ s.data.toList.drop i := by
    intro n
    induction n with
    | zero =>
      intro i r hn hi
      rw [ByteArray.toList.loop]
      have : ¬ i < s.size := by omega
      have h2 : s.data.toList.length ≤ i := by have : s.data.toList.length = s.size := rfl; omega
      simp [this, List.drop_eq_nil_of_le h2]
    | succ n ih =>
      intro i r hn hi
      rw [ByteArray.toList.loop]
      have hlt : i < s.size := by omega
      have h2 : i < s.data.toList.length := by have : s.data.toList.length = s.size := rfl; omega
      simp only [hlt, if_true]
      rw [ih (i + 1) _ (by omega) (by omega), List.drop_eq_getElem_cons h2]
      have : s.get! i = s.data.toList[i] := by
        have : s.get! i = s.data[i]! := by cases s; rfl
        rw [this, getElem!_pos s.data i hlt]; simp
      simp [this]
  have := h s.size 0 [] (by omega) (by omega)
  simpa [ByteArray.toList] using this

section eq
variable {P : Program} (w : World) {t : Nat}
theorem run_equalIn_bool (d : Nat) (a b : Bool) (h : P.underlying t = some .bool) : (Op.equalIn (d + 1) t (.bool a) (.bool b)).run P w = .ok (a == b) w := by
  simp [Op.equalIn, run_underlying h]
theorem run_equalIn_int (d : Nat) (k : IntKind) (a b : Int) (h : P.underlying t = some (.int k)) : (Op.equalIn (d + 1) t (.int k a) (.int k b)).run P w = .ok (a == b) w := by
  simp [Op.equalIn, run_underlying h]
theorem run_equalIn_str (d : Nat) (a b : ByteArray) (h : P.underlying t = some .string) : (Op.equalIn (d + 1) t (.string a) (.string b)).run P w = .ok (a == b) w := by
  simp [Op.equalIn, run_underlying h]
theorem run_equalIn_nils (d e : Nat) (h : P.underlying t = some (.slice e)) : (Op.equalIn (d + 1) t (.slice none 0 0) (.slice none 0 0)).run P w = .ok true w := by
  simp [Op.equalIn, run_underlying h]
theorem run_equalIn_slnil (d e : Nat) (a : Addr) (n c : Nat) (h : P.underlying t = some (.slice e)) : (Op.equalIn (d + 1) t (.slice (some a) n c) (.slice none 0 0)).run P w = .ok false w := by
  simp [Op.equalIn, run_underlying h]
theorem run_equal_bool (a b : Bool) (h : P.underlying t = some .bool) : (Op.equal t (.bool a) (.bool b)).run P w = .ok (a == b) w := run_equalIn_bool w 9999 a b h
theorem run_equal_nils (e : Nat) (h : P.underlying t = some (.slice e)) : (Op.equal t (.slice none 0 0) (.slice none 0 0)).run P w = .ok true w := run_equalIn_nils w 9999 e h
theorem run_equal_slnil (e : Nat) (a : Addr) (n c : Nat) (h : P.underlying t = some (.slice e)) : (Op.equal t (.slice (some a) n c) (.slice none 0 0)).run P w = .ok false w := run_equalIn_slnil w 9999 e a n c h
end eq

section bin
variable {P : Program} {ti : TI} (hT : TOk P ti) {w : World} {lab : Labs} {loc : Locs}

theorem intBin_sound {b : BinOp} {k : IntKind} {x y : Int} {z : AV} {ok : Prop} (h : intBin b k x y = some (z, ok)) (hok : ok) (t : Nat) (hb : b ≠ .shl ∧ b ≠ .shr) :
    ∃ v, (binOp b t (.int k x) (.int k y)).run P w = .ok v w ∧ V w lab loc z v := by
  unfold intBin at h
  split at h <;> first | (cases h; done) | (cases h)
  · exact ⟨_, by simp [binOp, Op.intArith], V.int _ _⟩
  · exact ⟨_, by simp [binOp, Op.intArith], V.int _ _⟩
  · exact ⟨_, by simp [binOp, Op.intArith], V.int _ _⟩
  · exact ⟨_, by simp [binOp]; unfold Op.intDiv; rw [if_neg hok]; rfl, V.int _ _⟩
  · exact ⟨_, by simp [binOp]; unfold Op.intDiv; rw [if_neg hok]; rfl, V.int _ _⟩
  · exact ⟨_, by simp [binOp, Op.intBits], V.int _ _⟩
  · refine ⟨.bool (decide (x = y)), ?_, V.bool _⟩
    simp [binOp, Op.intCmp]; by_cases e : x = y <;> simp [e]
  · refine ⟨.bool (!decide (x = y)), ?_, V.bool _⟩
    simp [binOp, Op.intCmp]; by_cases e : x = y <;> simp [e]
  · exact ⟨_, by simp [binOp, Op.intCmp], V.bool _⟩
  · exact ⟨_, by simp [binOp, Op.intCmp], V.bool _⟩
  · exact ⟨_, by simp [binOp, Op.intCmp], V.bool _⟩
  · exact ⟨_, by simp [binOp, Op.intCmp], V.bool _⟩

theorem strBin_sound {b : BinOp} {x y : List UInt8} {z : AV} {ok : Prop} (h : strBin b x y = some (z, ok)) (hok : ok) (t : Nat) :
    ∃ v, (binOp b t (.string ⟨x.toArray⟩) (.string ⟨y.toArray⟩)).run P w = .ok v w ∧ V w lab loc z v := by
  unfold strBin at h
  split at h <;> first | (cases h; done) | (cases h)
  · refine ⟨.string (⟨x.toArray⟩ ++ ⟨y.toArray⟩), ?_, ?_⟩
    · have hs : ((⟨x.toArray⟩ : ByteArray).size + (⟨y.toArray⟩ : ByteArray).size : Nat) = x.length + y.length := by simp [ByteArray.size]
      have hn : ¬ (((⟨x.toArray⟩ : ByteArray).size + (⟨y.toArray⟩ : ByteArray).size : Nat) : Int) > IntKind.i64.max := by
        rw [hs]; have : IntKind.i64.max = 9223372036854775807 := by decide
        rw [this]; omega
      simp only [binOp, Op.stringOp]
      rw [if_neg hn]; rfl
    · have : (⟨x.toArray⟩ ++ ⟨y.toArray⟩ : ByteArray) = ⟨(x ++ y).toArray⟩ := by
        apply ByteArray.ext; simp
      rw [this]; exact V.str _
  · refine ⟨.bool (decide (x = y)), ?_, V.bool _⟩
    simp only [binOp, Op.stringOp, bytes_toList]
    by_cases hxy : x = y <;> simp [hxy]
  · refine ⟨.bool (!decide (x = y)), ?_, V.bool _⟩
    simp only [binOp, Op.stringOp, bytes_toList]
    by_cases hxy : x = y <;> simp [hxy]

include hT in
theorem binA_sound {b : BinOp} {t : Nat} {x y : AV} {z : AV} {ok : Prop} (h : binA ti b t x y = some (z, ok)) (hok : ok) {vx vy : Value}
    (hx : V w lab loc x vx) (hy : V w lab loc y vy) (hlx : ∀ i ∈ x.ids, ∃ p, loc i = some p) (ox oy : Operand) :
    ∃ v, (do eqGuard b t ox oy vx vy; binOp b t vx vy : Sem Value).run P w = .ok v w ∧ V w lab loc z v := by
  unfold binA at h
  have hk := tkind_ok hT t
  split at h
  · rename_i k x k' y
    rw [hx.inv_int, hy.inv_int]
    have hg : (eqGuard b t ox oy (.int k x) (.int k' y)).run P w = .ok () w := by unfold eqGuard; split <;> simp
    simp only [Sem.run_bind, hg, Result.andThen_ok]
    split at h
    · cases h
      refine ⟨_, ?_, V.int _ _⟩
      have hn : ¬ y < 0 := Int.not_lt.2 hok
      simp [binOp, Op.shift, hn]
    · cases h
      refine ⟨_, ?_, V.int _ _⟩
      have hn : ¬ y < 0 := Int.not_lt.2 hok
      simp [binOp, Op.shift, hn]
    · split at h
      · rename_i h1 h2 e
        subst e
        exact intBin_sound h hok t ⟨h1, h2⟩
      · cases h
  · rename_i x y
    rw [hx.inv_str, hy.inv_str]
    have hg : (eqGuard b t ox oy (.string ⟨x.toArray⟩) (.string ⟨y.toArray⟩)).run P w = .ok () w := by unfold eqGuard; split <;> simp
    simp only [Sem.run_bind, hg, Result.andThen_ok]
    exact strBin_sound h hok t
  · rename_i x y
    rw [hx.inv_bool, hy.inv_bool]
    have hg : (eqGuard b t ox oy (.bool x) (.bool y)).run P w = .ok () w := by unfold eqGuard; split <;> simp
    simp only [Sem.run_bind, hg, Result.andThen_ok]
    split at h <;> first | (cases h; done) | skip
    all_goals
      rename_i hk'
      rw [hk'] at hk
      cases h
      refine ⟨_, ?_, V.bool _⟩
      simp [binOp, run_equal_bool w x y hk, bne]
  · rw [hx.inv_nils, hy.inv_nils]
    have hg : (eqGuard b t ox oy (.slice none 0 0) (.slice none 0 0)).run P w = .ok () w := by unfold eqGuard; split <;> simp
    simp only [Sem.run_bind, hg, Result.andThen_ok]
    split at h <;> first | (cases h; done) | skip
    all_goals
      rename_i hk'
      rw [hk'] at hk
      cases h
      refine ⟨_, ?_, V.bool _⟩
      simp [binOp, run_equal_nils w _ hk]
  rotate_left 3
  · rename_i xs ys
    split at h <;> first | (cases h; done) | skip
    rename_i i a c hi ha hc
    split at h <;> first | (cases h; done) | skip
    rename_i hcond
    obtain ⟨hf, hla, hlc⟩ := hcond
    obtain ⟨hg, he⟩ := (hT t i hi).eqs hf
    have key : ∀ {zs : List AV} {l : List Int} {v : Value}, intsA zs = some l → V w lab loc (.agg zs) v → v = .agg ⟨l.map (Value.int .i64)⟩ := by
      intro zs l v hz hv
      obtain ⟨vs, rfl, hl, hr⟩ := hv.inv_agg
      have hzs := intsA_eq hz
      congr 2
      apply List.ext_getElem?
      intro j
      rw [List.getElem?_map]
      cases hj : l[j]? with
      | none =>
        have h1 : l.length ≤ j := List.getElem?_eq_none_iff.1 hj
        have h2 : vs.length = l.length := by rw [← hl, hzs]; simp
        simp [List.getElem?_eq_none (show vs.length ≤ j by omega)]
      | some n =>
        have h3 : zs[j]? = some (.int .i64 n) := by rw [hzs, List.getElem?_map, hj]; rfl
        have h4 : j < vs.length := by rw [← hl]; exact (List.getElem?_eq_some_iff.1 h3).1
        have h5 := hr j _ vs[j] h3 (List.getElem?_eq_getElem h4)
        rw [List.getElem?_eq_getElem h4, h5.inv_int]; rfl
    rw [key ha hx, key hc hy]
    have hgu := run_eqGuard_agg (P := P) w b t ox oy ⟨a.map (Value.int .i64)⟩ ⟨c.map (Value.int .i64)⟩ hg
    simp only [Sem.run_bind, hgu, Result.andThen_ok]
    split at h <;> first | (cases h; done) | cases h
    · refine ⟨_, ?_, V.bool _⟩
      rw [run_eql_struct, he w a c hla hlc]; rfl
    · refine ⟨_, ?_, V.bool _⟩
      rw [run_neq_struct, he w a c hla hlc]; rfl
  rotate_right 3
  all_goals try (cases h; done)
  all_goals
    have hsl : ∃ a n c, vx = .slice (some a) n c := by
      first
        | (cases hx with | imm _ _ hI => cases hI with | nel a c => exact ⟨_, _, _, rfl⟩)
        | (cases hx.inv_isl with | isl _ _ b off cap vals hb hs hc hes hp hv hr => exact ⟨_, _, _, rfl⟩)
        | (obtain ⟨⟨b, base⟩, hp⟩ := hlx _ (by simp only [AV.ids]; exact List.mem_singleton.2 rfl); obtain ⟨a, c, h1, _⟩ := hx.inv_sl hp; exact ⟨_, _, _, h1⟩)
    obtain ⟨a, n, c, rfl⟩ := hsl
    rw [hy.inv_nils]
    have hg : (eqGuard b t ox oy (.slice (some a) n c) (.slice none 0 0)).run P w = .ok () w := by unfold eqGuard; split <;> simp
    simp only [Sem.run_bind, hg, Result.andThen_ok]
    split at h <;> first | (cases h; done) | skip
    all_goals
      rename_i hk'
      rw [hk'] at hk
      cases h
      refine ⟨_, ?_, V.bool _⟩
      simp [binOp, run_equal_slnil w _ a n c hk]

end bin

end Go.AM
