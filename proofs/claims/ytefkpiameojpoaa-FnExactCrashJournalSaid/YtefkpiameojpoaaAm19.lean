/- The abstract machine, part 19: tables of types. -/
import Derived.Test.YtefkpiameojpoaaAm18
set_option linter.unusedVariables false
set_option linter.unusedSimpArgs false
namespace Go.AM

theorem info_of {P : Program} {t : Nat} {info : TypeInfo} (h : ∀ w, (typeInfo t).run P w = .ok info w) : P.info? t = some info := by
  have := h default
  simp only [typeInfo, Sem.run_bind, run_program, Result.andThen_ok] at this
  cases hi : P.info? t with
  | none => rw [hi] at this; simp [unsupported] at this
  | some i => rw [hi] at this; simp at this; rw [this]

theorem tok1 {P : Program} {t : Nat} {info : TypeInfo} {i : TInfo} (h1 : ∀ w, (typeInfo t).run P w = .ok info w) (h2 : info.size = i.size) (h3 : info.bytes = i.bytes)
    (h4 : ∀ z, i.zero = some z → ∃ zv, info.zero = some zv ∧ zv.cells.toList.mapM ofV = some z ∧ z.length = i.size) (h5 : KOk P t i.kind) (h0 : i.flat = true → FlatEq P t i.size) : TOk1 P t i :=
  ⟨h0, ⟨info, info_of h1, h2, h3, h4⟩, h5⟩

theorem run_part_int {P : Program} {t : TypeId} (ht : P.underlying t = some (.int .i64)) (l : List Int) (k : Nat) (hk : k < l.length) (w : World) : (part t ⟨l.map (Value.int .i64)⟩ k).run P w = .ok (.int .i64 l[k]) w := by
  have hg : (isAgg t).run P w = .ok false w := by simp [isAgg, run_underlying ht]
  simp [part, hg, hk]

theorem eqFields_run {P : Program} (w : World) (a b : List Int) (hab : a.length = b.length) : ∀ (fs : List Field) (k : Nat), (∀ (j : Nat) f, fs[j]? = some f → f.offset = k + j ∧ f.name ≠ "_" ∧ P.underlying f.type = some (.int .i64)) → k + fs.length = a.length →
    (Op.eqFields 9999 ⟨a.map (Value.int .i64)⟩ ⟨b.map (Value.int .i64)⟩ fs).run P w = .ok (decide (a.drop k = b.drop k)) w := by
  intro fs
  induction fs with
  | nil =>
    intro k _ hl
    simp only [List.length_nil, Nat.add_zero] at hl
    simp only [Op.eqFields, Sem.run_pure]
    rw [List.drop_eq_nil_of_le (by omega), List.drop_eq_nil_of_le (by omega)]; simp
  | cons f fs ih =>
    intro k hf hl
    obtain ⟨h1, h2, h3⟩ := hf 0 f rfl
    simp only [List.length_cons] at hl
    have hka : k < a.length := by omega
    have hkb : k < b.length := by omega
    have hr := ih (k + 1) (fun j g hg => by
      have := hf (j + 1) g (by simpa using hg)
      exact ⟨by omega, this.2.1, this.2.2⟩) (by omega)
    have h1' : f.offset = k := by omega
    simp only [Op.eqFields, if_pos h2, Sem.run_bind, h1', run_part_int h3 a k hka, run_part_int h3 b k hkb, Result.andThen_ok, run_equalIn_int w 9998 .i64 _ _ h3]
    have key : (a.drop k = b.drop k) ↔ (a[k] = b[k] ∧ a.drop (k + 1) = b.drop (k + 1)) := by
      rw [List.drop_eq_getElem_cons hka, List.drop_eq_getElem_cons hkb]
      exact ⟨fun h => by injection h with h1 h2; exact ⟨h1, h2⟩, fun ⟨h1, h2⟩ => by rw [h1, h2]⟩
    by_cases e : a[k] = b[k]
    · have e1 : (a[k] == b[k]) = true := by simpa using e
      have e2 : decide (a.drop k = b.drop k) = decide (a.drop (k + 1) = b.drop (k + 1)) := by rw [decide_eq_decide, key]; exact ⟨fun h => h.2, fun h => ⟨e, h⟩⟩
      rw [e2]
      simp only [e1, Bool.not_true, Bool.false_eq_true, if_false, hr]
    · have e1 : (a[k] == b[k]) = false := by simpa using e
      have e2 : decide (a.drop k = b.drop k) = false := by rw [decide_eq_false_iff_not, key]; exact fun h => e h.1
      rw [e2]
      simp only [e1, Bool.not_false, if_true, Sem.run_pure]

theorem flatEq {P : Program} {t n : Nat} {fs : List Field} (hu : P.underlying t = some (.struct (P.fieldsOf t))) (hfs : (P.fieldsOf t).toList = fs) (hp : P.stoodInHeld t = false) (hg : P.eqGuardType P.depth t = false) (hn : fs.length = n)
    (hf : ∀ (j : Nat) f, fs[j]? = some f → f.offset = 0 + j ∧ f.name ≠ "_" ∧ P.underlying f.type = some (.int .i64)) : FlatEq P t n := by
  refine ⟨hg, fun w a b ha hb => ?_⟩
  rw [run_equalIn_struct w 9999 t _ _ hu hp, hfs, eqFields_run w a b (by omega) fs 0 hf (by omega)]
  simp

theorem tz1 {info : TypeInfo} {i : TInfo} {z : List AV} (zv : Value) (hi : i.zero = some z) (h1 : info.zero = some zv) (h2 : zv.cells.toList.mapM ofV = some z) (h3 : z.length = i.size) :
    ∀ z, i.zero = some z → ∃ zv, info.zero = some zv ∧ zv.cells.toList.mapM ofV = some z ∧ z.length = i.size := by
  intro z' hz; rw [hi] at hz; cases hz; exact ⟨zv, h1, h2, h3⟩

theorem tz0 {info : TypeInfo} {i : TInfo} (hi : i.zero = none) : ∀ z, i.zero = some z → ∃ zv, info.zero = some zv ∧ zv.cells.toList.mapM ofV = some z ∧ z.length = i.size := by
  intro z' hz; rw [hi] at hz; cases hz

theorem kstruct {P : Program} {t : Nat} {fields : Array Field} {fs : List (Nat × Nat)} (h : P.underlying t = some (.struct fields)) (hf : fields.toList.map (fun f => (f.offset, f.type)) = fs) : KOk P t (.struct fs) := ⟨fields, h, hf⟩

theorem tok_nil {P : Program} : TOk P fun _ => none := fun t i h => by cases h
def tiAdd (t : Nat) (i : TInfo) (ti : TI) : TI := fun u => if u = t then some i else ti u
theorem tok_add {P : Program} {t : Nat} {i : TInfo} {ti : TI} (h : TOk1 P t i) (h2 : TOk P ti) : TOk P (tiAdd t i ti) := by
  intro u j hu
  simp only [tiAdd] at hu
  split at hu
  · rename_i e; cases hu; rw [e]; exact h
  · exact h2 u j hu
end Go.AM
