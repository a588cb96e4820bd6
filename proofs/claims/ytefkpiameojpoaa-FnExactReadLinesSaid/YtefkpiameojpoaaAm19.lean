/- The abstract machine, part 19: tables of types. -/
import Derived.Test.YtefkpiameojpoaaAm18
namespace Go.AM

theorem info_of {P : Program} {t : Nat} {info : TypeInfo} (h : ∀ w, (typeInfo t).run P w = .ok info w) : P.info? t = some info := by
  have := h default
  simp only [typeInfo, Sem.run_bind, run_program, Result.andThen_ok] at this
  cases hi : P.info? t with
  | none => rw [hi] at this; simp [unsupported] at this
  | some i => rw [hi] at this; simp at this; rw [this]

theorem tok1 {P : Program} {t : Nat} {info : TypeInfo} {i : TInfo} (h1 : ∀ w, (typeInfo t).run P w = .ok info w) (h2 : info.size = i.size) (h3 : info.bytes = i.bytes)
    (h4 : ∀ z, i.zero = some z → ∃ zv, info.zero = some zv ∧ zv.cells.toList.mapM ofV = some z ∧ z.length = i.size) (h5 : KOk P t i.kind) : TOk1 P t i :=
  ⟨⟨info, info_of h1, h2, h3, h4⟩, h5⟩

theorem tz1 {info : TypeInfo} {i : TInfo} {z : List AV} (zv : Value) (hi : i.zero = some z) (h1 : info.zero = some zv) (h2 : zv.cells.toList.mapM ofV = some z) (h3 : z.length = i.size) :
    ∀ z, i.zero = some z → ∃ zv, info.zero = some zv ∧ zv.cells.toList.mapM ofV = some z ∧ z.length = i.size := by
  intro z' hz; rw [hi] at hz; cases hz; exact ⟨zv, h1, h2, h3⟩

theorem tz0 {info : TypeInfo} {i : TInfo} (hi : i.zero = none) : ∀ z, i.zero = some z → ∃ zv, info.zero = some zv ∧ zv.cells.toList.mapM ofV = some z ∧ z.length = i.size := by
  intro z' hz; rw [hi] at hz; cases hz

theorem kstruct {P : Program} {t : Nat} {fields : Array Field} {fs : List (Nat × Nat)} (h : P.underlying t = some (.struct fields)) (hf : fields.toList.map (fun f => (f.offset, f.type)) = fs) : KOk P t (.struct fs) := ⟨fields, h, hf⟩

theorem tok_nil {P : Program} : TOk P fun _ => none := fun t i h => by cases h
def tiAdd (t : Nat) (i : TInfo) (ti : TI) : TI := fun u => if u = t then some i else ti u
theorem tok_add {P : Program} {t : Nat} {i : TInfo} {ti : TI} (h : TOk1 P t i) (h2 : TOk P ti) : TOk P (tiAdd t i ti) := by
  intro u j hu
  simp only [tiAdd] at hu
  split at hu
  · rename_i e; cases hu; rw [e]; exact h
  · exact h2 u j hu
end Go.AM
