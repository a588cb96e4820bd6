/- The types that the walks meet, as a table. -/
import Derived.Test.YtefkpiameojpoaaAm20
import Derived.Test.YtefkpiameojpoaaProg
namespace Go.AM
open Go.Proofs

def i2 : TInfo := ⟨(.int .i64), 1, 8, some [.int .i64 0]⟩
theorem tok2 : TOk1 Try.prog 2 i2 := tok1 Try.typeInfo2 rfl rfl (tz1 _ rfl rfl rfl rfl) Try.underlying2
def i3 : TInfo := ⟨(.int .i64), 1, 8, some [.int .i64 0]⟩
theorem tok3 : TOk1 Try.prog 3 i3 := tok1 Try.typeInfo3 rfl rfl (tz1 _ rfl rfl rfl rfl) Try.underlying3
def i4 : TInfo := ⟨.bool, 1, 1, some [.bool false]⟩
theorem tok4 : TOk1 Try.prog 4 i4 := tok1 Try.typeInfo4 rfl rfl (tz1 _ rfl rfl rfl rfl) Try.underlying4
def i5 : TInfo := ⟨(.int .u8), 1, 1, some [.int .u8 0]⟩
theorem tok5 : TOk1 Try.prog 5 i5 := tok1 Try.typeInfo5 rfl rfl (tz1 _ rfl rfl rfl rfl) Try.underlying5
def i9 : TInfo := ⟨.str, 1, 16, some [.str []]⟩
theorem tok9 : TOk1 Try.prog 9 i9 := tok1 Try.typeInfo9 rfl rfl (tz1 _ rfl rfl rfl rfl) Try.underlying9
def i24 : TInfo := ⟨(.slice 2), 1, 24, some [.nils]⟩
theorem tok24 : TOk1 Try.prog 24 i24 := tok1 Try.typeInfo24 rfl rfl (tz1 _ rfl rfl rfl rfl) Try.underlying24
def i109 : TInfo := ⟨.other, 1, 8, none⟩
theorem tok109 : TOk1 Try.prog 109 i109 := tok1 Try.typeInfo109 rfl rfl (tz0 rfl) trivial
def ti : TI := tiAdd 2 i2 (tiAdd 3 i3 (tiAdd 4 i4 (tiAdd 5 i5 (tiAdd 9 i9 (tiAdd 24 i24 (tiAdd 109 i109 (fun _ => none)))))))
theorem tiOk : TOk Try.prog ti := tok_add tok2 (tok_add tok3 (tok_add tok4 (tok_add tok5 (tok_add tok9 (tok_add tok24 (tok_add tok109 (tok_nil)))))))
@[go_sem] theorem ti_2 : ti 2 = some ⟨(.int .i64), 1, 8, some [.int .i64 0]⟩ := rfl
@[go_sem] theorem ti_3 : ti 3 = some ⟨(.int .i64), 1, 8, some [.int .i64 0]⟩ := rfl
@[go_sem] theorem ti_4 : ti 4 = some ⟨.bool, 1, 1, some [.bool false]⟩ := rfl
@[go_sem] theorem ti_5 : ti 5 = some ⟨(.int .u8), 1, 1, some [.int .u8 0]⟩ := rfl
@[go_sem] theorem ti_9 : ti 9 = some ⟨.str, 1, 16, some [.str []]⟩ := rfl
@[go_sem] theorem ti_24 : ti 24 = some ⟨(.slice 2), 1, 24, some [.nils]⟩ := rfl
@[go_sem] theorem ti_109 : ti 109 = some ⟨.other, 1, 8, none⟩ := rfl
end Go.AM

