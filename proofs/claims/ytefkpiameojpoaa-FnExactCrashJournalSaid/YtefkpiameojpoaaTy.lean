/- The types that the walks meet, as a table. -/
import Derived.Test.YtefkpiameojpoaaPu
import Derived.Test.YtefkpiameojpoaaProg
set_option linter.unusedVariables false
set_option linter.unusedSimpArgs false
namespace Go.AM
open Go.Proofs

def i2 : TInfo := ⟨(.int .i64), 1, 8, some [.int .i64 0], false⟩
theorem tyok2 : TOk1 Try.prog 2 i2 := tok1 Try.typeInfo2 rfl rfl (tz1 _ rfl rfl rfl rfl) Try.underlying2 (fun h => absurd h (by decide))
def i3 : TInfo := ⟨(.int .i64), 1, 8, some [.int .i64 0], false⟩
theorem tyok3 : TOk1 Try.prog 3 i3 := tok1 Try.typeInfo3 rfl rfl (tz1 _ rfl rfl rfl rfl) Try.underlying3 (fun h => absurd h (by decide))
def i4 : TInfo := ⟨.bool, 1, 1, some [.bool false], false⟩
theorem tyok4 : TOk1 Try.prog 4 i4 := tok1 Try.typeInfo4 rfl rfl (tz1 _ rfl rfl rfl rfl) Try.underlying4 (fun h => absurd h (by decide))
def i5 : TInfo := ⟨(.int .u8), 1, 1, some [.int .u8 0], false⟩
theorem tyok5 : TOk1 Try.prog 5 i5 := tok1 Try.typeInfo5 rfl rfl (tz1 _ rfl rfl rfl rfl) Try.underlying5 (fun h => absurd h (by decide))
def i9 : TInfo := ⟨.str, 1, 16, some [.str []], false⟩
theorem tyok9 : TOk1 Try.prog 9 i9 := tok1 Try.typeInfo9 rfl rfl (tz1 _ rfl rfl rfl rfl) Try.underlying9 (fun h => absurd h (by decide))
def i21 : TInfo := ⟨(.int .i32), 1, 4, some [.int .i32 0], false⟩
theorem tyok21 : TOk1 Try.prog 21 i21 := tok1 Try.typeInfo21 rfl rfl (tz1 _ rfl rfl rfl rfl) Try.underlying21 (fun h => absurd h (by decide))
def i24 : TInfo := ⟨(.slice 2), 1, 24, some [.nils], false⟩
theorem tyok24 : TOk1 Try.prog 24 i24 := tok1 Try.typeInfo24 rfl rfl (tz1 _ rfl rfl rfl rfl) Try.underlying24 (fun h => absurd h (by decide))
def i26 : TInfo := ⟨(.struct [(0, 2), (1, 2), (2, 24), (3, 24), (4, 24)]), 5, 88, some [.int .i64 0, .int .i64 0, .nils, .nils, .nils], false⟩
theorem tyok26 : TOk1 Try.prog 26 i26 := tok1 Try.typeInfo26 rfl rfl (tz1 _ rfl rfl rfl rfl) (kstruct Try.underlying26 rfl) (fun h => absurd h (by decide))
def i29 : TInfo := ⟨(.struct [(0, 2), (1, 2), (2, 24), (3, 24), (4, 24)]), 5, 88, some [.int .i64 0, .int .i64 0, .nils, .nils, .nils], false⟩
theorem tyok29 : TOk1 Try.prog 29 i29 := tok1 Try.typeInfo29 rfl rfl (tz1 _ rfl rfl rfl rfl) (kstruct Try.underlying29 rfl) (fun h => absurd h (by decide))
def i33 : TInfo := ⟨(.struct [(0, 2), (1, 2), (2, 24), (3, 24), (4, 24)]), 5, 88, some [.int .i64 0, .int .i64 0, .nils, .nils, .nils], false⟩
theorem tyok33 : TOk1 Try.prog 33 i33 := tok1 Try.typeInfo33 rfl rfl (tz1 _ rfl rfl rfl rfl) (kstruct Try.underlying33 rfl) (fun h => absurd h (by decide))
def i36 : TInfo := ⟨(.struct [(0, 2), (1, 2), (2, 24), (3, 24), (4, 24)]), 5, 88, some [.int .i64 0, .int .i64 0, .nils, .nils, .nils], false⟩
theorem tyok36 : TOk1 Try.prog 36 i36 := tok1 Try.typeInfo36 rfl rfl (tz1 _ rfl rfl rfl rfl) (kstruct Try.underlying36 rfl) (fun h => absurd h (by decide))
def i40 : TInfo := ⟨(.struct [(0, 2), (1, 2), (2, 24)]), 3, 40, some [.int .i64 0, .int .i64 0, .nils], false⟩
theorem tyok40 : TOk1 Try.prog 40 i40 := tok1 Try.typeInfo40 rfl rfl (tz1 _ rfl rfl rfl rfl) (kstruct Try.underlying40 rfl) (fun h => absurd h (by decide))
def i43 : TInfo := ⟨(.struct [(0, 2), (1, 2), (2, 24)]), 3, 40, some [.int .i64 0, .int .i64 0, .nils], false⟩
theorem tyok43 : TOk1 Try.prog 43 i43 := tok1 Try.typeInfo43 rfl rfl (tz1 _ rfl rfl rfl rfl) (kstruct Try.underlying43 rfl) (fun h => absurd h (by decide))
def i47 : TInfo := ⟨(.slice 5), 1, 24, some [.nils], false⟩
theorem tyok47 : TOk1 Try.prog 47 i47 := tok1 Try.typeInfo47 rfl rfl (tz1 _ rfl rfl rfl rfl) Try.underlying47 (fun h => absurd h (by decide))
def i49 : TInfo := ⟨(.struct [(0, 2), (1, 47)]), 2, 32, some [.int .i64 0, .nils], false⟩
theorem tyok49 : TOk1 Try.prog 49 i49 := tok1 Try.typeInfo49 rfl rfl (tz1 _ rfl rfl rfl rfl) (kstruct Try.underlying49 rfl) (fun h => absurd h (by decide))
def i54 : TInfo := ⟨(.struct [(0, 47), (1, 47)]), 2, 48, some [.nils, .nils], false⟩
theorem tyok54 : TOk1 Try.prog 54 i54 := tok1 Try.typeInfo54 rfl rfl (tz1 _ rfl rfl rfl rfl) (kstruct Try.underlying54 rfl) (fun h => absurd h (by decide))
def i57 : TInfo := ⟨(.struct [(0, 47), (1, 47)]), 2, 48, some [.nils, .nils], false⟩
theorem tyok57 : TOk1 Try.prog 57 i57 := tok1 Try.typeInfo57 rfl rfl (tz1 _ rfl rfl rfl rfl) (kstruct Try.underlying57 rfl) (fun h => absurd h (by decide))
def i61 : TInfo := ⟨(.slice 9), 1, 24, some [.nils], false⟩
theorem tyok61 : TOk1 Try.prog 61 i61 := tok1 Try.typeInfo61 rfl rfl (tz1 _ rfl rfl rfl rfl) Try.underlying61 (fun h => absurd h (by decide))
def i63 : TInfo := ⟨(.struct [(0, 2), (1, 4), (2, 61)]), 3, 40, some [.int .i64 0, .bool false, .nils], false⟩
theorem tyok63 : TOk1 Try.prog 63 i63 := tok1 Try.typeInfo63 rfl rfl (tz1 _ rfl rfl rfl rfl) (kstruct Try.underlying63 rfl) (fun h => absurd h (by decide))
def i74 : TInfo := ⟨(.struct [(0, 2), (1, 2), (2, 57)]), 4, 64, some [.int .i64 0, .int .i64 0, .nils, .nils], false⟩
theorem tyok74 : TOk1 Try.prog 74 i74 := tok1 Try.typeInfo74 rfl rfl (tz1 _ rfl rfl rfl rfl) (kstruct Try.underlying74 rfl) (fun h => absurd h (by decide))
def i87 : TInfo := ⟨(.slice 172), 1, 24, some [.nils], false⟩
theorem tyok87 : TOk1 Try.prog 87 i87 := tok1 Try.typeInfo87 rfl rfl (tz1 _ rfl rfl rfl rfl) Try.underlying87 (fun h => absurd h (by decide))
def i88 : TInfo := ⟨(.slice 175), 1, 24, some [.nils], false⟩
theorem tyok88 : TOk1 Try.prog 88 i88 := tok1 Try.typeInfo88 rfl rfl (tz1 _ rfl rfl rfl rfl) Try.underlying88 (fun h => absurd h (by decide))
def i90 : TInfo := ⟨(.struct [(0, 87), (1, 88), (2, 2)]), 3, 56, some [.nils, .nils, .int .i64 0], false⟩
theorem tyok90 : TOk1 Try.prog 90 i90 := tok1 Try.typeInfo90 rfl rfl (tz1 _ rfl rfl rfl rfl) (kstruct Try.underlying90 rfl) (fun h => absurd h (by decide))
def i93 : TInfo := ⟨(.slice 144), 1, 24, some [.nils], false⟩
theorem tyok93 : TOk1 Try.prog 93 i93 := tok1 Try.typeInfo93 rfl rfl (tz1 _ rfl rfl rfl rfl) Try.underlying93 (fun h => absurd h (by decide))
def i94 : TInfo := ⟨(.slice 146), 1, 24, some [.nils], false⟩
theorem tyok94 : TOk1 Try.prog 94 i94 := tok1 Try.typeInfo94 rfl rfl (tz1 _ rfl rfl rfl rfl) Try.underlying94 (fun h => absurd h (by decide))
def i96 : TInfo := ⟨(.struct [(0, 93), (1, 94), (2, 2)]), 3, 56, some [.nils, .nils, .int .i64 0], false⟩
theorem tyok96 : TOk1 Try.prog 96 i96 := tok1 Try.typeInfo96 rfl rfl (tz1 _ rfl rfl rfl rfl) (kstruct Try.underlying96 rfl) (fun h => absurd h (by decide))
def i99 : TInfo := ⟨(.slice 186), 1, 24, some [.nils], false⟩
theorem tyok99 : TOk1 Try.prog 99 i99 := tok1 Try.typeInfo99 rfl rfl (tz1 _ rfl rfl rfl rfl) Try.underlying99 (fun h => absurd h (by decide))
def i101 : TInfo := ⟨(.struct [(0, 90), (3, 99)]), 4, 80, some [.nils, .nils, .int .i64 0, .nils], false⟩
theorem tyok101 : TOk1 Try.prog 101 i101 := tok1 Try.typeInfo101 rfl rfl (tz1 _ rfl rfl rfl rfl) (kstruct Try.underlying101 rfl) (fun h => absurd h (by decide))
def i104 : TInfo := ⟨(.slice 157), 1, 24, some [.nils], false⟩
theorem tyok104 : TOk1 Try.prog 104 i104 := tok1 Try.typeInfo104 rfl rfl (tz1 _ rfl rfl rfl rfl) Try.underlying104 (fun h => absurd h (by decide))
def i106 : TInfo := ⟨(.struct [(0, 96), (3, 104)]), 4, 80, some [.nils, .nils, .int .i64 0, .nils], false⟩
theorem tyok106 : TOk1 Try.prog 106 i106 := tok1 Try.typeInfo106 rfl rfl (tz1 _ rfl rfl rfl rfl) (kstruct Try.underlying106 rfl) (fun h => absurd h (by decide))
def i120 : TInfo := ⟨(.pointer 57), 1, 8, some [.nilp], false⟩
theorem tyok120 : TOk1 Try.prog 120 i120 := tok1 Try.typeInfo120 rfl rfl (tz1 _ rfl rfl rfl rfl) Try.underlying120 (fun h => absurd h (by decide))
def i130 : TInfo := ⟨(.pointer 165), 1, 8, some [.nilp], false⟩
theorem tyok130 : TOk1 Try.prog 130 i130 := tok1 Try.typeInfo130 rfl rfl (tz1 _ rfl rfl rfl rfl) Try.underlying130 (fun h => absurd h (by decide))
def i142 : TInfo := ⟨(.slice 179), 1, 24, some [.nils], false⟩
theorem tyok142 : TOk1 Try.prog 142 i142 := tok1 Try.typeInfo142 rfl rfl (tz1 _ rfl rfl rfl rfl) Try.underlying142 (fun h => absurd h (by decide))
def i144 : TInfo := ⟨(.struct [(0, 142)]), 1, 24, some [.nils], false⟩
theorem tyok144 : TOk1 Try.prog 144 i144 := tok1 Try.typeInfo144 rfl rfl (tz1 _ rfl rfl rfl rfl) (kstruct Try.underlying144 rfl) (fun h => absurd h (by decide))
def i146 : TInfo := ⟨(.struct [(0, 2), (1, 29)]), 6, 96, some [.int .i64 0, .int .i64 0, .int .i64 0, .nils, .nils, .nils], false⟩
theorem tyok146 : TOk1 Try.prog 146 i146 := tok1 Try.typeInfo146 rfl rfl (tz1 _ rfl rfl rfl rfl) (kstruct Try.underlying146 rfl) (fun h => absurd h (by decide))
def i157 : TInfo := ⟨(.struct [(0, 2), (1, 2), (2, 2)]), 3, 24, some [.int .i64 0, .int .i64 0, .int .i64 0], true⟩
theorem tyok157 : TOk1 Try.prog 157 i157 := tok1 Try.typeInfo157 rfl rfl (tz1 _ rfl rfl rfl rfl) (kstruct Try.underlying157 rfl) (fun _ => flatEq (fs := [{ name := "Inst", type := 2, offset := 0, embedded := false, tag := "", pkgPath := "", byteOffset := 0 }, { name := "Step", type := 2, offset := 1, embedded := false, tag := "", pkgPath := "", byteOffset := 8 }, { name := "User", type := 2, offset := 2, embedded := false, tag := "", pkgPath := "", byteOffset := 16 }]) (by kernel_rfl) (by kernel_rfl) (by kernel_rfl) (by kernel_rfl) rfl (by intro j f h; match j, h with | 0, h => (cases h; exact ⟨rfl, by decide, Try.underlying2⟩) | 1, h => (cases h; exact ⟨rfl, by decide, Try.underlying2⟩) | 2, h => (cases h; exact ⟨rfl, by decide, Try.underlying2⟩) | (n + 3), h => simp at h))
def i162 : TInfo := ⟨(.int .u64), 1, 8, some [.int .u64 0], false⟩
theorem tyok162 : TOk1 Try.prog 162 i162 := tok1 Try.typeInfo162 rfl rfl (tz1 _ rfl rfl rfl rfl) Try.underlying162 (fun h => absurd h (by decide))
def i165 : TInfo := ⟨(.struct [(0, 47), (1, 2)]), 2, 32, some [.nils, .int .i64 0], false⟩
theorem tyok165 : TOk1 Try.prog 165 i165 := tok1 Try.typeInfo165 rfl rfl (tz1 _ rfl rfl rfl rfl) (kstruct Try.underlying165 rfl) (fun h => absurd h (by decide))
def i167 : TInfo := ⟨(.slice 47), 1, 24, some [.nils], false⟩
theorem tyok167 : TOk1 Try.prog 167 i167 := tok1 Try.typeInfo167 rfl rfl (tz1 _ rfl rfl rfl rfl) Try.underlying167 (fun h => absurd h (by decide))
def i170 : TInfo := ⟨(.slice 196), 1, 24, some [.nils], false⟩
theorem tyok170 : TOk1 Try.prog 170 i170 := tok1 Try.typeInfo170 rfl rfl (tz1 _ rfl rfl rfl rfl) Try.underlying170 (fun h => absurd h (by decide))
def i172 : TInfo := ⟨(.struct [(0, 170)]), 1, 24, some [.nils], false⟩
theorem tyok172 : TOk1 Try.prog 172 i172 := tok1 Try.typeInfo172 rfl rfl (tz1 _ rfl rfl rfl rfl) (kstruct Try.underlying172 rfl) (fun h => absurd h (by decide))
def i175 : TInfo := ⟨(.struct [(0, 2), (1, 26)]), 6, 96, some [.int .i64 0, .int .i64 0, .int .i64 0, .nils, .nils, .nils], false⟩
theorem tyok175 : TOk1 Try.prog 175 i175 := tok1 Try.typeInfo175 rfl rfl (tz1 _ rfl rfl rfl rfl) (kstruct Try.underlying175 rfl) (fun h => absurd h (by decide))
def i176 : TInfo := ⟨(.pointer 179), 1, 8, some [.nilp], false⟩
theorem tyok176 : TOk1 Try.prog 176 i176 := tok1 Try.typeInfo176 rfl rfl (tz1 _ rfl rfl rfl rfl) Try.underlying176 (fun h => absurd h (by decide))
def i177 : TInfo := ⟨(.slice 191), 1, 24, some [.nils], false⟩
theorem tyok177 : TOk1 Try.prog 177 i177 := tok1 Try.typeInfo177 rfl rfl (tz1 _ rfl rfl rfl rfl) Try.underlying177 (fun h => absurd h (by decide))
def i179 : TInfo := ⟨(.struct [(0, 2), (1, 2), (2, 9), (3, 2), (4, 177), (5, 177)]), 6, 88, some [.int .i64 0, .int .i64 0, .str [], .int .i64 0, .nils, .nils], false⟩
theorem tyok179 : TOk1 Try.prog 179 i179 := tok1 Try.typeInfo179 rfl rfl (tz1 _ rfl rfl rfl rfl) (kstruct Try.underlying179 rfl) (fun h => absurd h (by decide))
def i186 : TInfo := ⟨(.struct [(0, 2), (1, 2), (2, 2)]), 3, 24, some [.int .i64 0, .int .i64 0, .int .i64 0], true⟩
theorem tyok186 : TOk1 Try.prog 186 i186 := tok1 Try.typeInfo186 rfl rfl (tz1 _ rfl rfl rfl rfl) (kstruct Try.underlying186 rfl) (fun _ => flatEq (fs := [{ name := "Inst", type := 2, offset := 0, embedded := false, tag := "", pkgPath := "", byteOffset := 0 }, { name := "Step", type := 2, offset := 1, embedded := false, tag := "", pkgPath := "", byteOffset := 8 }, { name := "User", type := 2, offset := 2, embedded := false, tag := "", pkgPath := "", byteOffset := 16 }]) (by kernel_rfl) (by kernel_rfl) (by kernel_rfl) (by kernel_rfl) rfl (by intro j f h; match j, h with | 0, h => (cases h; exact ⟨rfl, by decide, Try.underlying2⟩) | 1, h => (cases h; exact ⟨rfl, by decide, Try.underlying2⟩) | 2, h => (cases h; exact ⟨rfl, by decide, Try.underlying2⟩) | (n + 3), h => simp at h))
def i191 : TInfo := ⟨(.struct [(0, 2), (1, 2), (2, 2), (3, 2)]), 4, 32, some [.int .i64 0, .int .i64 0, .int .i64 0, .int .i64 0], true⟩
theorem tyok191 : TOk1 Try.prog 191 i191 := tok1 Try.typeInfo191 rfl rfl (tz1 _ rfl rfl rfl rfl) (kstruct Try.underlying191 rfl) (fun _ => flatEq (fs := [{ name := "Kind", type := 2, offset := 0, embedded := false, tag := "", pkgPath := "", byteOffset := 0 }, { name := "Value", type := 2, offset := 1, embedded := false, tag := "", pkgPath := "", byteOffset := 8 }, { name := "Left", type := 2, offset := 2, embedded := false, tag := "", pkgPath := "", byteOffset := 16 }, { name := "Right", type := 2, offset := 3, embedded := false, tag := "", pkgPath := "", byteOffset := 24 }]) (by kernel_rfl) (by kernel_rfl) (by kernel_rfl) (by kernel_rfl) rfl (by intro j f h; match j, h with | 0, h => (cases h; exact ⟨rfl, by decide, Try.underlying2⟩) | 1, h => (cases h; exact ⟨rfl, by decide, Try.underlying2⟩) | 2, h => (cases h; exact ⟨rfl, by decide, Try.underlying2⟩) | 3, h => (cases h; exact ⟨rfl, by decide, Try.underlying2⟩) | (n + 4), h => simp at h))
def i194 : TInfo := ⟨(.slice 201), 1, 24, some [.nils], false⟩
theorem tyok194 : TOk1 Try.prog 194 i194 := tok1 Try.typeInfo194 rfl rfl (tz1 _ rfl rfl rfl rfl) Try.underlying194 (fun h => absurd h (by decide))
def i196 : TInfo := ⟨(.struct [(0, 2), (1, 2), (2, 9), (3, 2), (4, 194), (5, 194)]), 6, 88, some [.int .i64 0, .int .i64 0, .str [], .int .i64 0, .nils, .nils], false⟩
theorem tyok196 : TOk1 Try.prog 196 i196 := tok1 Try.typeInfo196 rfl rfl (tz1 _ rfl rfl rfl rfl) (kstruct Try.underlying196 rfl) (fun h => absurd h (by decide))
def i201 : TInfo := ⟨(.struct [(0, 2), (1, 2), (2, 2), (3, 2)]), 4, 32, some [.int .i64 0, .int .i64 0, .int .i64 0, .int .i64 0], true⟩
theorem tyok201 : TOk1 Try.prog 201 i201 := tok1 Try.typeInfo201 rfl rfl (tz1 _ rfl rfl rfl rfl) (kstruct Try.underlying201 rfl) (fun _ => flatEq (fs := [{ name := "Kind", type := 2, offset := 0, embedded := false, tag := "", pkgPath := "", byteOffset := 0 }, { name := "Value", type := 2, offset := 1, embedded := false, tag := "", pkgPath := "", byteOffset := 8 }, { name := "Left", type := 2, offset := 2, embedded := false, tag := "", pkgPath := "", byteOffset := 16 }, { name := "Right", type := 2, offset := 3, embedded := false, tag := "", pkgPath := "", byteOffset := 24 }]) (by kernel_rfl) (by kernel_rfl) (by kernel_rfl) (by kernel_rfl) rfl (by intro j f h; match j, h with | 0, h => (cases h; exact ⟨rfl, by decide, Try.underlying2⟩) | 1, h => (cases h; exact ⟨rfl, by decide, Try.underlying2⟩) | 2, h => (cases h; exact ⟨rfl, by decide, Try.underlying2⟩) | 3, h => (cases h; exact ⟨rfl, by decide, Try.underlying2⟩) | (n + 4), h => simp at h))
def i210 : TInfo := ⟨(.int .u32), 1, 4, some [.int .u32 0], false⟩
theorem tyok210 : TOk1 Try.prog 210 i210 := tok1 Try.typeInfo210 rfl rfl (tz1 _ rfl rfl rfl rfl) Try.underlying210 (fun h => absurd h (by decide))
def i214 : TInfo := ⟨(.pointer 5), 1, 8, some [.nilp], false⟩
theorem tyok214 : TOk1 Try.prog 214 i214 := tok1 Try.typeInfo214 rfl rfl (tz1 _ rfl rfl rfl rfl) Try.underlying214 (fun h => absurd h (by decide))
def ti : TI := tiAdd 2 i2 (tiAdd 3 i3 (tiAdd 4 i4 (tiAdd 5 i5 (tiAdd 9 i9 (tiAdd 21 i21 (tiAdd 24 i24 (tiAdd 26 i26 (tiAdd 29 i29 (tiAdd 33 i33 (tiAdd 36 i36 (tiAdd 40 i40 (tiAdd 43 i43 (tiAdd 47 i47 (tiAdd 49 i49 (tiAdd 54 i54 (tiAdd 57 i57 (tiAdd 61 i61 (tiAdd 63 i63 (tiAdd 74 i74 (tiAdd 87 i87 (tiAdd 88 i88 (tiAdd 90 i90 (tiAdd 93 i93 (tiAdd 94 i94 (tiAdd 96 i96 (tiAdd 99 i99 (tiAdd 101 i101 (tiAdd 104 i104 (tiAdd 106 i106 (tiAdd 120 i120 (tiAdd 130 i130 (tiAdd 142 i142 (tiAdd 144 i144 (tiAdd 146 i146 (tiAdd 157 i157 (tiAdd 162 i162 (tiAdd 165 i165 (tiAdd 167 i167 (tiAdd 170 i170 (tiAdd 172 i172 (tiAdd 175 i175 (tiAdd 176 i176 (tiAdd 177 i177 (tiAdd 179 i179 (tiAdd 186 i186 (tiAdd 191 i191 (tiAdd 194 i194 (tiAdd 196 i196 (tiAdd 201 i201 (tiAdd 210 i210 (tiAdd 214 i214 (fun _ => none))))))))))))))))))))))))))))))))))))))))))))))))))))
theorem tiOk : TOk Try.prog ti := tok_add tyok2 (tok_add tyok3 (tok_add tyok4 (tok_add tyok5 (tok_add tyok9 (tok_add tyok21 (tok_add tyok24 (tok_add tyok26 (tok_add tyok29 (tok_add tyok33 (tok_add tyok36 (tok_add tyok40 (tok_add tyok43 (tok_add tyok47 (tok_add tyok49 (tok_add tyok54 (tok_add tyok57 (tok_add tyok61 (tok_add tyok63 (tok_add tyok74 (tok_add tyok87 (tok_add tyok88 (tok_add tyok90 (tok_add tyok93 (tok_add tyok94 (tok_add tyok96 (tok_add tyok99 (tok_add tyok101 (tok_add tyok104 (tok_add tyok106 (tok_add tyok120 (tok_add tyok130 (tok_add tyok142 (tok_add tyok144 (tok_add tyok146 (tok_add tyok157 (tok_add tyok162 (tok_add tyok165 (tok_add tyok167 (tok_add tyok170 (tok_add tyok172 (tok_add tyok175 (tok_add tyok176 (tok_add tyok177 (tok_add tyok179 (tok_add tyok186 (tok_add tyok191 (tok_add tyok194 (tok_add tyok196 (tok_add tyok201 (tok_add tyok210 (tok_add tyok214 (tok_nil))))))))))))))))))))))))))))))))))))))))))))))))))))
@[go_sem] theorem ti_2 : ti 2 = some ⟨(.int .i64), 1, 8, some [.int .i64 0], false⟩ := rfl
@[go_sem] theorem ti_3 : ti 3 = some ⟨(.int .i64), 1, 8, some [.int .i64 0], false⟩ := rfl
@[go_sem] theorem ti_4 : ti 4 = some ⟨.bool, 1, 1, some [.bool false], false⟩ := rfl
@[go_sem] theorem ti_5 : ti 5 = some ⟨(.int .u8), 1, 1, some [.int .u8 0], false⟩ := rfl
@[go_sem] theorem ti_9 : ti 9 = some ⟨.str, 1, 16, some [.str []], false⟩ := rfl
@[go_sem] theorem ti_21 : ti 21 = some ⟨(.int .i32), 1, 4, some [.int .i32 0], false⟩ := rfl
@[go_sem] theorem ti_24 : ti 24 = some ⟨(.slice 2), 1, 24, some [.nils], false⟩ := rfl
@[go_sem] theorem ti_26 : ti 26 = some ⟨(.struct [(0, 2), (1, 2), (2, 24), (3, 24), (4, 24)]), 5, 88, some [.int .i64 0, .int .i64 0, .nils, .nils, .nils], false⟩ := rfl
@[go_sem] theorem ti_29 : ti 29 = some ⟨(.struct [(0, 2), (1, 2), (2, 24), (3, 24), (4, 24)]), 5, 88, some [.int .i64 0, .int .i64 0, .nils, .nils, .nils], false⟩ := rfl
@[go_sem] theorem ti_33 : ti 33 = some ⟨(.struct [(0, 2), (1, 2), (2, 24), (3, 24), (4, 24)]), 5, 88, some [.int .i64 0, .int .i64 0, .nils, .nils, .nils], false⟩ := rfl
@[go_sem] theorem ti_36 : ti 36 = some ⟨(.struct [(0, 2), (1, 2), (2, 24), (3, 24), (4, 24)]), 5, 88, some [.int .i64 0, .int .i64 0, .nils, .nils, .nils], false⟩ := rfl
@[go_sem] theorem ti_40 : ti 40 = some ⟨(.struct [(0, 2), (1, 2), (2, 24)]), 3, 40, some [.int .i64 0, .int .i64 0, .nils], false⟩ := rfl
@[go_sem] theorem ti_43 : ti 43 = some ⟨(.struct [(0, 2), (1, 2), (2, 24)]), 3, 40, some [.int .i64 0, .int .i64 0, .nils], false⟩ := rfl
@[go_sem] theorem ti_47 : ti 47 = some ⟨(.slice 5), 1, 24, some [.nils], false⟩ := rfl
@[go_sem] theorem ti_49 : ti 49 = some ⟨(.struct [(0, 2), (1, 47)]), 2, 32, some [.int .i64 0, .nils], false⟩ := rfl
@[go_sem] theorem ti_54 : ti 54 = some ⟨(.struct [(0, 47), (1, 47)]), 2, 48, some [.nils, .nils], false⟩ := rfl
@[go_sem] theorem ti_57 : ti 57 = some ⟨(.struct [(0, 47), (1, 47)]), 2, 48, some [.nils, .nils], false⟩ := rfl
@[go_sem] theorem ti_61 : ti 61 = some ⟨(.slice 9), 1, 24, some [.nils], false⟩ := rfl
@[go_sem] theorem ti_63 : ti 63 = some ⟨(.struct [(0, 2), (1, 4), (2, 61)]), 3, 40, some [.int .i64 0, .bool false, .nils], false⟩ := rfl
@[go_sem] theorem ti_74 : ti 74 = some ⟨(.struct [(0, 2), (1, 2), (2, 57)]), 4, 64, some [.int .i64 0, .int .i64 0, .nils, .nils], false⟩ := rfl
@[go_sem] theorem ti_87 : ti 87 = some ⟨(.slice 172), 1, 24, some [.nils], false⟩ := rfl
@[go_sem] theorem ti_88 : ti 88 = some ⟨(.slice 175), 1, 24, some [.nils], false⟩ := rfl
@[go_sem] theorem ti_90 : ti 90 = some ⟨(.struct [(0, 87), (1, 88), (2, 2)]), 3, 56, some [.nils, .nils, .int .i64 0], false⟩ := rfl
@[go_sem] theorem ti_93 : ti 93 = some ⟨(.slice 144), 1, 24, some [.nils], false⟩ := rfl
@[go_sem] theorem ti_94 : ti 94 = some ⟨(.slice 146), 1, 24, some [.nils], false⟩ := rfl
@[go_sem] theorem ti_96 : ti 96 = some ⟨(.struct [(0, 93), (1, 94), (2, 2)]), 3, 56, some [.nils, .nils, .int .i64 0], false⟩ := rfl
@[go_sem] theorem ti_99 : ti 99 = some ⟨(.slice 186), 1, 24, some [.nils], false⟩ := rfl
@[go_sem] theorem ti_101 : ti 101 = some ⟨(.struct [(0, 90), (3, 99)]), 4, 80, some [.nils, .nils, .int .i64 0, .nils], false⟩ := rfl
@[go_sem] theorem ti_104 : ti 104 = some ⟨(.slice 157), 1, 24, some [.nils], false⟩ := rfl
@[go_sem] theorem ti_106 : ti 106 = some ⟨(.struct [(0, 96), (3, 104)]), 4, 80, some [.nils, .nils, .int .i64 0, .nils], false⟩ := rfl
@[go_sem] theorem ti_120 : ti 120 = some ⟨(.pointer 57), 1, 8, some [.nilp], false⟩ := rfl
@[go_sem] theorem ti_130 : ti 130 = some ⟨(.pointer 165), 1, 8, some [.nilp], false⟩ := rfl
@[go_sem] theorem ti_142 : ti 142 = some ⟨(.slice 179), 1, 24, some [.nils], false⟩ := rfl
@[go_sem] theorem ti_144 : ti 144 = some ⟨(.struct [(0, 142)]), 1, 24, some [.nils], false⟩ := rfl
@[go_sem] theorem ti_146 : ti 146 = some ⟨(.struct [(0, 2), (1, 29)]), 6, 96, some [.int .i64 0, .int .i64 0, .int .i64 0, .nils, .nils, .nils], false⟩ := rfl
@[go_sem] theorem ti_157 : ti 157 = some ⟨(.struct [(0, 2), (1, 2), (2, 2)]), 3, 24, some [.int .i64 0, .int .i64 0, .int .i64 0], true⟩ := rfl
@[go_sem] theorem ti_162 : ti 162 = some ⟨(.int .u64), 1, 8, some [.int .u64 0], false⟩ := rfl
@[go_sem] theorem ti_165 : ti 165 = some ⟨(.struct [(0, 47), (1, 2)]), 2, 32, some [.nils, .int .i64 0], false⟩ := rfl
@[go_sem] theorem ti_167 : ti 167 = some ⟨(.slice 47), 1, 24, some [.nils], false⟩ := rfl
@[go_sem] theorem ti_170 : ti 170 = some ⟨(.slice 196), 1, 24, some [.nils], false⟩ := rfl
@[go_sem] theorem ti_172 : ti 172 = some ⟨(.struct [(0, 170)]), 1, 24, some [.nils], false⟩ := rfl
@[go_sem] theorem ti_175 : ti 175 = some ⟨(.struct [(0, 2), (1, 26)]), 6, 96, some [.int .i64 0, .int .i64 0, .int .i64 0, .nils, .nils, .nils], false⟩ := rfl
@[go_sem] theorem ti_176 : ti 176 = some ⟨(.pointer 179), 1, 8, some [.nilp], false⟩ := rfl
@[go_sem] theorem ti_177 : ti 177 = some ⟨(.slice 191), 1, 24, some [.nils], false⟩ := rfl
@[go_sem] theorem ti_179 : ti 179 = some ⟨(.struct [(0, 2), (1, 2), (2, 9), (3, 2), (4, 177), (5, 177)]), 6, 88, some [.int .i64 0, .int .i64 0, .str [], .int .i64 0, .nils, .nils], false⟩ := rfl
@[go_sem] theorem ti_186 : ti 186 = some ⟨(.struct [(0, 2), (1, 2), (2, 2)]), 3, 24, some [.int .i64 0, .int .i64 0, .int .i64 0], true⟩ := rfl
@[go_sem] theorem ti_191 : ti 191 = some ⟨(.struct [(0, 2), (1, 2), (2, 2), (3, 2)]), 4, 32, some [.int .i64 0, .int .i64 0, .int .i64 0, .int .i64 0], true⟩ := rfl
@[go_sem] theorem ti_194 : ti 194 = some ⟨(.slice 201), 1, 24, some [.nils], false⟩ := rfl
@[go_sem] theorem ti_196 : ti 196 = some ⟨(.struct [(0, 2), (1, 2), (2, 9), (3, 2), (4, 194), (5, 194)]), 6, 88, some [.int .i64 0, .int .i64 0, .str [], .int .i64 0, .nils, .nils], false⟩ := rfl
@[go_sem] theorem ti_201 : ti 201 = some ⟨(.struct [(0, 2), (1, 2), (2, 2), (3, 2)]), 4, 32, some [.int .i64 0, .int .i64 0, .int .i64 0, .int .i64 0], true⟩ := rfl
@[go_sem] theorem ti_210 : ti 210 = some ⟨(.int .u32), 1, 4, some [.int .u32 0], false⟩ := rfl
@[go_sem] theorem ti_214 : ti 214 = some ⟨(.pointer 5), 1, 8, some [.nilp], false⟩ := rfl
end Go.AM
