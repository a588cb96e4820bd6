/- Joined texts: Ty Rd T1 T2 Pv S1 Px Py Pz En2 Pe Pf. -/
import Derived.Test.YtilmgakneefdmaaGreatB1
import Derived.Test.YtilmgakneefdmaaGreatB2
import Derived.Test.YtilmgakneefdmaaGreatProg
set_option linter.unusedVariables false
set_option linter.unusedSimpArgs false
/-! ### Ty -/
set_option linter.unusedVariables false
set_option linter.unusedSimpArgs false
namespace Go.AM
open Go.Proofs

def i2 : TInfo := ⟨(.int .i64), 1, 8, some [.int .i64 0], false⟩
theorem tyok2 : TOk1 Tryz.prog 2 i2 := tok1 Tryz.typeInfo2 rfl rfl (tz1 _ rfl rfl rfl rfl) Tryz.underlying2 (fun h => absurd h (by decide))
def i3 : TInfo := ⟨(.int .i64), 1, 8, some [.int .i64 0], false⟩
theorem tyok3 : TOk1 Tryz.prog 3 i3 := tok1 Tryz.typeInfo3 rfl rfl (tz1 _ rfl rfl rfl rfl) Tryz.underlying3 (fun h => absurd h (by decide))
def i4 : TInfo := ⟨.bool, 1, 1, some [.bool false], false⟩
theorem tyok4 : TOk1 Tryz.prog 4 i4 := tok1 Tryz.typeInfo4 rfl rfl (tz1 _ rfl rfl rfl rfl) Tryz.underlying4 (fun h => absurd h (by decide))
def i5 : TInfo := ⟨(.int .u8), 1, 1, some [.int .u8 0], false⟩
theorem tyok5 : TOk1 Tryz.prog 5 i5 := tok1 Tryz.typeInfo5 rfl rfl (tz1 _ rfl rfl rfl rfl) Tryz.underlying5 (fun h => absurd h (by decide))
def i9 : TInfo := ⟨.str, 1, 16, some [.str []], false⟩
theorem tyok9 : TOk1 Tryz.prog 9 i9 := tok1 Tryz.typeInfo9 rfl rfl (tz1 _ rfl rfl rfl rfl) Tryz.underlying9 (fun h => absurd h (by decide))
def i21 : TInfo := ⟨(.int .i32), 1, 4, some [.int .i32 0], false⟩
theorem tyok21 : TOk1 Tryz.prog 21 i21 := tok1 Tryz.typeInfo21 rfl rfl (tz1 _ rfl rfl rfl rfl) Tryz.underlying21 (fun h => absurd h (by decide))
def i22 : TInfo := ⟨(.slice 77), 1, 24, some [.nils], false⟩
theorem tyok22 : TOk1 Tryz.prog 22 i22 := tok1 Tryz.typeInfo22 rfl rfl (tz1 _ rfl rfl rfl rfl) Tryz.underlying22 (fun h => absurd h (by decide))
def i24 : TInfo := ⟨(.slice 82), 1, 24, some [.nils], false⟩
theorem tyok24 : TOk1 Tryz.prog 24 i24 := tok1 Tryz.typeInfo24 rfl rfl (tz1 _ rfl rfl rfl rfl) Tryz.underlying24 (fun h => absurd h (by decide))
def i25 : TInfo := ⟨(.slice 110), 1, 24, some [.nils], false⟩
theorem tyok25 : TOk1 Tryz.prog 25 i25 := tok1 Tryz.typeInfo25 rfl rfl (tz1 _ rfl rfl rfl rfl) Tryz.underlying25 (fun h => absurd h (by decide))
def i27 : TInfo := ⟨(.struct [(0, 24), (1, 25), (2, 2)]), 3, 56, some [.nils, .nils, .int .i64 0], false⟩
theorem tyok27 : TOk1 Tryz.prog 27 i27 := tok1 Tryz.typeInfo27 rfl rfl (tz1 _ rfl rfl rfl rfl) (kstruct Tryz.underlying27 rfl) (fun h => absurd h (by decide))
def i28 : TInfo := ⟨(.slice 96), 1, 24, some [.nils], false⟩
theorem tyok28 : TOk1 Tryz.prog 28 i28 := tok1 Tryz.typeInfo28 rfl rfl (tz1 _ rfl rfl rfl rfl) Tryz.underlying28 (fun h => absurd h (by decide))
def i30 : TInfo := ⟨(.struct [(0, 27), (3, 28)]), 4, 80, some [.nils, .nils, .int .i64 0, .nils], false⟩
theorem tyok30 : TOk1 Tryz.prog 30 i30 := tok1 Tryz.typeInfo30 rfl rfl (tz1 _ rfl rfl rfl rfl) (kstruct Tryz.underlying30 rfl) (fun h => absurd h (by decide))
def i31 : TInfo := ⟨(.slice 5), 1, 24, some [.nils], false⟩
theorem tyok31 : TOk1 Tryz.prog 31 i31 := tok1 Tryz.typeInfo31 rfl rfl (tz1 _ rfl rfl rfl rfl) Tryz.underlying31 (fun h => absurd h (by decide))
def i33 : TInfo := ⟨(.struct [(0, 31), (1, 31)]), 2, 48, some [.nils, .nils], false⟩
theorem tyok33 : TOk1 Tryz.prog 33 i33 := tok1 Tryz.typeInfo33 rfl rfl (tz1 _ rfl rfl rfl rfl) (kstruct Tryz.underlying33 rfl) (fun h => absurd h (by decide))
def i35 : TInfo := ⟨(.struct [(0, 30), (4, 33)]), 6, 128, some [.nils, .nils, .int .i64 0, .nils, .nils, .nils], false⟩
theorem tyok35 : TOk1 Tryz.prog 35 i35 := tok1 Tryz.typeInfo35 rfl rfl (tz1 _ rfl rfl rfl rfl) (kstruct Tryz.underlying35 rfl) (fun h => absurd h (by decide))
def i37 : TInfo := ⟨(.struct [(0, 2), (1, 2), (2, 2), (3, 35)]), 9, 152, some [.int .i64 0, .int .i64 0, .int .i64 0, .nils, .nils, .int .i64 0, .nils, .nils, .nils], false⟩
theorem tyok37 : TOk1 Tryz.prog 37 i37 := tok1 Tryz.typeInfo37 rfl rfl (tz1 _ rfl rfl rfl rfl) (kstruct Tryz.underlying37 rfl) (fun h => absurd h (by decide))
def i45 : TInfo := ⟨(.slice 156), 1, 24, some [.nils], false⟩
theorem tyok45 : TOk1 Tryz.prog 45 i45 := tok1 Tryz.typeInfo45 rfl rfl (tz1 _ rfl rfl rfl rfl) Tryz.underlying45 (fun h => absurd h (by decide))
def i47 : TInfo := ⟨(.struct [(0, 22), (1, 45), (2, 2)]), 3, 56, some [.nils, .nils, .int .i64 0], false⟩
theorem tyok47 : TOk1 Tryz.prog 47 i47 := tok1 Tryz.typeInfo47 rfl rfl (tz1 _ rfl rfl rfl rfl) (kstruct Tryz.underlying47 rfl) (fun h => absurd h (by decide))
def i48 : TInfo := ⟨(.slice 148), 1, 24, some [.nils], false⟩
theorem tyok48 : TOk1 Tryz.prog 48 i48 := tok1 Tryz.typeInfo48 rfl rfl (tz1 _ rfl rfl rfl rfl) Tryz.underlying48 (fun h => absurd h (by decide))
def i50 : TInfo := ⟨(.struct [(0, 47), (3, 48)]), 4, 80, some [.nils, .nils, .int .i64 0, .nils], false⟩
theorem tyok50 : TOk1 Tryz.prog 50 i50 := tok1 Tryz.typeInfo50 rfl rfl (tz1 _ rfl rfl rfl rfl) (kstruct Tryz.underlying50 rfl) (fun h => absurd h (by decide))
def i58 : TInfo := ⟨(.struct [(0, 2), (1, 2), (2, 27)]), 5, 72, some [.int .i64 0, .int .i64 0, .nils, .nils, .int .i64 0], false⟩
theorem tyok58 : TOk1 Tryz.prog 58 i58 := tok1 Tryz.typeInfo58 rfl rfl (tz1 _ rfl rfl rfl rfl) (kstruct Tryz.underlying58 rfl) (fun h => absurd h (by decide))
def i67 : TInfo := ⟨(.struct [(0, 2), (1, 28)]), 2, 32, some [.int .i64 0, .nils], false⟩
theorem tyok67 : TOk1 Tryz.prog 67 i67 := tok1 Tryz.typeInfo67 rfl rfl (tz1 _ rfl rfl rfl rfl) (kstruct Tryz.underlying67 rfl) (fun h => absurd h (by decide))
def i75 : TInfo := ⟨(.slice 168), 1, 24, some [.nils], false⟩
theorem tyok75 : TOk1 Tryz.prog 75 i75 := tok1 Tryz.typeInfo75 rfl rfl (tz1 _ rfl rfl rfl rfl) Tryz.underlying75 (fun h => absurd h (by decide))
def i77 : TInfo := ⟨(.struct [(0, 75)]), 1, 24, some [.nils], false⟩
theorem tyok77 : TOk1 Tryz.prog 77 i77 := tok1 Tryz.typeInfo77 rfl rfl (tz1 _ rfl rfl rfl rfl) (kstruct Tryz.underlying77 rfl) (fun h => absurd h (by decide))
def i80 : TInfo := ⟨(.slice 140), 1, 24, some [.nils], false⟩
theorem tyok80 : TOk1 Tryz.prog 80 i80 := tok1 Tryz.typeInfo80 rfl rfl (tz1 _ rfl rfl rfl rfl) Tryz.underlying80 (fun h => absurd h (by decide))
def i82 : TInfo := ⟨(.struct [(0, 80)]), 1, 24, some [.nils], false⟩
theorem tyok82 : TOk1 Tryz.prog 82 i82 := tok1 Tryz.typeInfo82 rfl rfl (tz1 _ rfl rfl rfl rfl) (kstruct Tryz.underlying82 rfl) (fun h => absurd h (by decide))
def i90 : TInfo := ⟨(.pointer 30), 1, 8, some [.nilp], false⟩
theorem tyok90 : TOk1 Tryz.prog 90 i90 := tok1 Tryz.typeInfo90 rfl rfl (tz1 _ rfl rfl rfl rfl) Tryz.underlying90 (fun h => absurd h (by decide))
def i96 : TInfo := ⟨(.struct [(0, 2), (1, 2), (2, 2)]), 3, 24, some [.int .i64 0, .int .i64 0, .int .i64 0], true⟩
theorem tyok96 : TOk1 Tryz.prog 96 i96 := tok1 Tryz.typeInfo96 rfl rfl (tz1 _ rfl rfl rfl rfl) (kstruct Tryz.underlying96 rfl) (fun _ => flatEq (fs := [{ name := "Inst", type := 2, offset := 0, embedded := false, tag := "", pkgPath := "", byteOffset := 0 }, { name := "Step", type := 2, offset := 1, embedded := false, tag := "", pkgPath := "", byteOffset := 8 }, { name := "User", type := 2, offset := 2, embedded := false, tag := "", pkgPath := "", byteOffset := 16 }]) (by kernel_rfl) (by kernel_rfl) (by kernel_rfl) (by kernel_rfl) rfl (by intro j f h; match j, h with | 0, h => (cases h; exact ⟨rfl, by decide, Tryz.underlying2⟩) | 1, h => (cases h; exact ⟨rfl, by decide, Tryz.underlying2⟩) | 2, h => (cases h; exact ⟨rfl, by decide, Tryz.underlying2⟩) | (n + 3), h => simp at h))
def i104 : TInfo := ⟨(.pointer 27), 1, 8, some [.nilp], false⟩
theorem tyok104 : TOk1 Tryz.prog 104 i104 := tok1 Tryz.typeInfo104 rfl rfl (tz1 _ rfl rfl rfl rfl) Tryz.underlying104 (fun h => absurd h (by decide))
def i106 : TInfo := ⟨(.slice 2), 1, 24, some [.nils], false⟩
theorem tyok106 : TOk1 Tryz.prog 106 i106 := tok1 Tryz.typeInfo106 rfl rfl (tz1 _ rfl rfl rfl rfl) Tryz.underlying106 (fun h => absurd h (by decide))
def i108 : TInfo := ⟨(.struct [(0, 2), (1, 2), (2, 106), (3, 106), (4, 106)]), 5, 88, some [.int .i64 0, .int .i64 0, .nils, .nils, .nils], false⟩
theorem tyok108 : TOk1 Tryz.prog 108 i108 := tok1 Tryz.typeInfo108 rfl rfl (tz1 _ rfl rfl rfl rfl) (kstruct Tryz.underlying108 rfl) (fun h => absurd h (by decide))
def i110 : TInfo := ⟨(.struct [(0, 2), (1, 108)]), 6, 96, some [.int .i64 0, .int .i64 0, .int .i64 0, .nils, .nils, .nils], false⟩
theorem tyok110 : TOk1 Tryz.prog 110 i110 := tok1 Tryz.typeInfo110 rfl rfl (tz1 _ rfl rfl rfl rfl) (kstruct Tryz.underlying110 rfl) (fun h => absurd h (by decide))
def i113 : TInfo := ⟨(.pointer 108), 1, 8, some [.nilp], false⟩
theorem tyok113 : TOk1 Tryz.prog 113 i113 := tok1 Tryz.typeInfo113 rfl rfl (tz1 _ rfl rfl rfl rfl) Tryz.underlying113 (fun h => absurd h (by decide))
def i117 : TInfo := ⟨(.pointer 120), 1, 8, some [.nilp], false⟩
theorem tyok117 : TOk1 Tryz.prog 117 i117 := tok1 Tryz.typeInfo117 rfl rfl (tz1 _ rfl rfl rfl rfl) Tryz.underlying117 (fun h => absurd h (by decide))
def i120 : TInfo := ⟨(.struct [(0, 80), (1, 108)]), 6, 112, some [.nils, .int .i64 0, .int .i64 0, .nils, .nils, .nils], false⟩
theorem tyok120 : TOk1 Tryz.prog 120 i120 := tok1 Tryz.typeInfo120 rfl rfl (tz1 _ rfl rfl rfl rfl) (kstruct Tryz.underlying120 rfl) (fun h => absurd h (by decide))
def i138 : TInfo := ⟨(.slice 175), 1, 24, some [.nils], false⟩
theorem tyok138 : TOk1 Tryz.prog 138 i138 := tok1 Tryz.typeInfo138 rfl rfl (tz1 _ rfl rfl rfl rfl) Tryz.underlying138 (fun h => absurd h (by decide))
def i140 : TInfo := ⟨(.struct [(0, 2), (1, 2), (2, 9), (3, 2), (4, 138), (5, 138)]), 6, 88, some [.int .i64 0, .int .i64 0, .str [], .int .i64 0, .nils, .nils], false⟩
theorem tyok140 : TOk1 Tryz.prog 140 i140 := tok1 Tryz.typeInfo140 rfl rfl (tz1 _ rfl rfl rfl rfl) (kstruct Tryz.underlying140 rfl) (fun h => absurd h (by decide))
def i148 : TInfo := ⟨(.struct [(0, 2), (1, 2), (2, 2)]), 3, 24, some [.int .i64 0, .int .i64 0, .int .i64 0], true⟩
theorem tyok148 : TOk1 Tryz.prog 148 i148 := tok1 Tryz.typeInfo148 rfl rfl (tz1 _ rfl rfl rfl rfl) (kstruct Tryz.underlying148 rfl) (fun _ => flatEq (fs := [{ name := "Inst", type := 2, offset := 0, embedded := false, tag := "", pkgPath := "", byteOffset := 0 }, { name := "Step", type := 2, offset := 1, embedded := false, tag := "", pkgPath := "", byteOffset := 8 }, { name := "User", type := 2, offset := 2, embedded := false, tag := "", pkgPath := "", byteOffset := 16 }]) (by kernel_rfl) (by kernel_rfl) (by kernel_rfl) (by kernel_rfl) rfl (by intro j f h; match j, h with | 0, h => (cases h; exact ⟨rfl, by decide, Tryz.underlying2⟩) | 1, h => (cases h; exact ⟨rfl, by decide, Tryz.underlying2⟩) | 2, h => (cases h; exact ⟨rfl, by decide, Tryz.underlying2⟩) | (n + 3), h => simp at h))
def i154 : TInfo := ⟨(.struct [(0, 2), (1, 2), (2, 106), (3, 106), (4, 106)]), 5, 88, some [.int .i64 0, .int .i64 0, .nils, .nils, .nils], false⟩
theorem tyok154 : TOk1 Tryz.prog 154 i154 := tok1 Tryz.typeInfo154 rfl rfl (tz1 _ rfl rfl rfl rfl) (kstruct Tryz.underlying154 rfl) (fun h => absurd h (by decide))
def i156 : TInfo := ⟨(.struct [(0, 2), (1, 154)]), 6, 96, some [.int .i64 0, .int .i64 0, .int .i64 0, .nils, .nils, .nils], false⟩
theorem tyok156 : TOk1 Tryz.prog 156 i156 := tok1 Tryz.typeInfo156 rfl rfl (tz1 _ rfl rfl rfl rfl) (kstruct Tryz.underlying156 rfl) (fun h => absurd h (by decide))
def i163 : TInfo := ⟨(.pointer 110), 1, 8, some [.nilp], false⟩
theorem tyok163 : TOk1 Tryz.prog 163 i163 := tok1 Tryz.typeInfo163 rfl rfl (tz1 _ rfl rfl rfl rfl) Tryz.underlying163 (fun h => absurd h (by decide))
def i166 : TInfo := ⟨(.slice 211), 1, 24, some [.nils], false⟩
theorem tyok166 : TOk1 Tryz.prog 166 i166 := tok1 Tryz.typeInfo166 rfl rfl (tz1 _ rfl rfl rfl rfl) Tryz.underlying166 (fun h => absurd h (by decide))
def i168 : TInfo := ⟨(.struct [(0, 2), (1, 2), (2, 9), (3, 2), (4, 166), (5, 166)]), 6, 88, some [.int .i64 0, .int .i64 0, .str [], .int .i64 0, .nils, .nils], false⟩
theorem tyok168 : TOk1 Tryz.prog 168 i168 := tok1 Tryz.typeInfo168 rfl rfl (tz1 _ rfl rfl rfl rfl) (kstruct Tryz.underlying168 rfl) (fun h => absurd h (by decide))
def i175 : TInfo := ⟨(.struct [(0, 2), (1, 2), (2, 2), (3, 2)]), 4, 32, some [.int .i64 0, .int .i64 0, .int .i64 0, .int .i64 0], true⟩
theorem tyok175 : TOk1 Tryz.prog 175 i175 := tok1 Tryz.typeInfo175 rfl rfl (tz1 _ rfl rfl rfl rfl) (kstruct Tryz.underlying175 rfl) (fun _ => flatEq (fs := [{ name := "Kind", type := 2, offset := 0, embedded := false, tag := "", pkgPath := "", byteOffset := 0 }, { name := "Value", type := 2, offset := 1, embedded := false, tag := "", pkgPath := "", byteOffset := 8 }, { name := "Left", type := 2, offset := 2, embedded := false, tag := "", pkgPath := "", byteOffset := 16 }, { name := "Right", type := 2, offset := 3, embedded := false, tag := "", pkgPath := "", byteOffset := 24 }]) (by kernel_rfl) (by kernel_rfl) (by kernel_rfl) (by kernel_rfl) rfl (by intro j f h; match j, h with | 0, h => (cases h; exact ⟨rfl, by decide, Tryz.underlying2⟩) | 1, h => (cases h; exact ⟨rfl, by decide, Tryz.underlying2⟩) | 2, h => (cases h; exact ⟨rfl, by decide, Tryz.underlying2⟩) | 3, h => (cases h; exact ⟨rfl, by decide, Tryz.underlying2⟩) | (n + 4), h => simp at h))
def i181 : TInfo := ⟨(.slice 3), 1, 24, some [.nils], false⟩
theorem tyok181 : TOk1 Tryz.prog 181 i181 := tok1 Tryz.typeInfo181 rfl rfl (tz1 _ rfl rfl rfl rfl) Tryz.underlying181 (fun h => absurd h (by decide))
def i186 : TInfo := ⟨(.int .u64), 1, 8, some [.int .u64 0], false⟩
theorem tyok186 : TOk1 Tryz.prog 186 i186 := tok1 Tryz.typeInfo186 rfl rfl (tz1 _ rfl rfl rfl rfl) Tryz.underlying186 (fun h => absurd h (by decide))
def i191 : TInfo := ⟨(.pointer 193), 1, 8, some [.nilp], false⟩
theorem tyok191 : TOk1 Tryz.prog 191 i191 := tok1 Tryz.typeInfo191 rfl rfl (tz1 _ rfl rfl rfl rfl) Tryz.underlying191 (fun h => absurd h (by decide))
def i193 : TInfo := ⟨(.struct [(0, 106), (1, 106)]), 2, 48, some [.nils, .nils], false⟩
theorem tyok193 : TOk1 Tryz.prog 193 i193 := tok1 Tryz.typeInfo193 rfl rfl (tz1 _ rfl rfl rfl rfl) (kstruct Tryz.underlying193 rfl) (fun h => absurd h (by decide))
def i201 : TInfo := ⟨(.pointer 140), 1, 8, some [.nilp], false⟩
theorem tyok201 : TOk1 Tryz.prog 201 i201 := tok1 Tryz.typeInfo201 rfl rfl (tz1 _ rfl rfl rfl rfl) Tryz.underlying201 (fun h => absurd h (by decide))
def i211 : TInfo := ⟨(.struct [(0, 2), (1, 2), (2, 2), (3, 2)]), 4, 32, some [.int .i64 0, .int .i64 0, .int .i64 0, .int .i64 0], true⟩
theorem tyok211 : TOk1 Tryz.prog 211 i211 := tok1 Tryz.typeInfo211 rfl rfl (tz1 _ rfl rfl rfl rfl) (kstruct Tryz.underlying211 rfl) (fun _ => flatEq (fs := [{ name := "Kind", type := 2, offset := 0, embedded := false, tag := "", pkgPath := "", byteOffset := 0 }, { name := "Value", type := 2, offset := 1, embedded := false, tag := "", pkgPath := "", byteOffset := 8 }, { name := "Left", type := 2, offset := 2, embedded := false, tag := "", pkgPath := "", byteOffset := 16 }, { name := "Right", type := 2, offset := 3, embedded := false, tag := "", pkgPath := "", byteOffset := 24 }]) (by kernel_rfl) (by kernel_rfl) (by kernel_rfl) (by kernel_rfl) rfl (by intro j f h; match j, h with | 0, h => (cases h; exact ⟨rfl, by decide, Tryz.underlying2⟩) | 1, h => (cases h; exact ⟨rfl, by decide, Tryz.underlying2⟩) | 2, h => (cases h; exact ⟨rfl, by decide, Tryz.underlying2⟩) | 3, h => (cases h; exact ⟨rfl, by decide, Tryz.underlying2⟩) | (n + 4), h => simp at h))
def i216 : TInfo := ⟨(.struct [(0, 2), (1, 2)]), 2, 16, some [.int .i64 0, .int .i64 0], true⟩
theorem tyok216 : TOk1 Tryz.prog 216 i216 := tok1 Tryz.typeInfo216 rfl rfl (tz1 _ rfl rfl rfl rfl) (kstruct Tryz.underlying216 rfl) (fun _ => flatEq (fs := [{ name := "Code", type := 2, offset := 0, embedded := false, tag := "", pkgPath := "", byteOffset := 0 }, { name := "Value", type := 2, offset := 1, embedded := false, tag := "", pkgPath := "", byteOffset := 8 }]) (by kernel_rfl) (by kernel_rfl) (by kernel_rfl) (by kernel_rfl) rfl (by intro j f h; match j, h with | 0, h => (cases h; exact ⟨rfl, by decide, Tryz.underlying2⟩) | 1, h => (cases h; exact ⟨rfl, by decide, Tryz.underlying2⟩) | (n + 2), h => simp at h))
def i222 : TInfo := ⟨(.pointer 175), 1, 8, some [.nilp], false⟩
theorem tyok222 : TOk1 Tryz.prog 222 i222 := tok1 Tryz.typeInfo222 rfl rfl (tz1 _ rfl rfl rfl rfl) Tryz.underlying222 (fun h => absurd h (by decide))
def i236 : TInfo := ⟨(.int .u32), 1, 4, some [.int .u32 0], false⟩
theorem tyok236 : TOk1 Tryz.prog 236 i236 := tok1 Tryz.typeInfo236 rfl rfl (tz1 _ rfl rfl rfl rfl) Tryz.underlying236 (fun h => absurd h (by decide))
def i240 : TInfo := ⟨(.pointer 5), 1, 8, some [.nilp], false⟩
theorem tyok240 : TOk1 Tryz.prog 240 i240 := tok1 Tryz.typeInfo240 rfl rfl (tz1 _ rfl rfl rfl rfl) Tryz.underlying240 (fun h => absurd h (by decide))
def i248 : TInfo := ⟨(.slice 9), 1, 24, some [.nils], false⟩
theorem tyok248 : TOk1 Tryz.prog 248 i248 := tok1 Tryz.typeInfo248 rfl rfl (tz1 _ rfl rfl rfl rfl) Tryz.underlying248 (fun h => absurd h (by decide))
def ti : TI := tiAdd 2 i2 (tiAdd 3 i3 (tiAdd 4 i4 (tiAdd 5 i5 (tiAdd 9 i9 (tiAdd 21 i21 (tiAdd 22 i22 (tiAdd 24 i24 (tiAdd 25 i25 (tiAdd 27 i27 (tiAdd 28 i28 (tiAdd 30 i30 (tiAdd 31 i31 (tiAdd 33 i33 (tiAdd 35 i35 (tiAdd 37 i37 (tiAdd 45 i45 (tiAdd 47 i47 (tiAdd 48 i48 (tiAdd 50 i50 (tiAdd 58 i58 (tiAdd 67 i67 (tiAdd 75 i75 (tiAdd 77 i77 (tiAdd 80 i80 (tiAdd 82 i82 (tiAdd 90 i90 (tiAdd 96 i96 (tiAdd 104 i104 (tiAdd 106 i106 (tiAdd 108 i108 (tiAdd 110 i110 (tiAdd 113 i113 (tiAdd 117 i117 (tiAdd 120 i120 (tiAdd 138 i138 (tiAdd 140 i140 (tiAdd 148 i148 (tiAdd 154 i154 (tiAdd 156 i156 (tiAdd 163 i163 (tiAdd 166 i166 (tiAdd 168 i168 (tiAdd 175 i175 (tiAdd 181 i181 (tiAdd 186 i186 (tiAdd 191 i191 (tiAdd 193 i193 (tiAdd 201 i201 (tiAdd 211 i211 (tiAdd 216 i216 (tiAdd 222 i222 (tiAdd 236 i236 (tiAdd 240 i240 (tiAdd 248 i248 (fun _ => none)))))))))))))))))))))))))))))))))))))))))))))))))))))))
theorem tiOk : TOk Tryz.prog ti := tok_add tyok2 (tok_add tyok3 (tok_add tyok4 (tok_add tyok5 (tok_add tyok9 (tok_add tyok21 (tok_add tyok22 (tok_add tyok24 (tok_add tyok25 (tok_add tyok27 (tok_add tyok28 (tok_add tyok30 (tok_add tyok31 (tok_add tyok33 (tok_add tyok35 (tok_add tyok37 (tok_add tyok45 (tok_add tyok47 (tok_add tyok48 (tok_add tyok50 (tok_add tyok58 (tok_add tyok67 (tok_add tyok75 (tok_add tyok77 (tok_add tyok80 (tok_add tyok82 (tok_add tyok90 (tok_add tyok96 (tok_add tyok104 (tok_add tyok106 (tok_add tyok108 (tok_add tyok110 (tok_add tyok113 (tok_add tyok117 (tok_add tyok120 (tok_add tyok138 (tok_add tyok140 (tok_add tyok148 (tok_add tyok154 (tok_add tyok156 (tok_add tyok163 (tok_add tyok166 (tok_add tyok168 (tok_add tyok175 (tok_add tyok181 (tok_add tyok186 (tok_add tyok191 (tok_add tyok193 (tok_add tyok201 (tok_add tyok211 (tok_add tyok216 (tok_add tyok222 (tok_add tyok236 (tok_add tyok240 (tok_add tyok248 (tok_nil)))))))))))))))))))))))))))))))))))))))))))))))))))))))
@[go_sem] theorem ti_2 : ti 2 = some ⟨(.int .i64), 1, 8, some [.int .i64 0], false⟩ := rfl
@[go_sem] theorem ti_3 : ti 3 = some ⟨(.int .i64), 1, 8, some [.int .i64 0], false⟩ := rfl
@[go_sem] theorem ti_4 : ti 4 = some ⟨.bool, 1, 1, some [.bool false], false⟩ := rfl
@[go_sem] theorem ti_5 : ti 5 = some ⟨(.int .u8), 1, 1, some [.int .u8 0], false⟩ := rfl
@[go_sem] theorem ti_9 : ti 9 = some ⟨.str, 1, 16, some [.str []], false⟩ := rfl
@[go_sem] theorem ti_21 : ti 21 = some ⟨(.int .i32), 1, 4, some [.int .i32 0], false⟩ := rfl
@[go_sem] theorem ti_22 : ti 22 = some ⟨(.slice 77), 1, 24, some [.nils], false⟩ := rfl
@[go_sem] theorem ti_24 : ti 24 = some ⟨(.slice 82), 1, 24, some [.nils], false⟩ := rfl
@[go_sem] theorem ti_25 : ti 25 = some ⟨(.slice 110), 1, 24, some [.nils], false⟩ := rfl
@[go_sem] theorem ti_27 : ti 27 = some ⟨(.struct [(0, 24), (1, 25), (2, 2)]), 3, 56, some [.nils, .nils, .int .i64 0], false⟩ := rfl
@[go_sem] theorem ti_28 : ti 28 = some ⟨(.slice 96), 1, 24, some [.nils], false⟩ := rfl
@[go_sem] theorem ti_30 : ti 30 = some ⟨(.struct [(0, 27), (3, 28)]), 4, 80, some [.nils, .nils, .int .i64 0, .nils], false⟩ := rfl
@[go_sem] theorem ti_31 : ti 31 = some ⟨(.slice 5), 1, 24, some [.nils], false⟩ := rfl
@[go_sem] theorem ti_33 : ti 33 = some ⟨(.struct [(0, 31), (1, 31)]), 2, 48, some [.nils, .nils], false⟩ := rfl
@[go_sem] theorem ti_35 : ti 35 = some ⟨(.struct [(0, 30), (4, 33)]), 6, 128, some [.nils, .nils, .int .i64 0, .nils, .nils, .nils], false⟩ := rfl
@[go_sem] theorem ti_37 : ti 37 = some ⟨(.struct [(0, 2), (1, 2), (2, 2), (3, 35)]), 9, 152, some [.int .i64 0, .int .i64 0, .int .i64 0, .nils, .nils, .int .i64 0, .nils, .nils, .nils], false⟩ := rfl
@[go_sem] theorem ti_45 : ti 45 = some ⟨(.slice 156), 1, 24, some [.nils], false⟩ := rfl
@[go_sem] theorem ti_47 : ti 47 = some ⟨(.struct [(0, 22), (1, 45), (2, 2)]), 3, 56, some [.nils, .nils, .int .i64 0], false⟩ := rfl
@[go_sem] theorem ti_48 : ti 48 = some ⟨(.slice 148), 1, 24, some [.nils], false⟩ := rfl
@[go_sem] theorem ti_50 : ti 50 = some ⟨(.struct [(0, 47), (3, 48)]), 4, 80, some [.nils, .nils, .int .i64 0, .nils], false⟩ := rfl
@[go_sem] theorem ti_58 : ti 58 = some ⟨(.struct [(0, 2), (1, 2), (2, 27)]), 5, 72, some [.int .i64 0, .int .i64 0, .nils, .nils, .int .i64 0], false⟩ := rfl
@[go_sem] theorem ti_67 : ti 67 = some ⟨(.struct [(0, 2), (1, 28)]), 2, 32, some [.int .i64 0, .nils], false⟩ := rfl
@[go_sem] theorem ti_75 : ti 75 = some ⟨(.slice 168), 1, 24, some [.nils], false⟩ := rfl
@[go_sem] theorem ti_77 : ti 77 = some ⟨(.struct [(0, 75)]), 1, 24, some [.nils], false⟩ := rfl
@[go_sem] theorem ti_80 : ti 80 = some ⟨(.slice 140), 1, 24, some [.nils], false⟩ := rfl
@[go_sem] theorem ti_82 : ti 82 = some ⟨(.struct [(0, 80)]), 1, 24, some [.nils], false⟩ := rfl
@[go_sem] theorem ti_90 : ti 90 = some ⟨(.pointer 30), 1, 8, some [.nilp], false⟩ := rfl
@[go_sem] theorem ti_96 : ti 96 = some ⟨(.struct [(0, 2), (1, 2), (2, 2)]), 3, 24, some [.int .i64 0, .int .i64 0, .int .i64 0], true⟩ := rfl
@[go_sem] theorem ti_104 : ti 104 = some ⟨(.pointer 27), 1, 8, some [.nilp], false⟩ := rfl
@[go_sem] theorem ti_106 : ti 106 = some ⟨(.slice 2), 1, 24, some [.nils], false⟩ := rfl
@[go_sem] theorem ti_108 : ti 108 = some ⟨(.struct [(0, 2), (1, 2), (2, 106), (3, 106), (4, 106)]), 5, 88, some [.int .i64 0, .int .i64 0, .nils, .nils, .nils], false⟩ := rfl
@[go_sem] theorem ti_110 : ti 110 = some ⟨(.struct [(0, 2), (1, 108)]), 6, 96, some [.int .i64 0, .int .i64 0, .int .i64 0, .nils, .nils, .nils], false⟩ := rfl
@[go_sem] theorem ti_113 : ti 113 = some ⟨(.pointer 108), 1, 8, some [.nilp], false⟩ := rfl
@[go_sem] theorem ti_117 : ti 117 = some ⟨(.pointer 120), 1, 8, some [.nilp], false⟩ := rfl
@[go_sem] theorem ti_120 : ti 120 = some ⟨(.struct [(0, 80), (1, 108)]), 6, 112, some [.nils, .int .i64 0, .int .i64 0, .nils, .nils, .nils], false⟩ := rfl
@[go_sem] theorem ti_138 : ti 138 = some ⟨(.slice 175), 1, 24, some [.nils], false⟩ := rfl
@[go_sem] theorem ti_140 : ti 140 = some ⟨(.struct [(0, 2), (1, 2), (2, 9), (3, 2), (4, 138), (5, 138)]), 6, 88, some [.int .i64 0, .int .i64 0, .str [], .int .i64 0, .nils, .nils], false⟩ := rfl
@[go_sem] theorem ti_148 : ti 148 = some ⟨(.struct [(0, 2), (1, 2), (2, 2)]), 3, 24, some [.int .i64 0, .int .i64 0, .int .i64 0], true⟩ := rfl
@[go_sem] theorem ti_154 : ti 154 = some ⟨(.struct [(0, 2), (1, 2), (2, 106), (3, 106), (4, 106)]), 5, 88, some [.int .i64 0, .int .i64 0, .nils, .nils, .nils], false⟩ := rfl
@[go_sem] theorem ti_156 : ti 156 = some ⟨(.struct [(0, 2), (1, 154)]), 6, 96, some [.int .i64 0, .int .i64 0, .int .i64 0, .nils, .nils, .nils], false⟩ := rfl
@[go_sem] theorem ti_163 : ti 163 = some ⟨(.pointer 110), 1, 8, some [.nilp], false⟩ := rfl
@[go_sem] theorem ti_166 : ti 166 = some ⟨(.slice 211), 1, 24, some [.nils], false⟩ := rfl
@[go_sem] theorem ti_168 : ti 168 = some ⟨(.struct [(0, 2), (1, 2), (2, 9), (3, 2), (4, 166), (5, 166)]), 6, 88, some [.int .i64 0, .int .i64 0, .str [], .int .i64 0, .nils, .nils], false⟩ := rfl
@[go_sem] theorem ti_175 : ti 175 = some ⟨(.struct [(0, 2), (1, 2), (2, 2), (3, 2)]), 4, 32, some [.int .i64 0, .int .i64 0, .int .i64 0, .int .i64 0], true⟩ := rfl
@[go_sem] theorem ti_181 : ti 181 = some ⟨(.slice 3), 1, 24, some [.nils], false⟩ := rfl
@[go_sem] theorem ti_186 : ti 186 = some ⟨(.int .u64), 1, 8, some [.int .u64 0], false⟩ := rfl
@[go_sem] theorem ti_191 : ti 191 = some ⟨(.pointer 193), 1, 8, some [.nilp], false⟩ := rfl
@[go_sem] theorem ti_193 : ti 193 = some ⟨(.struct [(0, 106), (1, 106)]), 2, 48, some [.nils, .nils], false⟩ := rfl
@[go_sem] theorem ti_201 : ti 201 = some ⟨(.pointer 140), 1, 8, some [.nilp], false⟩ := rfl
@[go_sem] theorem ti_211 : ti 211 = some ⟨(.struct [(0, 2), (1, 2), (2, 2), (3, 2)]), 4, 32, some [.int .i64 0, .int .i64 0, .int .i64 0, .int .i64 0], true⟩ := rfl
@[go_sem] theorem ti_216 : ti 216 = some ⟨(.struct [(0, 2), (1, 2)]), 2, 16, some [.int .i64 0, .int .i64 0], true⟩ := rfl
@[go_sem] theorem ti_222 : ti 222 = some ⟨(.pointer 175), 1, 8, some [.nilp], false⟩ := rfl
@[go_sem] theorem ti_236 : ti 236 = some ⟨(.int .u32), 1, 4, some [.int .u32 0], false⟩ := rfl
@[go_sem] theorem ti_240 : ti 240 = some ⟨(.pointer 5), 1, 8, some [.nilp], false⟩ := rfl
@[go_sem] theorem ti_248 : ti 248 = some ⟨(.slice 9), 1, 24, some [.nils], false⟩ := rfl
end Go.AM

/-! ### Rd -/
set_option linter.unusedVariables false
set_option linter.unusedSimpArgs false
namespace Go.AM
open Go.Proofs
open Go.ChangeShapes Go.WideShapes Go.RowKit
set_option linter.unusedVariables false

abbrev rd_2 := Rd.int (t := 2) (cellsOf_of tiOk ti_2) Tryz.underlying2
abbrev rd_9 := Rd.str (t := 9) (cellsOf_of tiOk ti_9) Tryz.underlying9
theorem rd_211 : Rd Tryz.prog 211 TNode TNode.ro (fun _ => True) 4 := by
  refine ⟨cellsOf_of tiOk ti_211, ?_⟩
  intro H enc w base spare held fuel cs x h
  obtain ⟨xs, n, rfl, rfl, hl, hn, hf⟩ := DataW.trod_struct Tryz.underlying211 h
  have hl : cs.length = 4 := by rw [hl]; exact cellsOf_of tiOk ti_211
  have e0 : DataW.trod enc Tryz.prog w base spare held n 2 ((cs.drop 0).take (Tryz.prog.cellsOf 2)) = xs[0]? := hf 0 _ rfl
  obtain ⟨y0, hy0⟩ : ∃ y, xs[0]? = some y := ⟨xs[0]'(by rw [hn]; decide), List.getElem?_eq_getElem _⟩
  rw [hy0, rd_2.size] at e0
  obtain ⟨a0, o0, r0, _⟩ := rd_2.read enc w base spare held n _ _ e0
  have e1 : DataW.trod enc Tryz.prog w base spare held n 2 ((cs.drop 1).take (Tryz.prog.cellsOf 2)) = xs[1]? := hf 1 _ rfl
  obtain ⟨y1, hy1⟩ : ∃ y, xs[1]? = some y := ⟨xs[1]'(by rw [hn]; decide), List.getElem?_eq_getElem _⟩
  rw [hy1, rd_2.size] at e1
  obtain ⟨a1, o1, r1, _⟩ := rd_2.read enc w base spare held n _ _ e1
  have e2 : DataW.trod enc Tryz.prog w base spare held n 2 ((cs.drop 2).take (Tryz.prog.cellsOf 2)) = xs[2]? := hf 2 _ rfl
  obtain ⟨y2, hy2⟩ : ∃ y, xs[2]? = some y := ⟨xs[2]'(by rw [hn]; decide), List.getElem?_eq_getElem _⟩
  rw [hy2, rd_2.size] at e2
  obtain ⟨a2, o2, r2, _⟩ := rd_2.read enc w base spare held n _ _ e2
  have e3 : DataW.trod enc Tryz.prog w base spare held n 2 ((cs.drop 3).take (Tryz.prog.cellsOf 2)) = xs[3]? := hf 3 _ rfl
  obtain ⟨y3, hy3⟩ : ∃ y, xs[3]? = some y := ⟨xs[3]'(by rw [hn]; decide), List.getElem?_eq_getElem _⟩
  rw [hy3, rd_2.size] at e3
  obtain ⟨a3, o3, r3, _⟩ := rd_2.read enc w base spare held n _ _ e3
  refine ⟨⟨a0, a1, a2, a3⟩, trivial, ?_, hl⟩
  exact RdC.cons (o := 0) (s := 1) r0 (RdC.cons (o := 1) (s := 1) r1 (RdC.cons (o := 2) (s := 1) r2 (RdC.cons (o := 3) (s := 1) r3 (RdC.nil (List.drop_eq_nil_of_le (show cs.length ≤ 4 by omega))))))
abbrev rd_166 := Rd.slice (t := 166) rd_211 (by decide) (cellsOf_of tiOk ti_166) Tryz.underlying166
theorem rd_168 : Rd Tryz.prog 168 TStep TStep.ro TStep.gok 6 := by
  refine ⟨cellsOf_of tiOk ti_168, ?_⟩
  intro H enc w base spare held fuel cs x h
  obtain ⟨xs, n, rfl, rfl, hl, hn, hf⟩ := DataW.trod_struct Tryz.underlying168 h
  have hl : cs.length = 6 := by rw [hl]; exact cellsOf_of tiOk ti_168
  have e0 : DataW.trod enc Tryz.prog w base spare held n 2 ((cs.drop 0).take (Tryz.prog.cellsOf 2)) = xs[0]? := hf 0 _ rfl
  obtain ⟨y0, hy0⟩ : ∃ y, xs[0]? = some y := ⟨xs[0]'(by rw [hn]; decide), List.getElem?_eq_getElem _⟩
  rw [hy0, rd_2.size] at e0
  obtain ⟨a0, o0, r0, _⟩ := rd_2.read enc w base spare held n _ _ e0
  have e1 : DataW.trod enc Tryz.prog w base spare held n 2 ((cs.drop 1).take (Tryz.prog.cellsOf 2)) = xs[1]? := hf 1 _ rfl
  obtain ⟨y1, hy1⟩ : ∃ y, xs[1]? = some y := ⟨xs[1]'(by rw [hn]; decide), List.getElem?_eq_getElem _⟩
  rw [hy1, rd_2.size] at e1
  obtain ⟨a1, o1, r1, _⟩ := rd_2.read enc w base spare held n _ _ e1
  have e2 : DataW.trod enc Tryz.prog w base spare held n 9 ((cs.drop 2).take (Tryz.prog.cellsOf 9)) = xs[2]? := hf 2 _ rfl
  obtain ⟨y2, hy2⟩ : ∃ y, xs[2]? = some y := ⟨xs[2]'(by rw [hn]; decide), List.getElem?_eq_getElem _⟩
  rw [hy2, rd_9.size] at e2
  obtain ⟨a2, o2, r2, _⟩ := rd_9.read enc w base spare held n _ _ e2
  have e3 : DataW.trod enc Tryz.prog w base spare held n 2 ((cs.drop 3).take (Tryz.prog.cellsOf 2)) = xs[3]? := hf 3 _ rfl
  obtain ⟨y3, hy3⟩ : ∃ y, xs[3]? = some y := ⟨xs[3]'(by rw [hn]; decide), List.getElem?_eq_getElem _⟩
  rw [hy3, rd_2.size] at e3
  obtain ⟨a3, o3, r3, _⟩ := rd_2.read enc w base spare held n _ _ e3
  have e4 : DataW.trod enc Tryz.prog w base spare held n 166 ((cs.drop 4).take (Tryz.prog.cellsOf 166)) = xs[4]? := hf 4 _ rfl
  obtain ⟨y4, hy4⟩ : ∃ y, xs[4]? = some y := ⟨xs[4]'(by rw [hn]; decide), List.getElem?_eq_getElem _⟩
  rw [hy4, rd_166.size] at e4
  obtain ⟨a4, o4, r4, _⟩ := rd_166.read enc w base spare held n _ _ e4
  have e5 : DataW.trod enc Tryz.prog w base spare held n 166 ((cs.drop 5).take (Tryz.prog.cellsOf 166)) = xs[5]? := hf 5 _ rfl
  obtain ⟨y5, hy5⟩ : ∃ y, xs[5]? = some y := ⟨xs[5]'(by rw [hn]; decide), List.getElem?_eq_getElem _⟩
  rw [hy5, rd_166.size] at e5
  obtain ⟨a5, o5, r5, _⟩ := rd_166.read enc w base spare held n _ _ e5
  refine ⟨⟨a0, a1, a2, a3, a4, a5⟩, ⟨o2, o4.1, o5.1⟩, ?_, hl⟩
  exact RdC.cons (o := 0) (s := 1) r0 (RdC.cons (o := 1) (s := 1) r1 (RdC.cons (o := 2) (s := 1) r2 (RdC.cons (o := 3) (s := 1) r3 (RdC.cons (o := 4) (s := 1) r4 (RdC.cons (o := 5) (s := 1) r5 (RdC.nil (List.drop_eq_nil_of_le (show cs.length ≤ 6 by omega))))))))
abbrev rd_75 := Rd.slice (t := 75) rd_168 (by decide) (cellsOf_of tiOk ti_75) Tryz.underlying75
theorem rd_77 : Rd Tryz.prog 77 TProc TProc.ro TProc.gok 1 := by
  refine ⟨cellsOf_of tiOk ti_77, ?_⟩
  intro H enc w base spare held fuel cs x h
  obtain ⟨xs, n, rfl, rfl, hl, hn, hf⟩ := DataW.trod_struct Tryz.underlying77 h
  have hl : cs.length = 1 := by rw [hl]; exact cellsOf_of tiOk ti_77
  have e0 : DataW.trod enc Tryz.prog w base spare held n 75 ((cs.drop 0).take (Tryz.prog.cellsOf 75)) = xs[0]? := hf 0 _ rfl
  obtain ⟨y0, hy0⟩ : ∃ y, xs[0]? = some y := ⟨xs[0]'(by rw [hn]; decide), List.getElem?_eq_getElem _⟩
  rw [hy0, rd_75.size] at e0
  obtain ⟨a0, o0, r0, _⟩ := rd_75.read enc w base spare held n _ _ e0
  refine ⟨⟨a0⟩, o0, ?_, hl⟩
  exact RdC.cons (o := 0) (s := 1) r0 (RdC.nil (List.drop_eq_nil_of_le (show cs.length ≤ 1 by omega)))
abbrev rd_22 := Rd.slice (t := 22) rd_77 (by decide) (cellsOf_of tiOk ti_22) Tryz.underlying22
abbrev rd_106 := Rd.slice (t := 106) rd_2 (by decide) (cellsOf_of tiOk ti_106) Tryz.underlying106
theorem rd_154 : Rd Tryz.prog 154 TChart TChart.ro TChart.gok 5 := by
  refine ⟨cellsOf_of tiOk ti_154, ?_⟩
  intro H enc w base spare held fuel cs x h
  obtain ⟨xs, n, rfl, rfl, hl, hn, hf⟩ := DataW.trod_struct Tryz.underlying154 h
  have hl : cs.length = 5 := by rw [hl]; exact cellsOf_of tiOk ti_154
  have e0 : DataW.trod enc Tryz.prog w base spare held n 2 ((cs.drop 0).take (Tryz.prog.cellsOf 2)) = xs[0]? := hf 0 _ rfl
  obtain ⟨y0, hy0⟩ : ∃ y, xs[0]? = some y := ⟨xs[0]'(by rw [hn]; decide), List.getElem?_eq_getElem _⟩
  rw [hy0, rd_2.size] at e0
  obtain ⟨a0, o0, r0, _⟩ := rd_2.read enc w base spare held n _ _ e0
  have e1 : DataW.trod enc Tryz.prog w base spare held n 2 ((cs.drop 1).take (Tryz.prog.cellsOf 2)) = xs[1]? := hf 1 _ rfl
  obtain ⟨y1, hy1⟩ : ∃ y, xs[1]? = some y := ⟨xs[1]'(by rw [hn]; decide), List.getElem?_eq_getElem _⟩
  rw [hy1, rd_2.size] at e1
  obtain ⟨a1, o1, r1, _⟩ := rd_2.read enc w base spare held n _ _ e1
  have e2 : DataW.trod enc Tryz.prog w base spare held n 106 ((cs.drop 2).take (Tryz.prog.cellsOf 106)) = xs[2]? := hf 2 _ rfl
  obtain ⟨y2, hy2⟩ : ∃ y, xs[2]? = some y := ⟨xs[2]'(by rw [hn]; decide), List.getElem?_eq_getElem _⟩
  rw [hy2, rd_106.size] at e2
  obtain ⟨a2, o2, r2, _⟩ := rd_106.read enc w base spare held n _ _ e2
  have e3 : DataW.trod enc Tryz.prog w base spare held n 106 ((cs.drop 3).take (Tryz.prog.cellsOf 106)) = xs[3]? := hf 3 _ rfl
  obtain ⟨y3, hy3⟩ : ∃ y, xs[3]? = some y := ⟨xs[3]'(by rw [hn]; decide), List.getElem?_eq_getElem _⟩
  rw [hy3, rd_106.size] at e3
  obtain ⟨a3, o3, r3, _⟩ := rd_106.read enc w base spare held n _ _ e3
  have e4 : DataW.trod enc Tryz.prog w base spare held n 106 ((cs.drop 4).take (Tryz.prog.cellsOf 106)) = xs[4]? := hf 4 _ rfl
  obtain ⟨y4, hy4⟩ : ∃ y, xs[4]? = some y := ⟨xs[4]'(by rw [hn]; decide), List.getElem?_eq_getElem _⟩
  rw [hy4, rd_106.size] at e4
  obtain ⟨a4, o4, r4, _⟩ := rd_106.read enc w base spare held n _ _ e4
  refine ⟨⟨a0, a1, a2, a3, a4⟩, ⟨o2.1, o3.1, o4.1⟩, ?_, hl⟩
  exact RdC.cons (o := 0) (s := 1) r0 (RdC.cons (o := 1) (s := 1) r1 (RdC.cons (o := 2) (s := 1) r2 (RdC.cons (o := 3) (s := 1) r3 (RdC.cons (o := 4) (s := 1) r4 (RdC.nil (List.drop_eq_nil_of_le (show cs.length ≤ 5 by omega)))))))
theorem rd_156 : Rd Tryz.prog 156 TInst TInst.ro TInst.gok 6 := by
  refine ⟨cellsOf_of tiOk ti_156, ?_⟩
  intro H enc w base spare held fuel cs x h
  obtain ⟨xs, n, rfl, rfl, hl, hn, hf⟩ := DataW.trod_struct Tryz.underlying156 h
  have hl : cs.length = 6 := by rw [hl]; exact cellsOf_of tiOk ti_156
  have e0 : DataW.trod enc Tryz.prog w base spare held n 2 ((cs.drop 0).take (Tryz.prog.cellsOf 2)) = xs[0]? := hf 0 _ rfl
  obtain ⟨y0, hy0⟩ : ∃ y, xs[0]? = some y := ⟨xs[0]'(by rw [hn]; decide), List.getElem?_eq_getElem _⟩
  rw [hy0, rd_2.size] at e0
  obtain ⟨a0, o0, r0, _⟩ := rd_2.read enc w base spare held n _ _ e0
  have e1 : DataW.trod enc Tryz.prog w base spare held n 154 ((cs.drop 1).take (Tryz.prog.cellsOf 154)) = xs[1]? := hf 1 _ rfl
  obtain ⟨y1, hy1⟩ : ∃ y, xs[1]? = some y := ⟨xs[1]'(by rw [hn]; decide), List.getElem?_eq_getElem _⟩
  rw [hy1, rd_154.size] at e1
  obtain ⟨a1, o1, r1, _⟩ := rd_154.read enc w base spare held n _ _ e1
  refine ⟨⟨a0, a1⟩, o1, ?_, hl⟩
  exact RdC.cons (o := 0) (s := 1) r0 (RdC.cons (o := 1) (s := 5) r1 (RdC.nil (List.drop_eq_nil_of_le (show cs.length ≤ 6 by omega))))
abbrev rd_45 := Rd.slice (t := 45) rd_156 (by decide) (cellsOf_of tiOk ti_45) Tryz.underlying45
theorem rd_47 : Rd Tryz.prog 47 TEngine TEngine.ro TEngine.gok 3 := by
  refine ⟨cellsOf_of tiOk ti_47, ?_⟩
  intro H enc w base spare held fuel cs x h
  obtain ⟨xs, n, rfl, rfl, hl, hn, hf⟩ := DataW.trod_struct Tryz.underlying47 h
  have hl : cs.length = 3 := by rw [hl]; exact cellsOf_of tiOk ti_47
  have e0 : DataW.trod enc Tryz.prog w base spare held n 22 ((cs.drop 0).take (Tryz.prog.cellsOf 22)) = xs[0]? := hf 0 _ rfl
  obtain ⟨y0, hy0⟩ : ∃ y, xs[0]? = some y := ⟨xs[0]'(by rw [hn]; decide), List.getElem?_eq_getElem _⟩
  rw [hy0, rd_22.size] at e0
  obtain ⟨a0, o0, r0, _⟩ := rd_22.read enc w base spare held n _ _ e0
  have e1 : DataW.trod enc Tryz.prog w base spare held n 45 ((cs.drop 1).take (Tryz.prog.cellsOf 45)) = xs[1]? := hf 1 _ rfl
  obtain ⟨y1, hy1⟩ : ∃ y, xs[1]? = some y := ⟨xs[1]'(by rw [hn]; decide), List.getElem?_eq_getElem _⟩
  rw [hy1, rd_45.size] at e1
  obtain ⟨a1, o1, r1, _⟩ := rd_45.read enc w base spare held n _ _ e1
  have e2 : DataW.trod enc Tryz.prog w base spare held n 2 ((cs.drop 2).take (Tryz.prog.cellsOf 2)) = xs[2]? := hf 2 _ rfl
  obtain ⟨y2, hy2⟩ : ∃ y, xs[2]? = some y := ⟨xs[2]'(by rw [hn]; decide), List.getElem?_eq_getElem _⟩
  rw [hy2, rd_2.size] at e2
  obtain ⟨a2, o2, r2, _⟩ := rd_2.read enc w base spare held n _ _ e2
  refine ⟨⟨a0, a1, a2⟩, ⟨o0, o1⟩, ?_, hl⟩
  exact RdC.cons (o := 0) (s := 1) r0 (RdC.cons (o := 1) (s := 1) r1 (RdC.cons (o := 2) (s := 1) r2 (RdC.nil (List.drop_eq_nil_of_le (show cs.length ≤ 3 by omega)))))
theorem rd_148 : Rd Tryz.prog 148 TClaim TClaim.ro (fun _ => True) 3 := by
  refine ⟨cellsOf_of tiOk ti_148, ?_⟩
  intro H enc w base spare held fuel cs x h
  obtain ⟨xs, n, rfl, rfl, hl, hn, hf⟩ := DataW.trod_struct Tryz.underlying148 h
  have hl : cs.length = 3 := by rw [hl]; exact cellsOf_of tiOk ti_148
  have e0 : DataW.trod enc Tryz.prog w base spare held n 2 ((cs.drop 0).take (Tryz.prog.cellsOf 2)) = xs[0]? := hf 0 _ rfl
  obtain ⟨y0, hy0⟩ : ∃ y, xs[0]? = some y := ⟨xs[0]'(by rw [hn]; decide), List.getElem?_eq_getElem _⟩
  rw [hy0, rd_2.size] at e0
  obtain ⟨a0, o0, r0, _⟩ := rd_2.read enc w base spare held n _ _ e0
  have e1 : DataW.trod enc Tryz.prog w base spare held n 2 ((cs.drop 1).take (Tryz.prog.cellsOf 2)) = xs[1]? := hf 1 _ rfl
  obtain ⟨y1, hy1⟩ : ∃ y, xs[1]? = some y := ⟨xs[1]'(by rw [hn]; decide), List.getElem?_eq_getElem _⟩
  rw [hy1, rd_2.size] at e1
  obtain ⟨a1, o1, r1, _⟩ := rd_2.read enc w base spare held n _ _ e1
  have e2 : DataW.trod enc Tryz.prog w base spare held n 2 ((cs.drop 2).take (Tryz.prog.cellsOf 2)) = xs[2]? := hf 2 _ rfl
  obtain ⟨y2, hy2⟩ : ∃ y, xs[2]? = some y := ⟨xs[2]'(by rw [hn]; decide), List.getElem?_eq_getElem _⟩
  rw [hy2, rd_2.size] at e2
  obtain ⟨a2, o2, r2, _⟩ := rd_2.read enc w base spare held n _ _ e2
  refine ⟨⟨a0, a1, a2⟩, trivial, ?_, hl⟩
  exact RdC.cons (o := 0) (s := 1) r0 (RdC.cons (o := 1) (s := 1) r1 (RdC.cons (o := 2) (s := 1) r2 (RdC.nil (List.drop_eq_nil_of_le (show cs.length ≤ 3 by omega)))))
abbrev rd_48 := Rd.slice (t := 48) rd_148 (by decide) (cellsOf_of tiOk ti_48) Tryz.underlying48
theorem rd_50 : Rd Tryz.prog 50 TDesk TDesk.ro TDesk.gok 4 := by
  refine ⟨cellsOf_of tiOk ti_50, ?_⟩
  intro H enc w base spare held fuel cs x h
  obtain ⟨xs, n, rfl, rfl, hl, hn, hf⟩ := DataW.trod_struct Tryz.underlying50 h
  have hl : cs.length = 4 := by rw [hl]; exact cellsOf_of tiOk ti_50
  have e0 : DataW.trod enc Tryz.prog w base spare held n 47 ((cs.drop 0).take (Tryz.prog.cellsOf 47)) = xs[0]? := hf 0 _ rfl
  obtain ⟨y0, hy0⟩ : ∃ y, xs[0]? = some y := ⟨xs[0]'(by rw [hn]; decide), List.getElem?_eq_getElem _⟩
  rw [hy0, rd_47.size] at e0
  obtain ⟨a0, o0, r0, _⟩ := rd_47.read enc w base spare held n _ _ e0
  have e1 : DataW.trod enc Tryz.prog w base spare held n 48 ((cs.drop 3).take (Tryz.prog.cellsOf 48)) = xs[1]? := hf 1 _ rfl
  obtain ⟨y1, hy1⟩ : ∃ y, xs[1]? = some y := ⟨xs[1]'(by rw [hn]; decide), List.getElem?_eq_getElem _⟩
  rw [hy1, rd_48.size] at e1
  obtain ⟨a1, o1, r1, _⟩ := rd_48.read enc w base spare held n _ _ e1
  refine ⟨⟨a0, a1⟩, ⟨o0, o1.1⟩, ?_, hl⟩
  exact RdC.cons (o := 0) (s := 3) r0 (RdC.cons (o := 3) (s := 1) r1 (RdC.nil (List.drop_eq_nil_of_le (show cs.length ≤ 4 by omega))))
end Go.AM

/-! ### T1 -/
set_option linter.unusedVariables false
set_option linter.unusedSimpArgs false
namespace Go.AM
open Go.Proofs

set_option maxHeartbeats 600000 in
set_option linter.unusedSimpArgs false in
set_option maxRecDepth 100000 in
/-- laws.szInt64S -/
theorem dc_laws_szInt64S (l : List Int) (z : Int) (hz : 0 ≤ z ∧ z ≤ 1048576) (hl : l.length ≤ 9223372036854775807) : DC Tryz.prog 155 [.isl 1 (l.map I1), .int .i64 z] (.int .i64 (subz z l.length)) [] := by
  have hw : IntKind.wrap .i64 (z - (l.length : Int)) = z - (l.length : Int) := wrap64 (by omega) (by omega)
  refine DC.intro tiOk Tryz.func155 rfl rfl rfl rfl rfl rfl rfl rfl [] ?_
  refine AW.reg tiOk (fun _ => []) [0, 1] ?_
  intro k hk; simp -dsimp [go_sem, -decide_eq_true_eq, -decide_eq_false_iff_not, hw]
  repeat' (first | refine And.intro ?_ ?_ | refine hk _ ?_ | intro hg | omega | exact True.intro)
  all_goals clear hk k
  refine AW.reg tiOk (fun _ => []) [1] ?_
  intro k hk; simp -dsimp [go_sem, -decide_eq_true_eq, -decide_eq_false_iff_not, hw]
  repeat' (first | refine And.intro ?_ ?_ | refine hk _ ?_ | intro hg | omega | exact True.intro)
  all_goals clear hk k
  refine AW.seq ?_
  refine AW.reg tiOk (fun _ => []) [1, 10] ?_
  intro k hk; simp -dsimp [go_sem, -decide_eq_true_eq, -decide_eq_false_iff_not, hw]
  repeat' (first | refine And.intro ?_ ?_ | refine hk _ ?_ | intro hg | omega | exact True.intro)
  all_goals clear hk k
  refine AW.cond rfl ?_ ?_
  · intro hc; try simp at hc
    all_goals (
      refine AW.reg tiOk (fun _ => []) [4] ?_
      intro k hk; simp -dsimp [go_sem, -decide_eq_true_eq, -decide_eq_false_iff_not, hw]
      repeat' (first | refine And.intro ?_ ?_ | refine hk _ ?_ | intro hg | omega | exact True.intro)
      all_goals clear hk k
      refine AW.retF (ow := []) (muts := []) ?_ (fun h => And.intro (.inr rfl) h)
      simp [go_sem, Tryz.results155]; unfold subz; split <;> omega)
  · intro hc; try simp at hc
    all_goals (
      refine AW.skipN (fun _ h => h) ?_
      refine AW.reg tiOk (fun _ => []) [4] ?_
      intro k hk; simp -dsimp [go_sem, -decide_eq_true_eq, -decide_eq_false_iff_not, hw]
      repeat' (first | refine And.intro ?_ ?_ | refine hk _ ?_ | intro hg | omega | exact True.intro)
      all_goals clear hk k
      refine AW.retF (ow := []) (muts := []) ?_ (fun h => And.intro (.inr rfl) h)
      simp [go_sem, Tryz.results155]; unfold subz; split <;> omega)

set_option maxHeartbeats 600000 in
set_option linter.unusedSimpArgs false in
set_option maxRecDepth 100000 in
/-- laws.toInt64S -/
theorem dc_laws_toInt64S (l : List Int) (hl : l.length ≤ 1048576) : DC Tryz.prog 156 [.isl 1 (l.map I1)] (.osl 1 (l.map I1)) [] := by
  have idz : ∀ i, (fill I1 [.int .i64 0] l i).flatMap idsL = [] := fun i => fill_ids (by intro x; simp [go_sem]) (by simp [go_sem])
  refine DC.intro tiOk Tryz.func156 rfl rfl rfl rfl rfl rfl rfl rfl [1000] ?_
  refine AW.reg tiOk (fun _ => []) [0] ?_
  intro k hk; simp -dsimp [go_sem, -decide_eq_true_eq, -decide_eq_false_iff_not]
  repeat' (first | refine And.intro ?_ ?_ | refine hk _ ?_ | intro hg | omega | exact True.intro)
  all_goals clear hk k
  refine AW.reg tiOk (fun _ => []) [0, 3] ?_
  intro k hk; simp -dsimp [go_sem, -decide_eq_true_eq, -decide_eq_false_iff_not]
  repeat' (first | refine And.intro ?_ ?_ | refine hk _ ?_ | intro hg | omega | exact True.intro)
  all_goals clear hk k
  refine AW.seq ?_
  refine AW.reg tiOk (fun _ => []) [0, 3, 4] ?_
  intro k hk; simp -dsimp [go_sem, -decide_eq_true_eq, -decide_eq_false_iff_not]
  repeat' (first | refine And.intro ?_ ?_ | refine hk _ ?_ | intro hg | omega | exact True.intro)
  all_goals clear hk k
  refine AW.block ?_
  -- live at the loop's head: [0, 3, 4]
  refine AW.loopI (fun i : Nat => ⟨22, [(0, .isl 1 (l.map I1)), (3, .sl 7 1 0 l.length), (4, .int .i64 i)], [(7, some ⟨1, fill I1 [.int .i64 0] l i⟩)]⟩) (fun i => i ≤ l.length) (fun i => l.length - i) (0) (by simp) (Less.of rfl (by simp [go_sem]) (by simp [go_sem, fill_zero])) ?_
  rintro i hi
  refine AW.seq ?_
  refine AW.reg tiOk (fun _ => []) [0, 3, 4, 11] ?_
  intro k hk; simp -dsimp [go_sem, -decide_eq_true_eq, -decide_eq_false_iff_not]
  repeat' (first | refine And.intro ?_ ?_ | refine hk _ ?_ | intro hg | omega | exact True.intro)
  all_goals clear hk k
  refine AW.cond rfl ?_ ?_
  · intro hc; try simp at hc
    all_goals (
      have hlt : i < l.length := by assumption
      obtain ⟨x, hx⟩ := at_some hlt
      have hf := fill_len (f := I1) (z := [.int .i64 0]) hi
      have hf2 := fill_at (f := I1) (z := [.int .i64 0]) hlt
      refine AW.skipN (fun _ h => h) ?_
      refine AW.seq ?_
      refine AW.block ?_
      refine AW.regN tiOk (fun _ => []) [0, 3, 4] (fun _ h => h) ?_
      intro k hk; simp -dsimp (maxSteps := 2000000) [go_sem, -decide_eq_true_eq, -decide_eq_false_iff_not, hx, hf, hf2, idz]
      repeat' (first | refine And.intro ?_ ?_ | refine hk _ ?_ | intro hg | omega | exact True.intro)
      all_goals clear hk k
      refine AW.regK tiOk (fun _ => []) ?_
      intro k hk; simp -dsimp [go_sem, -decide_eq_true_eq, -decide_eq_false_iff_not, hx, hf, hf2, idz]
      repeat' (first | refine And.intro ?_ ?_ | refine hk _ ?_ | intro hg | omega | exact True.intro)
      all_goals clear hk k
      show ∃ _, _
      have hw := wrapi hlt (by omega)
      have hs := fill_set (f := I1) (z := [.int .i64 0]) hx
      simp [go_sem] at hs
      refine ⟨i + 1, by omega, by omega, Less.of rfl (by simp [go_sem, hw]) (by simp [go_sem, List.set_set, ← hs])⟩)
  · intro hc; try simp at hc
    all_goals (
      refine AW.exitN (fun _ h => h) ?_
      refine AW.reg tiOk (fun _ => []) [2] ?_
      intro k hk; simp -dsimp [go_sem, -decide_eq_true_eq, -decide_eq_false_iff_not]
      repeat' (first | refine And.intro ?_ ?_ | refine hk _ ?_ | intro hg | omega | exact True.intro)
      all_goals clear hk k
      refine AW.retF (ow := [1000]) (muts := []) ?_ (fun h => And.intro (.inr rfl) h)
      have he := fill_end (f := I1) (z := [.int .i64 0]) (show l.length ≤ i by omega); simp [go_sem, Tryz.results156, he])

set_option maxHeartbeats 600000 in
set_option linter.unusedSimpArgs false in
set_option maxRecDepth 100000 in
/-- laws.eqInt64S -/
theorem dc_laws_eqInt64S (a b : List Int) (ha : a.length ≤ 9223372036854775807) : DC Tryz.prog 157 [.isl 1 (a.map I1), .isl 1 (b.map I1)] (.bool (decide (a = b))) [] := by
  refine DC.intro tiOk Tryz.func157 rfl rfl rfl rfl rfl rfl rfl rfl [] ?_
  refine AW.reg tiOk (fun _ => []) [0, 1] ?_
  intro k hk; simp -dsimp [go_sem, -decide_eq_true_eq, -decide_eq_false_iff_not]
  repeat' (first | refine And.intro ?_ ?_ | refine hk _ ?_ | intro hg | omega | exact True.intro)
  all_goals clear hk k
  refine AW.seq ?_
  refine AW.reg tiOk (fun _ => []) [0, 1, 10] ?_
  intro k hk; simp -dsimp [go_sem, -decide_eq_true_eq, -decide_eq_false_iff_not]
  repeat' (first | refine And.intro ?_ ?_ | refine hk _ ?_ | intro hg | omega | exact True.intro)
  all_goals clear hk k
  refine AW.cond rfl ?_ ?_
  · intro hc; try simp at hc
    all_goals (
      refine AW.reg tiOk (fun _ => []) [4] ?_
      intro k hk; simp -dsimp [go_sem, -decide_eq_true_eq, -decide_eq_false_iff_not]
      repeat' (first | refine And.intro ?_ ?_ | refine hk _ ?_ | intro hg | omega | exact True.intro)
      all_goals clear hk k
      refine AW.retF (ow := []) (muts := []) ?_ (fun h => And.intro (.inr rfl) h)
      first | (rw [eq_ne_at hx hy (by first | assumption | (intro e; subst e; omega))]; simp [go_sem, Tryz.results157]; done) | (rw [eq_end (by omega) hinv (by omega)]; simp [go_sem, Tryz.results157]; done) | (rw [eq_ne_len (by omega)]; simp [go_sem, Tryz.results157]))
  · intro hc; try simp at hc
    all_goals (
      refine AW.skipN (fun _ h => h) ?_
      refine AW.seq ?_
      refine AW.reg tiOk (fun _ => []) [0, 1, 5] ?_
      intro k hk; simp -dsimp [go_sem, -decide_eq_true_eq, -decide_eq_false_iff_not]
      repeat' (first | refine And.intro ?_ ?_ | refine hk _ ?_ | intro hg | omega | exact True.intro)
      all_goals clear hk k
      refine AW.block ?_
      -- live at the loop's head: [0, 1, 5]
      refine AW.loopI (fun i : Nat => ⟨26, [(0, .isl 1 (a.map I1)), (1, .isl 1 (b.map I1)), (5, .int .i64 i)], []⟩) (fun i => i ≤ a.length ∧ a.take i = b.take i) (fun i => a.length - i) (0) (by simp) (Less.of rfl (by simp [go_sem]) (by simp [go_sem])) ?_
      rintro i ⟨hi, hinv⟩
      refine AW.seq ?_
      refine AW.reg tiOk (fun _ => []) [0, 1, 5, 14] ?_
      intro k hk; simp -dsimp [go_sem, -decide_eq_true_eq, -decide_eq_false_iff_not]
      repeat' (first | refine And.intro ?_ ?_ | refine hk _ ?_ | intro hg | omega | exact True.intro)
      all_goals clear hk k
      refine AW.cond rfl ?_ ?_
      · intro hc; try simp at hc
        all_goals (
          have hlt : i < a.length := by assumption
          obtain ⟨x, hx⟩ := at_some hlt
          obtain ⟨y, hy⟩ := at_some (l := b) (show i < b.length by omega)
          have hla := at_lt hy
          refine AW.skipN (fun _ h => h) ?_
          refine AW.seq ?_
          refine AW.block ?_
          refine AW.reg tiOk (fun _ => []) [0, 1, 5, 25] ?_
          intro k hk; simp -dsimp (maxSteps := 2000000) [go_sem, -decide_eq_true_eq, -decide_eq_false_iff_not, hx, hy]
          repeat' (first | refine And.intro ?_ ?_ | (refine Chk.keys ?_; simp only [go_sem, List.map_cons, List.map_nil, List.flatMap_cons, List.flatMap_nil, List.flatMap_append, List.append_nil, List.nil_append, List.cons_append]; decide +kernel) | refine hk _ ?_ | intro hg | omega | exact True.intro)
          all_goals clear hk k
          refine AW.cond rfl ?_ ?_
          · intro hc; try simp at hc
            all_goals (
              refine AW.reg tiOk (fun _ => []) [4] ?_
              intro k hk; simp -dsimp [go_sem, -decide_eq_true_eq, -decide_eq_false_iff_not, hx, hy]
              repeat' (first | refine And.intro ?_ ?_ | refine hk _ ?_ | intro hg | omega | exact True.intro)
              all_goals clear hk k
              refine AW.retF (ow := []) (muts := []) ?_ (fun h => And.intro (.inr rfl) h)
              first | (rw [eq_ne_at hx hy (by first | assumption | (intro e; subst e; omega))]; simp [go_sem, Tryz.results157]; done) | (rw [eq_end (by omega) hinv (by omega)]; simp [go_sem, Tryz.results157]; done) | (rw [eq_ne_len (by omega)]; simp [go_sem, Tryz.results157]))
          · intro hc; try simp at hc
            all_goals (
              refine AW.skipN (fun _ h => h) ?_
              refine AW.regK tiOk (fun _ => []) ?_
              intro k hk; simp -dsimp [go_sem, -decide_eq_true_eq, -decide_eq_false_iff_not, hx, hy]
              repeat' (first | refine And.intro ?_ ?_ | refine hk _ ?_ | intro hg | omega | exact True.intro)
              all_goals clear hk k
              show ∃ _, _
              have hw := wrapi hlt (by omega)
              refine ⟨i + 1, ⟨by omega, take_step hx hy (by first | assumption | (apply UInt8.toNat_inj.1; omega)) hinv⟩, by omega, Less.of rfl (by simp [go_sem, hw]) (by simp [go_sem])⟩))
      · intro hc; try simp at hc
        all_goals (
          refine AW.exitN (fun _ h => h) ?_
          refine AW.reg tiOk (fun _ => []) [4] ?_
          intro k hk; simp -dsimp [go_sem, -decide_eq_true_eq, -decide_eq_false_iff_not]
          repeat' (first | refine And.intro ?_ ?_ | refine hk _ ?_ | intro hg | omega | exact True.intro)
          all_goals clear hk k
          refine AW.retF (ow := []) (muts := []) ?_ (fun h => And.intro (.inr rfl) h)
          first | (rw [eq_ne_at hx hy (by first | assumption | (intro e; subst e; omega))]; simp [go_sem, Tryz.results157]; done) | (rw [eq_end (by omega) hinv (by omega)]; simp [go_sem, Tryz.results157]; done) | (rw [eq_ne_len (by omega)]; simp [go_sem, Tryz.results157])))

set_option maxHeartbeats 600000 in
set_option linter.unusedSimpArgs false in
set_option maxRecDepth 100000 in
/-- laws.szChart -/
theorem dc_laws_szChart (x : TChart) (z : Int) (hz : 0 ≤ z ∧ z ≤ 1048576) (hg : x.gok) : DC Tryz.prog 132 [.agg x.ro, .int .i64 z] (.int .i64 (subz z x.sz)) [] := by
  have hg' := hg
  unfold TChart.gok at hg'
  obtain ⟨h2, h3, h4⟩ := hg'
  refine DC.intro tiOk Tryz.func132 rfl rfl rfl rfl rfl rfl rfl rfl [] ?_
  refine AW.reg tiOk (fun _ => []) [1, 2] ?_
  intro k hk; simp -dsimp [go_sem, -decide_eq_true_eq, -decide_eq_false_iff_not]
  repeat' (first | refine And.intro ?_ ?_ | refine hk _ ?_ | intro hg | omega | exact True.intro)
  all_goals clear hk k
  refine AW.reg tiOk (fun _ => []) [1, 2] ?_
  intro k hk; simp -dsimp (maxSteps := 2000000) [go_sem, -decide_eq_true_eq, -decide_eq_false_iff_not]
  repeat' (first | refine And.intro ?_ ?_ | refine hk _ ?_ | intro hg | (refine CallK.intro (dc_laws_szInt64S _ _ (by constructor <;> first | omega | grind [subz]) (by first | assumption | (constructor <;> assumption))) ?_; simp -dsimp (maxSteps := 2000000) [go_sem, -decide_eq_true_eq, -decide_eq_false_iff_not]) | omega | exact True.intro)
  all_goals clear hk k
  refine AW.seq ?_
  refine AW.reg tiOk (fun _ => []) [1, 2, 10] ?_
  intro k hk; simp -dsimp [go_sem, -decide_eq_true_eq, -decide_eq_false_iff_not]
  repeat' (first | refine And.intro ?_ ?_ | refine hk _ ?_ | intro hg | omega | exact True.intro)
  all_goals clear hk k
  refine AW.cond rfl ?_ ?_
  · intro hc; try simp [subz_neg, subz_nn] at hc
    all_goals (
      refine AW.reg tiOk (fun _ => []) [4] ?_
      intro k hk; simp -dsimp [go_sem, -decide_eq_true_eq, -decide_eq_false_iff_not]
      repeat' (first | refine And.intro ?_ ?_ | refine hk _ ?_ | intro hg | omega | exact True.intro)
      all_goals clear hk k
      refine AW.retF (ow := []) (muts := []) ?_ (fun h => And.intro (.inr rfl) h)
      simp [go_sem, Tryz.results132]; simp only [subz, TChart.sz] at * <;> grind)
  · intro hc; try simp [subz_neg, subz_nn] at hc
    all_goals (
      refine AW.skipN (fun _ h => h) ?_
      refine AW.reg tiOk (fun _ => []) [1, 2] ?_
      intro k hk; simp -dsimp (maxSteps := 2000000) [go_sem, -decide_eq_true_eq, -decide_eq_false_iff_not]
      repeat' (first | refine And.intro ?_ ?_ | refine hk _ ?_ | intro hg | (refine CallK.intro (dc_laws_szInt64S _ _ (by constructor <;> first | omega | grind [subz]) (by first | assumption | (constructor <;> assumption))) ?_; simp -dsimp (maxSteps := 2000000) [go_sem, -decide_eq_true_eq, -decide_eq_false_iff_not]) | omega | exact True.intro)
      all_goals clear hk k
      refine AW.seq ?_
      refine AW.reg tiOk (fun _ => []) [1, 2, 16] ?_
      intro k hk; simp -dsimp [go_sem, -decide_eq_true_eq, -decide_eq_false_iff_not]
      repeat' (first | refine And.intro ?_ ?_ | refine hk _ ?_ | intro hg | omega | exact True.intro)
      all_goals clear hk k
      refine AW.cond rfl ?_ ?_
      · intro hc; try simp [subz_neg, subz_nn] at hc
        all_goals (
          refine AW.reg tiOk (fun _ => []) [4] ?_
          intro k hk; simp -dsimp [go_sem, -decide_eq_true_eq, -decide_eq_false_iff_not]
          repeat' (first | refine And.intro ?_ ?_ | refine hk _ ?_ | intro hg | omega | exact True.intro)
          all_goals clear hk k
          refine AW.retF (ow := []) (muts := []) ?_ (fun h => And.intro (.inr rfl) h)
          simp [go_sem, Tryz.results132]; simp only [subz, TChart.sz] at * <;> grind)
      · intro hc; try simp [subz_neg, subz_nn] at hc
        all_goals (
          refine AW.skipN (fun _ h => h) ?_
          refine AW.reg tiOk (fun _ => []) [1] ?_
          intro k hk; simp -dsimp (maxSteps := 2000000) [go_sem, -decide_eq_true_eq, -decide_eq_false_iff_not]
          repeat' (first | refine And.intro ?_ ?_ | refine hk _ ?_ | intro hg | (refine CallK.intro (dc_laws_szInt64S _ _ (by constructor <;> first | omega | grind [subz]) (by first | assumption | (constructor <;> assumption))) ?_; simp -dsimp (maxSteps := 2000000) [go_sem, -decide_eq_true_eq, -decide_eq_false_iff_not]) | omega | exact True.intro)
          all_goals clear hk k
          refine AW.seq ?_
          refine AW.reg tiOk (fun _ => []) [1, 22] ?_
          intro k hk; simp -dsimp [go_sem, -decide_eq_true_eq, -decide_eq_false_iff_not]
          repeat' (first | refine And.intro ?_ ?_ | refine hk _ ?_ | intro hg | omega | exact True.intro)
          all_goals clear hk k
          refine AW.cond rfl ?_ ?_
          · intro hc; try simp [subz_neg, subz_nn] at hc
            all_goals (
              refine AW.reg tiOk (fun _ => []) [4] ?_
              intro k hk; simp -dsimp [go_sem, -decide_eq_true_eq, -decide_eq_false_iff_not]
              repeat' (first | refine And.intro ?_ ?_ | refine hk _ ?_ | intro hg | omega | exact True.intro)
              all_goals clear hk k
              refine AW.retF (ow := []) (muts := []) ?_ (fun h => And.intro (.inr rfl) h)
              simp [go_sem, Tryz.results132]; simp only [subz, TChart.sz] at * <;> grind)
          · intro hc; try simp [subz_neg, subz_nn] at hc
            all_goals (
              refine AW.skipN (fun _ h => h) ?_
              refine AW.reg tiOk (fun _ => []) [4] ?_
              intro k hk; simp -dsimp [go_sem, -decide_eq_true_eq, -decide_eq_false_iff_not]
              repeat' (first | refine And.intro ?_ ?_ | refine hk _ ?_ | intro hg | omega | exact True.intro)
              all_goals clear hk k
              refine AW.retF (ow := []) (muts := []) ?_ (fun h => And.intro (.inr rfl) h)
              simp [go_sem, Tryz.results132]; simp only [subz, TChart.sz] at * <;> grind)))

set_option maxHeartbeats 600000 in
set_option linter.unusedSimpArgs false in
set_option maxRecDepth 100000 in
/-- laws.toChart -/
theorem dc_laws_toChart (x : TChart) (hs : x.sz ≤ 1048576) : DC Tryz.prog 134 [.agg x.ro] (.agg [.int .i64 x.status, .int .i64 x.now, .osl 1 (x.vars.map I1), .osl 1 (x.acts.map I1), .osl 1 (x.dues.map I1)]) [] := by
  unfold TChart.sz at hs
  have h2 : x.vars.length ≤ 1048576 := by omega
  have h3 : x.acts.length ≤ 1048576 := by omega
  have h4 : x.dues.length ≤ 1048576 := by omega
  refine DC.intro tiOk Tryz.func134 rfl rfl rfl rfl rfl rfl rfl rfl [1000] ?_
  refine AW.reg tiOk (fun _ => []) [1, 2] ?_
  intro k hk; simp -dsimp [go_sem, -decide_eq_true_eq, -decide_eq_false_iff_not]
  repeat' (first | refine And.intro ?_ ?_ | refine hk _ ?_ | intro hg | omega | exact True.intro)
  all_goals clear hk k
  refine AW.reg tiOk (fun _ => []) [1, 2, 3] ?_
  intro k hk; simp -dsimp [go_sem, -decide_eq_true_eq, -decide_eq_false_iff_not]
  repeat' (first | refine And.intro ?_ ?_ | refine hk _ ?_ | intro hg | omega | exact True.intro)
  all_goals clear hk k
  refine AW.reg tiOk (fun _ => []) [1, 2, 3] ?_
  intro k hk; simp -dsimp [go_sem, -decide_eq_true_eq, -decide_eq_false_iff_not]
  repeat' (first | refine And.intro ?_ ?_ | refine hk _ ?_ | intro hg | omega | exact True.intro)
  all_goals clear hk k
  refine AW.reg tiOk (fun _ => []) [1, 2, 3] ?_
  intro k hk; simp -dsimp [go_sem, -decide_eq_true_eq, -decide_eq_false_iff_not]
  repeat' (first | refine And.intro ?_ ?_ | refine hk _ ?_ | intro hg | omega | exact True.intro)
  all_goals clear hk k
  refine AW.reg tiOk (fun _ => []) [1, 2, 3] ?_
  intro k hk; simp -dsimp (maxSteps := 2000000) [go_sem, -decide_eq_true_eq, -decide_eq_false_iff_not]
  repeat' (first | refine And.intro ?_ ?_ | refine hk _ ?_ | intro hg | (refine CallK.intro (dc_laws_toInt64S _ (by assumption)) ?_; simp -dsimp (maxSteps := 2000000) [go_sem, -decide_eq_true_eq, -decide_eq_false_iff_not]) | omega | exact True.intro)
  all_goals clear hk k
  refine AW.reg tiOk (fun _ => []) [1, 2, 3] ?_
  intro k hk; simp -dsimp (maxSteps := 2000000) [go_sem, -decide_eq_true_eq, -decide_eq_false_iff_not]
  repeat' (first | refine And.intro ?_ ?_ | refine hk _ ?_ | intro hg | (refine CallK.intro (dc_laws_toInt64S _ (by assumption)) ?_; simp -dsimp (maxSteps := 2000000) [go_sem, -decide_eq_true_eq, -decide_eq_false_iff_not]) | omega | exact True.intro)
  all_goals clear hk k
  refine AW.reg tiOk (fun _ => []) [2, 3] ?_
  intro k hk; simp -dsimp (maxSteps := 2000000) [go_sem, -decide_eq_true_eq, -decide_eq_false_iff_not]
  repeat' (first | refine And.intro ?_ ?_ | refine hk _ ?_ | intro hg | (refine CallK.intro (dc_laws_toInt64S _ (by assumption)) ?_; simp -dsimp (maxSteps := 2000000) [go_sem, -decide_eq_true_eq, -decide_eq_false_iff_not]) | omega | exact True.intro)
  all_goals clear hk k
  refine AW.reg tiOk (fun _ => []) [2] ?_
  intro k hk; simp -dsimp [go_sem, -decide_eq_true_eq, -decide_eq_false_iff_not]
  repeat' (first | refine And.intro ?_ ?_ | refine hk _ ?_ | intro hg | omega | exact True.intro)
  all_goals clear hk k
  refine AW.retF (ow := [1000]) (muts := []) ?_ (fun h => And.intro (.inr rfl) h)
  simp [go_sem, Tryz.results134]

set_option maxHeartbeats 600000 in
set_option linter.unusedSimpArgs false in
set_option maxRecDepth 100000 in
/-- laws.eqChart -/
theorem dc_laws_eqChart (a b : TChart) (hg : a.gok) : DC Tryz.prog 136 [.agg a.ro, .agg b.ro] (.bool (decide (a = b))) [] := by
  obtain ⟨h0, h1, h2⟩ := hg
  refine DC.intro tiOk Tryz.func136 rfl rfl rfl rfl rfl rfl rfl rfl [] ?_
  refine AW.reg tiOk (fun _ => []) [2, 3] ?_
  intro k hk; simp -dsimp [go_sem, -decide_eq_true_eq, -decide_eq_false_iff_not]
  repeat' (first | refine And.intro ?_ ?_ | refine hk _ ?_ | intro hg | omega | exact True.intro)
  all_goals clear hk k
  refine AW.seq ?_
  refine AW.reg tiOk (fun _ => []) [2, 3, 9] ?_
  intro k hk; simp -dsimp [go_sem, -decide_eq_true_eq, -decide_eq_false_iff_not]
  repeat' (first | refine And.intro ?_ ?_ | refine hk _ ?_ | intro hg | omega | exact True.intro)
  all_goals clear hk k
  refine AW.cond rfl ?_ ?_
  · intro hc; try simp at hc
    all_goals (
      refine AW.reg tiOk (fun _ => []) [4] ?_
      intro k hk; simp -dsimp [go_sem, -decide_eq_true_eq, -decide_eq_false_iff_not]
      repeat' (first | refine And.intro ?_ ?_ | refine hk _ ?_ | intro hg | omega | exact True.intro)
      all_goals clear hk k
      refine AW.retF (ow := []) (muts := []) ?_ (fun h => And.intro (.inr rfl) h)
      cases a; cases b; simp [go_sem, Tryz.results136] at *; simp [*])
  · intro hc; try simp at hc
    all_goals (
      refine AW.skipN (fun _ h => h) ?_
      refine AW.seq ?_
      refine AW.reg tiOk (fun _ => []) [2, 3, 14] ?_
      intro k hk; simp -dsimp [go_sem, -decide_eq_true_eq, -decide_eq_false_iff_not]
      repeat' (first | refine And.intro ?_ ?_ | refine hk _ ?_ | intro hg | omega | exact True.intro)
      all_goals clear hk k
      refine AW.cond rfl ?_ ?_
      · intro hc; try simp at hc
        all_goals (
          refine AW.reg tiOk (fun _ => []) [4] ?_
          intro k hk; simp -dsimp [go_sem, -decide_eq_true_eq, -decide_eq_false_iff_not]
          repeat' (first | refine And.intro ?_ ?_ | refine hk _ ?_ | intro hg | omega | exact True.intro)
          all_goals clear hk k
          refine AW.retF (ow := []) (muts := []) ?_ (fun h => And.intro (.inr rfl) h)
          cases a; cases b; simp [go_sem, Tryz.results136] at *; simp [*])
      · intro hc; try simp at hc
        all_goals (
          refine AW.skipN (fun _ h => h) ?_
          refine AW.seq ?_
          refine AW.reg tiOk (fun _ => []) [2, 3, 20] ?_
          intro k hk; simp -dsimp (maxSteps := 2000000) [go_sem, -decide_eq_true_eq, -decide_eq_false_iff_not]
          repeat' (first | refine And.intro ?_ ?_ | refine hk _ ?_ | intro hg | (refine CallK.intro (dc_laws_eqInt64S _ _ (by assumption)) ?_; simp -dsimp (maxSteps := 2000000) [go_sem, -decide_eq_true_eq, -decide_eq_false_iff_not]) | omega | exact True.intro)
          all_goals clear hk k
          refine AW.cond rfl ?_ ?_
          · intro hc; try simp at hc
            all_goals (
              refine AW.reg tiOk (fun _ => []) [4] ?_
              intro k hk; simp -dsimp [go_sem, -decide_eq_true_eq, -decide_eq_false_iff_not]
              repeat' (first | refine And.intro ?_ ?_ | refine hk _ ?_ | intro hg | omega | exact True.intro)
              all_goals clear hk k
              refine AW.retF (ow := []) (muts := []) ?_ (fun h => And.intro (.inr rfl) h)
              cases a; cases b; simp [go_sem, Tryz.results136] at *; simp [*])
          · intro hc; try simp at hc
            all_goals (
              refine AW.skipN (fun _ h => h) ?_
              refine AW.seq ?_
              refine AW.reg tiOk (fun _ => []) [2, 3, 26] ?_
              intro k hk; simp -dsimp (maxSteps := 2000000) [go_sem, -decide_eq_true_eq, -decide_eq_false_iff_not]
              repeat' (first | refine And.intro ?_ ?_ | refine hk _ ?_ | intro hg | (refine CallK.intro (dc_laws_eqInt64S _ _ (by assumption)) ?_; simp -dsimp (maxSteps := 2000000) [go_sem, -decide_eq_true_eq, -decide_eq_false_iff_not]) | omega | exact True.intro)
              all_goals clear hk k
              refine AW.cond rfl ?_ ?_
              · intro hc; try simp at hc
                all_goals (
                  refine AW.reg tiOk (fun _ => []) [4] ?_
                  intro k hk; simp -dsimp [go_sem, -decide_eq_true_eq, -decide_eq_false_iff_not]
                  repeat' (first | refine And.intro ?_ ?_ | refine hk _ ?_ | intro hg | omega | exact True.intro)
                  all_goals clear hk k
                  refine AW.retF (ow := []) (muts := []) ?_ (fun h => And.intro (.inr rfl) h)
                  cases a; cases b; simp [go_sem, Tryz.results136] at *; simp [*])
              · intro hc; try simp at hc
                all_goals (
                  refine AW.skipN (fun _ h => h) ?_
                  refine AW.seq ?_
                  refine AW.reg tiOk (fun _ => []) [32] ?_
                  intro k hk; simp -dsimp (maxSteps := 2000000) [go_sem, -decide_eq_true_eq, -decide_eq_false_iff_not]
                  repeat' (first | refine And.intro ?_ ?_ | refine hk _ ?_ | intro hg | (refine CallK.intro (dc_laws_eqInt64S _ _ (by assumption)) ?_; simp -dsimp (maxSteps := 2000000) [go_sem, -decide_eq_true_eq, -decide_eq_false_iff_not]) | omega | exact True.intro)
                  all_goals clear hk k
                  refine AW.cond rfl ?_ ?_
                  · intro hc; try simp at hc
                    all_goals (
                      refine AW.reg tiOk (fun _ => []) [4] ?_
                      intro k hk; simp -dsimp [go_sem, -decide_eq_true_eq, -decide_eq_false_iff_not]
                      repeat' (first | refine And.intro ?_ ?_ | refine hk _ ?_ | intro hg | omega | exact True.intro)
                      all_goals clear hk k
                      refine AW.retF (ow := []) (muts := []) ?_ (fun h => And.intro (.inr rfl) h)
                      cases a; cases b; simp [go_sem, Tryz.results136] at *; simp [*])
                  · intro hc; try simp at hc
                    all_goals (
                      refine AW.skipN (fun _ h => h) ?_
                      refine AW.reg tiOk (fun _ => []) [4] ?_
                      intro k hk; simp -dsimp [go_sem, -decide_eq_true_eq, -decide_eq_false_iff_not]
                      repeat' (first | refine And.intro ?_ ?_ | refine hk _ ?_ | intro hg | omega | exact True.intro)
                      all_goals clear hk k
                      refine AW.retF (ow := []) (muts := []) ?_ (fun h => And.intro (.inr rfl) h)
                      cases a; cases b; simp [go_sem, Tryz.results136] at *; simp [*])))))

end Go.AM

/-! ### T2 -/
set_option linter.unusedVariables false
set_option linter.unusedSimpArgs false
namespace Go.AM
open Go.Proofs

set_option maxHeartbeats 600000 in
set_option linter.unusedSimpArgs false in
set_option maxRecDepth 100000 in
/-- laws.eqByteS -/
theorem dc_laws_eqByteS (a b : List UInt8) (ha : a.length ≤ 9223372036854775807) : DC Tryz.prog 122 [.isl 1 (a.map B1), .isl 1 (b.map B1)] (.bool (decide (a = b))) [] := by
  refine DC.intro tiOk Tryz.func122 rfl rfl rfl rfl rfl rfl rfl rfl [] ?_
  refine AW.reg tiOk (fun _ => []) [0, 1] ?_
  intro k hk; simp -dsimp [go_sem, -decide_eq_true_eq, -decide_eq_false_iff_not]
  repeat' (first | refine And.intro ?_ ?_ | refine hk _ ?_ | intro hg | omega | exact True.intro)
  all_goals clear hk k
  refine AW.seq ?_
  refine AW.reg tiOk (fun _ => []) [0, 1, 10] ?_
  intro k hk; simp -dsimp [go_sem, -decide_eq_true_eq, -decide_eq_false_iff_not]
  repeat' (first | refine And.intro ?_ ?_ | refine hk _ ?_ | intro hg | omega | exact True.intro)
  all_goals clear hk k
  refine AW.cond rfl ?_ ?_
  · intro hc; try simp at hc
    all_goals (
      refine AW.reg tiOk (fun _ => []) [4] ?_
      intro k hk; simp -dsimp [go_sem, -decide_eq_true_eq, -decide_eq_false_iff_not]
      repeat' (first | refine And.intro ?_ ?_ | refine hk _ ?_ | intro hg | omega | exact True.intro)
      all_goals clear hk k
      refine AW.retF (ow := []) (muts := []) ?_ (fun h => And.intro (.inr rfl) h)
      first | (rw [eq_ne_at hx hy (by first | assumption | (intro e; subst e; omega))]; simp [go_sem, Tryz.results122]; done) | (rw [eq_end (by omega) hinv (by omega)]; simp [go_sem, Tryz.results122]; done) | (rw [eq_ne_len (by omega)]; simp [go_sem, Tryz.results122]))
  · intro hc; try simp at hc
    all_goals (
      refine AW.skipN (fun _ h => h) ?_
      refine AW.seq ?_
      refine AW.reg tiOk (fun _ => []) [0, 1, 5] ?_
      intro k hk; simp -dsimp [go_sem, -decide_eq_true_eq, -decide_eq_false_iff_not]
      repeat' (first | refine And.intro ?_ ?_ | refine hk _ ?_ | intro hg | omega | exact True.intro)
      all_goals clear hk k
      refine AW.block ?_
      -- live at the loop's head: [0, 1, 5]
      refine AW.loopI (fun i : Nat => ⟨26, [(0, .isl 1 (a.map B1)), (1, .isl 1 (b.map B1)), (5, .int .i64 i)], []⟩) (fun i => i ≤ a.length ∧ a.take i = b.take i) (fun i => a.length - i) (0) (by simp) (Less.of rfl (by simp [go_sem]) (by simp [go_sem])) ?_
      rintro i ⟨hi, hinv⟩
      refine AW.seq ?_
      refine AW.reg tiOk (fun _ => []) [0, 1, 5, 14] ?_
      intro k hk; simp -dsimp [go_sem, -decide_eq_true_eq, -decide_eq_false_iff_not]
      repeat' (first | refine And.intro ?_ ?_ | refine hk _ ?_ | intro hg | omega | exact True.intro)
      all_goals clear hk k
      refine AW.cond rfl ?_ ?_
      · intro hc; try simp at hc
        all_goals (
          have hlt : i < a.length := by assumption
          obtain ⟨x, hx⟩ := at_some hlt
          obtain ⟨y, hy⟩ := at_some (l := b) (show i < b.length by omega)
          have hla := at_lt hy
          refine AW.skipN (fun _ h => h) ?_
          refine AW.seq ?_
          refine AW.block ?_
          refine AW.reg tiOk (fun _ => []) [0, 1, 5, 25] ?_
          intro k hk; simp -dsimp (maxSteps := 2000000) [go_sem, -decide_eq_true_eq, -decide_eq_false_iff_not, hx, hy]
          repeat' (first | refine And.intro ?_ ?_ | (refine Chk.keys ?_; simp only [go_sem, List.map_cons, List.map_nil, List.flatMap_cons, List.flatMap_nil, List.flatMap_append, List.append_nil, List.nil_append, List.cons_append]; decide +kernel) | refine hk _ ?_ | intro hg | omega | exact True.intro)
          all_goals clear hk k
          refine AW.cond rfl ?_ ?_
          · intro hc; try simp at hc
            all_goals (
              refine AW.reg tiOk (fun _ => []) [4] ?_
              intro k hk; simp -dsimp [go_sem, -decide_eq_true_eq, -decide_eq_false_iff_not, hx, hy]
              repeat' (first | refine And.intro ?_ ?_ | refine hk _ ?_ | intro hg | omega | exact True.intro)
              all_goals clear hk k
              refine AW.retF (ow := []) (muts := []) ?_ (fun h => And.intro (.inr rfl) h)
              first | (rw [eq_ne_at hx hy (by first | assumption | (intro e; subst e; omega))]; simp [go_sem, Tryz.results122]; done) | (rw [eq_end (by omega) hinv (by omega)]; simp [go_sem, Tryz.results122]; done) | (rw [eq_ne_len (by omega)]; simp [go_sem, Tryz.results122]))
          · intro hc; try simp at hc
            all_goals (
              refine AW.skipN (fun _ h => h) ?_
              refine AW.regK tiOk (fun _ => []) ?_
              intro k hk; simp -dsimp [go_sem, -decide_eq_true_eq, -decide_eq_false_iff_not, hx, hy]
              repeat' (first | refine And.intro ?_ ?_ | refine hk _ ?_ | intro hg | omega | exact True.intro)
              all_goals clear hk k
              show ∃ _, _
              have hw := wrapi hlt (by omega)
              refine ⟨i + 1, ⟨by omega, take_step hx hy (by first | assumption | (apply UInt8.toNat_inj.1; omega)) hinv⟩, by omega, Less.of rfl (by simp [go_sem, hw]) (by simp [go_sem])⟩))
      · intro hc; try simp at hc
        all_goals (
          refine AW.exitN (fun _ h => h) ?_
          refine AW.reg tiOk (fun _ => []) [4] ?_
          intro k hk; simp -dsimp [go_sem, -decide_eq_true_eq, -decide_eq_false_iff_not]
          repeat' (first | refine And.intro ?_ ?_ | refine hk _ ?_ | intro hg | omega | exact True.intro)
          all_goals clear hk k
          refine AW.retF (ow := []) (muts := []) ?_ (fun h => And.intro (.inr rfl) h)
          first | (rw [eq_ne_at hx hy (by first | assumption | (intro e; subst e; omega))]; simp [go_sem, Tryz.results122]; done) | (rw [eq_end (by omega) hinv (by omega)]; simp [go_sem, Tryz.results122]; done) | (rw [eq_ne_len (by omega)]; simp [go_sem, Tryz.results122])))

set_option maxHeartbeats 600000 in
set_option linter.unusedSimpArgs false in
set_option maxRecDepth 100000 in
/-- laws.eqJournal -/
theorem dc_laws_eqJournal (a b : TJournal) (hg : a.gok) : DC Tryz.prog 88 [.agg a.ro, .agg b.ro] (.bool (decide (a = b))) [] := by
  obtain ⟨h0, h1⟩ := hg
  refine DC.intro tiOk Tryz.func88 rfl rfl rfl rfl rfl rfl rfl rfl [] ?_
  refine AW.reg tiOk (fun _ => []) [2, 3] ?_
  intro k hk; simp -dsimp [go_sem, -decide_eq_true_eq, -decide_eq_false_iff_not]
  repeat' (first | refine And.intro ?_ ?_ | refine hk _ ?_ | intro hg | omega | exact True.intro)
  all_goals clear hk k
  refine AW.seq ?_
  refine AW.reg tiOk (fun _ => []) [2, 3, 10] ?_
  intro k hk; simp -dsimp (maxSteps := 2000000) [go_sem, -decide_eq_true_eq, -decide_eq_false_iff_not]
  repeat' (first | refine And.intro ?_ ?_ | refine hk _ ?_ | intro hg | (refine CallK.intro (dc_laws_eqByteS _ _ (by assumption)) ?_; simp -dsimp (maxSteps := 2000000) [go_sem, -decide_eq_true_eq, -decide_eq_false_iff_not]) | omega | exact True.intro)
  all_goals clear hk k
  refine AW.cond rfl ?_ ?_
  · intro hc; try simp at hc
    all_goals (
      refine AW.reg tiOk (fun _ => []) [4] ?_
      intro k hk; simp -dsimp [go_sem, -decide_eq_true_eq, -decide_eq_false_iff_not]
      repeat' (first | refine And.intro ?_ ?_ | refine hk _ ?_ | intro hg | omega | exact True.intro)
      all_goals clear hk k
      refine AW.retF (ow := []) (muts := []) ?_ (fun h => And.intro (.inr rfl) h)
      cases a; cases b; simp [go_sem, Tryz.results88] at *; simp [*])
  · intro hc; try simp at hc
    all_goals (
      refine AW.skipN (fun _ h => h) ?_
      refine AW.seq ?_
      refine AW.reg tiOk (fun _ => []) [16] ?_
      intro k hk; simp -dsimp (maxSteps := 2000000) [go_sem, -decide_eq_true_eq, -decide_eq_false_iff_not]
      repeat' (first | refine And.intro ?_ ?_ | refine hk _ ?_ | intro hg | (refine CallK.intro (dc_laws_eqByteS _ _ (by assumption)) ?_; simp -dsimp (maxSteps := 2000000) [go_sem, -decide_eq_true_eq, -decide_eq_false_iff_not]) | omega | exact True.intro)
      all_goals clear hk k
      refine AW.cond rfl ?_ ?_
      · intro hc; try simp at hc
        all_goals (
          refine AW.reg tiOk (fun _ => []) [4] ?_
          intro k hk; simp -dsimp [go_sem, -decide_eq_true_eq, -decide_eq_false_iff_not]
          repeat' (first | refine And.intro ?_ ?_ | refine hk _ ?_ | intro hg | omega | exact True.intro)
          all_goals clear hk k
          refine AW.retF (ow := []) (muts := []) ?_ (fun h => And.intro (.inr rfl) h)
          cases a; cases b; simp [go_sem, Tryz.results88] at *; simp [*])
      · intro hc; try simp at hc
        all_goals (
          refine AW.skipN (fun _ h => h) ?_
          refine AW.reg tiOk (fun _ => []) [4] ?_
          intro k hk; simp -dsimp [go_sem, -decide_eq_true_eq, -decide_eq_false_iff_not]
          repeat' (first | refine And.intro ?_ ?_ | refine hk _ ?_ | intro hg | omega | exact True.intro)
          all_goals clear hk k
          refine AW.retF (ow := []) (muts := []) ?_ (fun h => And.intro (.inr rfl) h)
          cases a; cases b; simp [go_sem, Tryz.results88] at *; simp [*]))

end Go.AM

/-! ### Pv -/
set_option linter.unusedVariables false
set_option linter.unusedSimpArgs false
namespace Go.AM

/-! chapter 1 -/
def inR (n lo hi : Int) : Bool := decide (lo ≤ n) && decide (n ≤ hi)
theorem inR_iff {n lo hi : Int} : inR n lo hi = true ↔ lo ≤ n ∧ n ≤ hi := by simp [inR]
theorem inR_not {n lo hi : Int} : inR n lo hi = false ↔ ¬ (lo ≤ n ∧ n ≤ hi) := by rw [← inR_iff]; simp
def isP (c : UInt8) : Bool := decide (32 ≤ (c.toNat : Int)) && decide ((c.toNat : Int) ≤ 126)
theorem all_take {α : Type} {s : List α} {p : α → Bool} {i : Nat} {x : α} (hx : s[i]? = some x) (h : (s.take i).all p = true) : (s.take (i + 1)).all p = p x := by
  rw [List.take_add_one, List.all_append, h, hx]; simp
theorem all_not {α : Type} {s : List α} {p : α → Bool} {i : Nat} {x : α} (hx : s[i]? = some x) (h : p x = false) : s.all p = false := by
  rw [List.all_eq_false]; exact ⟨x, List.mem_of_getElem? hx, by simp [h]⟩
theorem all_end {α : Type} {s : List α} {p : α → Bool} {i : Nat} (hi : s.length ≤ i) (h : (s.take i).all p = true) : s.all p = true := by rwa [List.take_of_length_le hi] at h

def firstC (l : List Int) : Int := (l.find? (fun n => decide (n ≠ 0))).getD 0
theorem firstC_step {l : List Int} {i : Nat} {x : Int} (h : l[i]? = some x) : firstC (l.drop i) = if x = 0 then firstC (l.drop (i + 1)) else x := by
  obtain ⟨hi, hx⟩ := List.getElem?_eq_some_iff.1 h
  rw [List.drop_eq_getElem_cons hi, hx]
  unfold firstC
  by_cases h0 : x = 0
  · simp [h0]
  · simp [h0]
theorem firstC_end {l : List Int} {i : Nat} (h : l.length ≤ i) : firstC (l.drop i) = 0 := by
  rw [List.drop_eq_nil_of_le h]; rfl
theorem firstC_nil : firstC [] = 0 := rfl
theorem firstC_cons (x : Int) (l : List Int) : firstC (x :: l) = if x = 0 then firstC l else x := by
  unfold firstC
  by_cases h0 : x = 0
  · simp [h0]
  · simp [h0]

def lineF (s : List UInt8) : Int := if s.length < 1 ∨ 40 < s.length then 2 else if s.all isP then 0 else 5
theorem lineF_eq (s : List UInt8) : firstC [if (!(inR s.length 1 40)) = true then 2 else 0, if (!s.all isP) = true then 5 else 0] = lineF s := by
  by_cases h : s.length < 1 ∨ 40 < s.length
  · have e : inR s.length 1 40 = false := inR_not.2 (by omega)
    simp only [firstC_cons, firstC_nil, lineF, if_pos h, e]
    simp
  · have e : inR s.length 1 40 = true := inR_iff.2 (by omega)
    simp only [firstC_cons, firstC_nil, lineF, if_neg h, e]
    cases s.all isP <;> simp
theorem lineF_bad {s : List UInt8} (h : s.length < 1 ∨ 40 < s.length) : lineF s = 2 := by rw [lineF, if_pos h]
theorem lineF_good {s : List UInt8} {b : Bool} (h : ¬ (s.length < 1 ∨ 40 < s.length)) (hb : s.all isP = b) : lineF s = if b then 0 else 5 := by rw [lineF, if_neg h, hb]

/-! slices of Go's library -/
/-- the first index of what is so, counted from i; -1: none -/
def idxF {α : Type} (p : α → Bool) : List α → Nat → Int
  | [], _ => -1
  | x :: r, i => if p x then i else idxF p r (i + 1)
theorem idxF_step {α : Type} {p : α → Bool} {l : List α} {i : Nat} {x : α} (h : l[i]? = some x) : idxF p (l.drop i) i = if p x then (i : Int) else idxF p (l.drop (i + 1)) (i + 1) := by
  obtain ⟨hi, hx⟩ := List.getElem?_eq_some_iff.1 h
  rw [List.drop_eq_getElem_cons hi, hx]; rfl
theorem idxF_end {α : Type} {p : α → Bool} {l : List α} {i : Nat} (h : l.length ≤ i) : idxF p (l.drop i) i = -1 := by rw [List.drop_eq_nil_of_le h]; rfl
theorem idxF_any {α : Type} {p : α → Bool} : ∀ (l : List α) (i : Nat), decide (0 ≤ idxF p l i) = l.any p := by
  intro l
  induction l with
  | nil => intro i; simp [idxF]
  | cons x l ih =>
    intro i
    simp only [idxF, List.any_cons]
    by_cases hp : p x = true
    · simp [hp]
    · simpa [hp] using ih (i + 1)

/-! chapter 3 -/
def small (n : Int) : Bool := inR n (-1000000) 1000000
def varsF (l : List Int) : Int := if l.length ≠ 4 then 2 else if l.all small then 0 else 3
theorem varsF_eq (l : List Int) : firstC [if (!decide ((l.length : Int) = 4)) = true then 2 else 0, if (l.any fun n => !small n) = true then 3 else 0] = varsF l := by
  simp only [firstC_cons, firstC_nil, varsF]
  have e : (l.any fun n => !small n) = !l.all small := by simp [List.all_eq_not_any_not]
  rw [e]
  by_cases h : l.length = 4
  · have h2 : (l.length : Int) = 4 := by omega
    by_cases hs : l.all small = true
    · simp [h, h2, hs]
    · simp [h, h2, hs]
  · have h2 : ¬ (l.length : Int) = 4 := by omega
    simp [h, h2]

/-! chapter 10 -/
def actF (a : TAct) : Int :=
  if inR a.kind 1 3 = false ∨ (a.kind ≠ 1 ∧ 0 < a.vars.length) then 1 else if inR a.at_ 0 9999 = false then 3 else if a.kind = 1 then varsF a.vars else 0
end Go.AM

/-! ### S1 -/
set_option linter.unusedVariables false
set_option linter.unusedSimpArgs false
namespace Go.AM
open Go.Proofs

set_option maxHeartbeats 600000 in
set_option linter.unusedSimpArgs false in
set_option maxRecDepth 100000 in
/-- impl.codeIf -/
theorem dc_impl_codeIf (b : Bool) (n : Int) : DC Tryz.prog 54 [.bool b, .int .i64 n] (.int .i64 (if b then n else 0)) [] := by
  refine DC.intro tiOk Tryz.func54 rfl rfl rfl rfl rfl rfl rfl rfl [] ?_
  refine AW.reg tiOk (fun _ => []) [0, 1] ?_
  intro k hk; simp -dsimp [go_sem, -decide_eq_true_eq, -decide_eq_false_iff_not]
  repeat' (first | refine And.intro ?_ ?_ | refine hk _ ?_ | intro hg | omega | exact True.intro)
  all_goals clear hk k
  refine AW.seq ?_
  refine AW.reg tiOk (fun _ => []) [1, 5] ?_
  intro k hk; simp -dsimp [go_sem, -decide_eq_true_eq, -decide_eq_false_iff_not]
  repeat' (first | refine And.intro ?_ ?_ | refine hk _ ?_ | intro hg | omega | exact True.intro)
  all_goals clear hk k
  refine AW.cond rfl ?_ ?_
  · intro hc; try simp at hc
    all_goals (
      refine AW.reg tiOk (fun _ => []) [4] ?_
      intro k hk; simp -dsimp [go_sem, -decide_eq_true_eq, -decide_eq_false_iff_not]
      repeat' (first | refine And.intro ?_ ?_ | refine hk _ ?_ | intro hg | omega | exact True.intro)
      all_goals clear hk k
      refine AW.retF (ow := []) (muts := []) ?_ (fun h => And.intro (.inr rfl) h)
      simp [go_sem, *, Tryz.results54])
  · intro hc; try simp at hc
    all_goals (
      refine AW.skipN (fun _ h => h) ?_
      refine AW.reg tiOk (fun _ => []) [4] ?_
      intro k hk; simp -dsimp [go_sem, -decide_eq_true_eq, -decide_eq_false_iff_not]
      repeat' (first | refine And.intro ?_ ?_ | refine hk _ ?_ | intro hg | omega | exact True.intro)
      all_goals clear hk k
      refine AW.retF (ow := []) (muts := []) ?_ (fun h => And.intro (.inr rfl) h)
      simp [go_sem, *, Tryz.results54])

set_option maxHeartbeats 600000 in
set_option linter.unusedSimpArgs false in
set_option maxRecDepth 100000 in
/-- impl.inRange -/
theorem dc_impl_inRange (n lo hi : Int) : DC Tryz.prog 99 [.int .i64 n, .int .i64 lo, .int .i64 hi] (.bool (inR n lo hi)) [] := by
  refine DC.intro tiOk Tryz.func99 rfl rfl rfl rfl rfl rfl rfl rfl [] ?_
  refine AW.reg tiOk (fun _ => []) [0, 1, 2] ?_
  intro k hk; simp -dsimp [go_sem, -decide_eq_true_eq, -decide_eq_false_iff_not]
  repeat' (first | refine And.intro ?_ ?_ | refine hk _ ?_ | intro hg | omega | exact True.intro)
  all_goals clear hk k
  refine AW.reg tiOk (fun _ => []) [6] ?_
  intro k hk; simp +contextual -dsimp (maxSteps := 2000000) [go_sem, -decide_eq_true_eq, -decide_eq_false_iff_not]
  repeat' (first | refine And.intro ?_ ?_ | refine hk _ ?_ | (intro hg; try simp only [decide_eq_true_eq, decide_eq_false_iff_not] at hg) | omega | exact True.intro)
  all_goals clear hk k
  all_goals (
    refine AW.retF (ow := []) (muts := []) ?_ (fun h => And.intro (.inr rfl) h)
    simp [go_sem, *, inR, Tryz.results99, -decide_eq_true_eq, -decide_eq_false_iff_not])

set_option maxHeartbeats 600000 in
set_option linter.unusedSimpArgs false in
set_option maxRecDepth 100000 in
/-- spec.l1In -/
theorem dc_spec_l1In (n lo hi : Int) : DC Tryz.prog 96 [.int .i64 n, .int .i64 lo, .int .i64 hi] (.bool (inR n lo hi)) [] := by
  refine DC.intro tiOk Tryz.func96 rfl rfl rfl rfl rfl rfl rfl rfl [] ?_
  refine AW.reg tiOk (fun _ => []) [0, 1, 2] ?_
  intro k hk; simp -dsimp [go_sem, -decide_eq_true_eq, -decide_eq_false_iff_not]
  repeat' (first | refine And.intro ?_ ?_ | refine hk _ ?_ | intro hg | omega | exact True.intro)
  all_goals clear hk k
  refine AW.reg tiOk (fun _ => []) [6] ?_
  intro k hk; simp +contextual -dsimp (maxSteps := 2000000) [go_sem, -decide_eq_true_eq, -decide_eq_false_iff_not]
  repeat' (first | refine And.intro ?_ ?_ | refine hk _ ?_ | (intro hg; try simp only [decide_eq_true_eq, decide_eq_false_iff_not] at hg) | omega | exact True.intro)
  all_goals clear hk k
  all_goals (
    refine AW.retF (ow := []) (muts := []) ?_ (fun h => And.intro (.inr rfl) h)
    simp [go_sem, *, inR, Tryz.results96, -decide_eq_true_eq, -decide_eq_false_iff_not])

set_option maxHeartbeats 600000 in
set_option linter.unusedSimpArgs false in
set_option maxRecDepth 100000 in
/-- impl.areAll -/
theorem dc_impl_areAll (f : Nat) (p : UInt8 → Bool) (hf : ∀ c : UInt8, DC Tryz.prog f [.int .u8 c.toNat] (.bool (p c)) []) (s : List UInt8) (hs : s.length ≤ 9223372036854775807) : DC Tryz.prog 185 [.str s, .fn f []] (.bool (s.all p)) [] := by
  refine DC.intro tiOk Tryz.func185 rfl rfl rfl rfl rfl rfl rfl rfl [] ?_
  refine AW.reg tiOk (fun _ => []) [0, 1] ?_
  intro k hk; simp -dsimp [go_sem, -decide_eq_true_eq, -decide_eq_false_iff_not]
  repeat' (first | refine And.intro ?_ ?_ | refine hk _ ?_ | intro hg | omega | exact True.intro)
  all_goals clear hk k
  refine AW.seq ?_
  refine AW.reg tiOk (fun _ => []) [0, 1, 7, 8] ?_
  intro k hk; simp -dsimp [go_sem, -decide_eq_true_eq, -decide_eq_false_iff_not]
  repeat' (first | refine And.intro ?_ ?_ | refine hk _ ?_ | intro hg | omega | exact True.intro)
  all_goals clear hk k
  refine AW.block ?_
  -- live at the loop's head: [0, 1, 7, 8]
  refine AW.loopI (fun i : Nat => ⟨18, [(0, .str s), (1, .fn f []), (7, .int .i64 s.length), (8, .int .i64 i)], []⟩) (fun i => i ≤ s.length ∧ (s.take i).all p = true) (fun i => s.length - i) (0) (by simp) (Less.of rfl (by simp [go_sem]) (by simp [go_sem])) ?_
  rintro i ⟨hi, hall⟩
  refine AW.reg tiOk (fun _ => []) [0, 1, 7, 8, 9] ?_
  intro k hk; simp -dsimp [go_sem, -decide_eq_true_eq, -decide_eq_false_iff_not]
  repeat' (first | refine And.intro ?_ ?_ | refine hk _ ?_ | intro hg | omega | exact True.intro)
  all_goals clear hk k
  refine AW.seq ?_
  refine AW.cond rfl ?_ ?_
  · intro hc; try simp at hc
    all_goals (
      have hlt : i < s.length := by assumption
      obtain ⟨x, hx⟩ := at_some hlt
      refine AW.skipN (fun _ h => h) ?_
      refine AW.seq ?_
      refine AW.block ?_
      refine AW.reg tiOk (fun _ => []) [0, 1, 5, 7, 8] ?_
      intro k hk; simp -dsimp [go_sem, -decide_eq_true_eq, -decide_eq_false_iff_not, hx]
      repeat' (first | refine And.intro ?_ ?_ | refine hk _ ?_ | intro hg | omega | exact True.intro)
      all_goals clear hk k
      refine AW.reg tiOk (fun _ => []) [0, 1, 7, 8, 16] ?_
      intro k hk; simp -dsimp (maxSteps := 2000000) [go_sem, -decide_eq_true_eq, -decide_eq_false_iff_not, hx]
      repeat' (first | refine And.intro ?_ ?_ | refine hk _ ?_ | intro hg | (refine CallK.intro (hf x) ?_; simp -dsimp (maxSteps := 2000000) [go_sem, -decide_eq_true_eq, -decide_eq_false_iff_not, hx]) | omega | exact True.intro)
      all_goals clear hk k
      refine AW.cond rfl ?_ ?_
      · intro hc; try simp at hc
        all_goals (
          refine AW.reg tiOk (fun _ => []) [4] ?_
          intro k hk; simp -dsimp [go_sem, -decide_eq_true_eq, -decide_eq_false_iff_not, hx]
          repeat' (first | refine And.intro ?_ ?_ | refine hk _ ?_ | intro hg | omega | exact True.intro)
          all_goals clear hk k
          refine AW.retF (ow := []) (muts := []) ?_ (fun h => And.intro (.inr rfl) h)
          first | (have hr := all_not (p := p) hx (by assumption); simp [go_sem, Tryz.results185, hr]) | (have hr := all_end (show s.length ≤ i by omega) hall; simp [go_sem, Tryz.results185, hr]))
      · intro hc; try simp at hc
        all_goals (
          refine AW.skipN (fun _ h => h) ?_
          refine AW.regK tiOk (fun _ => []) ?_
          intro k hk; simp -dsimp [go_sem, -decide_eq_true_eq, -decide_eq_false_iff_not, hx]
          repeat' (first | refine And.intro ?_ ?_ | refine hk _ ?_ | intro hg | omega | exact True.intro)
          all_goals clear hk k
          show ∃ _, _
          have hw := wrapi hlt hs
          refine ⟨i + 1, ⟨by omega, ?_⟩, by omega, Less.of rfl (by simp [go_sem, hw]) (by simp [go_sem])⟩
          rw [all_take hx hall]; assumption))
  · intro hc; try simp at hc
    all_goals (
      refine AW.exitN (fun _ h => h) ?_
      refine AW.reg tiOk (fun _ => []) [4] ?_
      intro k hk; simp -dsimp [go_sem, -decide_eq_true_eq, -decide_eq_false_iff_not]
      repeat' (first | refine And.intro ?_ ?_ | refine hk _ ?_ | intro hg | omega | exact True.intro)
      all_goals clear hk k
      refine AW.retF (ow := []) (muts := []) ?_ (fun h => And.intro (.inr rfl) h)
      first | (have hr := all_not (p := p) hx (by assumption); simp [go_sem, Tryz.results185, hr]) | (have hr := all_end (show s.length ≤ i by omega) hall; simp [go_sem, Tryz.results185, hr]))

set_option maxHeartbeats 600000 in
set_option linter.unusedSimpArgs false in
set_option maxRecDepth 100000 in
/-- impl.firstCode -/
theorem dc_impl_firstCode (l : List Int) (hl : l.length ≤ 9223372036854775807) : DC Tryz.prog 52 [.isl 1 (l.map I1)] (.int .i64 (firstC l)) [] := by
  refine DC.intro tiOk Tryz.func52 rfl rfl rfl rfl rfl rfl rfl rfl [] ?_
  refine AW.reg tiOk (fun _ => []) [0] ?_
  intro k hk; simp -dsimp [go_sem, -decide_eq_true_eq, -decide_eq_false_iff_not]
  repeat' (first | refine And.intro ?_ ?_ | refine hk _ ?_ | intro hg | omega | exact True.intro)
  all_goals clear hk k
  refine AW.seq ?_
  refine AW.reg tiOk (fun _ => []) [5, 6, 7] ?_
  intro k hk; simp -dsimp [go_sem, -decide_eq_true_eq, -decide_eq_false_iff_not]
  repeat' (first | refine And.intro ?_ ?_ | refine hk _ ?_ | intro hg | omega | exact True.intro)
  all_goals clear hk k
  refine AW.block ?_
  -- live at the loop's head: [5, 6, 7]
  refine AW.loopI (fun i : Nat => ⟨15, [(5, .isl 1 (l.map I1)), (6, .int .i64 l.length), (7, .int .i64 i)], []⟩) (fun i => i ≤ l.length ∧ firstC l = firstC (l.drop i)) (fun i => l.length - i) (0) (by simp) (Less.of rfl (by simp [go_sem]) (by simp [go_sem])) ?_
  rintro i ⟨hi, hinv⟩
  refine AW.reg tiOk (fun _ => []) [5, 6, 7, 8] ?_
  intro k hk; simp -dsimp [go_sem, -decide_eq_true_eq, -decide_eq_false_iff_not]
  repeat' (first | refine And.intro ?_ ?_ | refine hk _ ?_ | intro hg | omega | exact True.intro)
  all_goals clear hk k
  refine AW.seq ?_
  refine AW.cond rfl ?_ ?_
  · intro hc; try simp at hc
    all_goals (
      have hlt : i < l.length := by assumption
      obtain ⟨x, hx⟩ := at_some hlt
      refine AW.skipN (fun _ h => h) ?_
      refine AW.seq ?_
      refine AW.block ?_
      refine AW.reg tiOk (fun _ => []) [4, 5, 6, 7] ?_
      intro k hk; simp -dsimp [go_sem, -decide_eq_true_eq, -decide_eq_false_iff_not, hx]
      repeat' (first | refine And.intro ?_ ?_ | refine hk _ ?_ | intro hg | omega | exact True.intro)
      all_goals clear hk k
      refine AW.reg tiOk (fun _ => []) [4, 5, 6, 7, 12] ?_
      intro k hk; simp -dsimp [go_sem, -decide_eq_true_eq, -decide_eq_false_iff_not, hx]
      repeat' (first | refine And.intro ?_ ?_ | refine hk _ ?_ | intro hg | omega | exact True.intro)
      all_goals clear hk k
      refine AW.cond rfl ?_ ?_
      · intro hc; try simp at hc
        all_goals (
          refine AW.reg tiOk (fun _ => []) [2] ?_
          intro k hk; simp -dsimp [go_sem, -decide_eq_true_eq, -decide_eq_false_iff_not, hx]
          repeat' (first | refine And.intro ?_ ?_ | refine hk _ ?_ | intro hg | omega | exact True.intro)
          all_goals clear hk k
          refine AW.retF (ow := []) (muts := []) ?_ (fun h => And.intro (.inr rfl) h)
          first | (simp [go_sem, Tryz.results52, hinv, firstC_step hx, *]; done) | (simp [go_sem, Tryz.results52, hinv, firstC_end (show l.length ≤ i by omega)]))
      · intro hc; try simp at hc
        all_goals (
          refine AW.skipN (fun _ h => h) ?_
          refine AW.regK tiOk (fun _ => []) ?_
          intro k hk; simp -dsimp [go_sem, -decide_eq_true_eq, -decide_eq_false_iff_not, hx]
          repeat' (first | refine And.intro ?_ ?_ | refine hk _ ?_ | intro hg | omega | exact True.intro)
          all_goals clear hk k
          show ∃ _, _
          have hw := wrapi hlt hl
          refine ⟨i + 1, ⟨by omega, ?_⟩, by omega, Less.of rfl (by simp [go_sem, hw]) (by simp [go_sem])⟩
          rw [hinv, firstC_step hx, if_pos (by assumption)]))
  · intro hc; try simp at hc
    all_goals (
      refine AW.exitN (fun _ h => h) ?_
      refine AW.reg tiOk (fun _ => []) [2] ?_
      intro k hk; simp -dsimp [go_sem, -decide_eq_true_eq, -decide_eq_false_iff_not]
      repeat' (first | refine And.intro ?_ ?_ | refine hk _ ?_ | intro hg | omega | exact True.intro)
      all_goals clear hk k
      refine AW.retF (ow := []) (muts := []) ?_ (fun h => And.intro (.inr rfl) h)
      first | (simp [go_sem, Tryz.results52, hinv, firstC_step hx, *]; done) | (simp [go_sem, Tryz.results52, hinv, firstC_end (show l.length ≤ i by omega)]))

set_option maxHeartbeats 600000 in
set_option linter.unusedSimpArgs false in
set_option maxRecDepth 100000 in
/-- slices.IndexFunc[[]int64,int64] -/
theorem dc_slices_IndexFunc_int64_int64 (f : Nat) (caps : List AV) (p : Int → Bool) (l : List Int) (hf : ∀ x ∈ l, DC Tryz.prog f ([.int .i64 x] ++ caps) (.bool (p x)) []) (hl : l.length ≤ 9223372036854775807) (hcap : caps = []) : DC Tryz.prog 180 [.isl 1 (l.map I1), .fn f caps] (.int .i64 (idxF p l 0)) [] := by
  subst hcap
  refine DC.intro tiOk Tryz.func180 rfl rfl rfl rfl rfl rfl rfl rfl [] ?_
  refine AW.reg tiOk (fun _ => []) [0, 1] ?_
  intro k hk; simp -dsimp [go_sem, -decide_eq_true_eq, -decide_eq_false_iff_not]
  repeat' (first | refine And.intro ?_ ?_ | refine hk _ ?_ | intro hg | omega | exact True.intro)
  all_goals clear hk k
  refine AW.seq ?_
  refine AW.reg tiOk (fun _ => []) [0, 1, 7, 8] ?_
  intro k hk; simp -dsimp [go_sem, -decide_eq_true_eq, -decide_eq_false_iff_not]
  repeat' (first | refine And.intro ?_ ?_ | refine hk _ ?_ | intro hg | omega | exact True.intro)
  all_goals clear hk k
  refine AW.block ?_
  -- live at the loop's head: [0, 1, 7, 8]
  refine AW.loopI (fun i : Nat => ⟨19, [(0, .isl 1 (l.map I1)), (1, .fn f []), (7, .int .i64 l.length), (8, .int .i64 i)], []⟩) (fun i => i ≤ l.length ∧ idxF p l 0 = idxF p (l.drop i) i) (fun i => l.length - i) (0) (by simp) (Less.of rfl (by simp [go_sem]) (by simp [go_sem])) ?_
  rintro i ⟨hi, hinv⟩
  refine AW.reg tiOk (fun _ => []) [0, 1, 7, 8, 9] ?_
  intro k hk; simp -dsimp [go_sem, -decide_eq_true_eq, -decide_eq_false_iff_not]
  repeat' (first | refine And.intro ?_ ?_ | refine hk _ ?_ | intro hg | omega | exact True.intro)
  all_goals clear hk k
  refine AW.seq ?_
  refine AW.cond rfl ?_ ?_
  · intro hc; try simp at hc
    all_goals (
      have hlt : i < l.length := by assumption
      obtain ⟨x, hx⟩ := at_some hlt
      refine AW.skipN (fun _ h => h) ?_
      refine AW.seq ?_
      refine AW.block ?_
      refine AW.reg tiOk (fun _ => []) [0, 1, 5, 7, 8] ?_
      intro k hk; simp -dsimp [go_sem, -decide_eq_true_eq, -decide_eq_false_iff_not, hx]
      repeat' (first | refine And.intro ?_ ?_ | refine hk _ ?_ | intro hg | omega | exact True.intro)
      all_goals clear hk k
      refine AW.reg tiOk (fun _ => []) [0, 1, 5, 7, 8, 16] ?_
      intro k hk; simp -dsimp (maxSteps := 2000000) [go_sem, -decide_eq_true_eq, -decide_eq_false_iff_not, hx]
      repeat' (first | refine And.intro ?_ ?_ | refine hk _ ?_ | intro hg | (refine CallK.intro (hf x (List.mem_of_getElem? hx)) ?_; simp -dsimp (maxSteps := 2000000) [go_sem, -decide_eq_true_eq, -decide_eq_false_iff_not, hx]) | omega | exact True.intro)
      all_goals clear hk k
      refine AW.cond rfl ?_ ?_
      · intro hc; try simp at hc
        all_goals (
          refine AW.reg tiOk (fun _ => []) [4] ?_
          intro k hk; simp -dsimp [go_sem, -decide_eq_true_eq, -decide_eq_false_iff_not, hx]
          repeat' (first | refine And.intro ?_ ?_ | refine hk _ ?_ | intro hg | omega | exact True.intro)
          all_goals clear hk k
          refine AW.retF (ow := []) (muts := []) ?_ (fun h => And.intro (.inr rfl) h)
          first | (rw [hinv, idxF_step hx, if_pos (by assumption)]; simp [go_sem, Tryz.results180]; done) | (rw [hinv, idxF_end (by omega)]; simp [go_sem, Tryz.results180]))
      · intro hc; try simp at hc
        all_goals (
          refine AW.skipN (fun _ h => h) ?_
          refine AW.regK tiOk (fun _ => []) ?_
          intro k hk; simp -dsimp [go_sem, -decide_eq_true_eq, -decide_eq_false_iff_not, hx]
          repeat' (first | refine And.intro ?_ ?_ | refine hk _ ?_ | intro hg | omega | exact True.intro)
          all_goals clear hk k
          show ∃ _, _
          have hw := wrapi hlt hl
          refine ⟨i + 1, ⟨by omega, ?_⟩, by omega, Less.of rfl (by simp [go_sem, hw]) (by simp [go_sem])⟩
          rw [hinv, idxF_step hx, if_neg (by simp [*])]))
  · intro hc; try simp at hc
    all_goals (
      refine AW.exitN (fun _ h => h) ?_
      refine AW.reg tiOk (fun _ => []) [4] ?_
      intro k hk; simp -dsimp [go_sem, -decide_eq_true_eq, -decide_eq_false_iff_not]
      repeat' (first | refine And.intro ?_ ?_ | refine hk _ ?_ | intro hg | omega | exact True.intro)
      all_goals clear hk k
      refine AW.retF (ow := []) (muts := []) ?_ (fun h => And.intro (.inr rfl) h)
      first | (rw [hinv, idxF_step hx, if_pos (by assumption)]; simp [go_sem, Tryz.results180]; done) | (rw [hinv, idxF_end (by omega)]; simp [go_sem, Tryz.results180]))

set_option maxHeartbeats 600000 in
set_option linter.unusedSimpArgs false in
set_option maxRecDepth 100000 in
/-- slices.ContainsFunc[[]int64,int64] -/
theorem dc_slices_ContainsFunc_int64_int64 (f : Nat) (p : Int → Bool) (l : List Int) (hf : ∀ x ∈ l, DC Tryz.prog f ([.int .i64 x] ++ []) (.bool (p x)) []) (hl : l.length ≤ 9223372036854775807) : DC Tryz.prog 151 [.isl 1 (l.map I1), .fn f []] (.bool (l.any p)) [] := by
  refine DC.intro tiOk Tryz.func151 rfl rfl rfl rfl rfl rfl rfl rfl [] ?_
  refine AW.reg tiOk (fun _ => []) [0, 1] ?_
  intro k hk; simp -dsimp [go_sem, -decide_eq_true_eq, -decide_eq_false_iff_not]
  repeat' (first | refine And.intro ?_ ?_ | refine hk _ ?_ | intro hg | omega | exact True.intro)
  all_goals clear hk k
  refine AW.reg tiOk (fun _ => []) [4] ?_
  intro k hk; simp -dsimp (maxSteps := 2000000) [go_sem, -decide_eq_true_eq, -decide_eq_false_iff_not]
  repeat' (first | refine And.intro ?_ ?_ | refine hk _ ?_ | intro hg | (refine CallK.intro (dc_slices_IndexFunc_int64_int64 f [] p l hf hl rfl) ?_; simp -dsimp (maxSteps := 2000000) [go_sem, -decide_eq_true_eq, -decide_eq_false_iff_not]) | omega | exact True.intro)
  all_goals clear hk k
  refine AW.retF (ow := []) (muts := []) ?_ (fun h => And.intro (.inr rfl) h)
  rw [← idxF_any l 0]; simp [go_sem, Tryz.results151]

set_option maxHeartbeats 600000 in
set_option linter.unusedSimpArgs false in
set_option maxRecDepth 100000 in
/-- impl.VarsFault$1 -/
theorem dc_impl_VarsFault_1 (n : Int) : DC Tryz.prog 152 [.int .i64 n] (.bool (!small n)) [] := by
  refine DC.intro tiOk Tryz.func152 rfl rfl rfl rfl rfl rfl rfl rfl [] ?_
  refine AW.reg tiOk (fun _ => []) [0] ?_
  intro k hk; simp -dsimp [go_sem, -decide_eq_true_eq, -decide_eq_false_iff_not]
  repeat' (first | refine And.intro ?_ ?_ | refine hk _ ?_ | intro hg | omega | exact True.intro)
  all_goals clear hk k
  refine AW.reg tiOk (fun _ => []) [2] ?_
  intro k hk; simp -dsimp (maxSteps := 2000000) [go_sem, -decide_eq_true_eq, -decide_eq_false_iff_not]
  repeat' (first | refine And.intro ?_ ?_ | refine hk _ ?_ | intro hg | (refine CallK.intro (dc_impl_inRange _ _ _) ?_; simp -dsimp (maxSteps := 2000000) [go_sem, -decide_eq_true_eq, -decide_eq_false_iff_not]) | omega | exact True.intro)
  all_goals clear hk k
  refine AW.retF (ow := []) (muts := []) ?_ (fun h => And.intro (.inr rfl) h)
  simp [go_sem, Tryz.results152, small]

set_option maxHeartbeats 600000 in
set_option linter.unusedSimpArgs false in
set_option maxRecDepth 100000 in
/-- impl.VarsFault -/
theorem dc_impl_VarsFault (l : List Int) (hl : l.length ≤ 9223372036854775807) : DC Tryz.prog 128 [.isl 1 (l.map I1)] (.int .i64 (varsF l)) [] := by
  refine DC.intro tiOk Tryz.func128 rfl rfl rfl rfl rfl rfl rfl rfl [] ?_
  refine AW.reg tiOk (fun _ => []) [0] ?_
  intro k hk; simp -dsimp [go_sem, -decide_eq_true_eq, -decide_eq_false_iff_not]
  repeat' (first | refine And.intro ?_ ?_ | refine hk _ ?_ | intro hg | omega | exact True.intro)
  all_goals clear hk k
  refine AW.reg tiOk (fun _ => []) [0, 3] ?_
  intro k hk; simp -dsimp (maxSteps := 2000000) [go_sem, -decide_eq_true_eq, -decide_eq_false_iff_not]
  repeat' (first | refine And.intro ?_ ?_ | refine hk _ ?_ | intro hg | (refine CallK.intro (dc_slices_ContainsFunc_int64_int64 152 (fun n => !small n) l (fun x _ => dc_impl_VarsFault_1 x) hl) ?_; simp -dsimp (maxSteps := 2000000) [go_sem, -decide_eq_true_eq, -decide_eq_false_iff_not]) | omega | exact True.intro)
  all_goals clear hk k
  refine AW.reg tiOk (fun _ => []) [2] ?_
  intro k hk; simp -dsimp (maxSteps := 2000000) [go_sem, -decide_eq_true_eq, -decide_eq_false_iff_not]
  repeat' (first | refine And.intro ?_ ?_ | refine hk _ ?_ | intro hg | (refine CallK.intro (dc_impl_codeIf _ _) ?_; simp -dsimp (maxSteps := 2000000) [go_sem, -decide_eq_true_eq, -decide_eq_false_iff_not]) | (refine CallK.intro (dc_impl_firstCode [_, _] (by simp)) ?_; simp -dsimp (maxSteps := 2000000) [go_sem, -decide_eq_true_eq, -decide_eq_false_iff_not]) | (refine CallK.intro (dc_impl_firstCode [_, _, _] (by simp)) ?_; simp -dsimp (maxSteps := 2000000) [go_sem, -decide_eq_true_eq, -decide_eq_false_iff_not]) | (refine CallK.intro (dc_impl_firstCode [_, _, _, _] (by simp)) ?_; simp -dsimp (maxSteps := 2000000) [go_sem, -decide_eq_true_eq, -decide_eq_false_iff_not]) | omega | exact True.intro)
  all_goals clear hk k
  refine AW.retF (ow := []) (muts := []) ?_ (fun h => And.intro (.inr rfl) h)
  rw [← varsF_eq]; simp [go_sem, Tryz.results128]

set_option maxHeartbeats 600000 in
set_option linter.unusedSimpArgs false in
set_option maxRecDepth 100000 in
/-- spec.VarsFault -/
theorem dc_spec_VarsFault (l : List Int) (hl : l.length ≤ 9223372036854775807) : DC Tryz.prog 149 [.isl 1 (l.map I1)] (.int .i64 (varsF l)) [] := by
  refine DC.intro tiOk Tryz.func149 rfl rfl rfl rfl rfl rfl rfl rfl [] ?_
  refine AW.reg tiOk (fun _ => []) [0] ?_
  intro k hk; simp -dsimp [go_sem, -decide_eq_true_eq, -decide_eq_false_iff_not]
  repeat' (first | refine And.intro ?_ ?_ | refine hk _ ?_ | intro hg | omega | exact True.intro)
  all_goals clear hk k
  refine AW.seq ?_
  refine AW.reg tiOk (fun _ => []) [0, 6] ?_
  intro k hk; simp -dsimp [go_sem, -decide_eq_true_eq, -decide_eq_false_iff_not]
  repeat' (first | refine And.intro ?_ ?_ | refine hk _ ?_ | intro hg | omega | exact True.intro)
  all_goals clear hk k
  refine AW.cond rfl ?_ ?_
  · intro hc; try simp at hc
    all_goals (
      refine AW.reg tiOk (fun _ => []) [2] ?_
      intro k hk; simp -dsimp [go_sem, -decide_eq_true_eq, -decide_eq_false_iff_not]
      repeat' (first | refine And.intro ?_ ?_ | refine hk _ ?_ | intro hg | omega | exact True.intro)
      all_goals clear hk k
      refine AW.retF (ow := []) (muts := []) ?_ (fun h => And.intro (.inr rfl) h)
      first | (have hr := all_not (p := small) hx (by simpa [small] using hc); simp [go_sem, Tryz.results149, varsF, hr]; omega) | (have hr := all_end (show l.length ≤ i by omega) hall; simp [go_sem, Tryz.results149, varsF, hr]; omega) | (simp [go_sem, Tryz.results149, varsF]; omega))
  · intro hc; try simp at hc
    all_goals (
      refine AW.skipN (fun _ h => h) ?_
      refine AW.seq ?_
      refine AW.reg tiOk (fun _ => []) [0, 3] ?_
      intro k hk; simp -dsimp [go_sem, -decide_eq_true_eq, -decide_eq_false_iff_not]
      repeat' (first | refine And.intro ?_ ?_ | refine hk _ ?_ | intro hg | omega | exact True.intro)
      all_goals clear hk k
      refine AW.block ?_
      -- live at the loop's head: [0, 3]
      refine AW.loopI (fun i : Nat => ⟨19, [(0, .isl 1 (l.map I1)), (3, .int .i64 i)], []⟩) (fun i => i ≤ l.length ∧ (l.take i).all small = true) (fun i => l.length - i) (0) (by simp) (Less.of rfl (by simp [go_sem]) (by simp [go_sem])) ?_
      rintro i ⟨hi, hall⟩
      refine AW.seq ?_
      refine AW.reg tiOk (fun _ => []) [0, 3, 10] ?_
      intro k hk; simp -dsimp [go_sem, -decide_eq_true_eq, -decide_eq_false_iff_not]
      repeat' (first | refine And.intro ?_ ?_ | refine hk _ ?_ | intro hg | omega | exact True.intro)
      all_goals clear hk k
      refine AW.cond rfl ?_ ?_
      · intro hc; try simp at hc
        all_goals (
          have hlt : i < l.length := by assumption
          obtain ⟨x, hx⟩ := at_some hlt
          refine AW.skipN (fun _ h => h) ?_
          refine AW.seq ?_
          refine AW.block ?_
          refine AW.reg tiOk (fun _ => []) [0, 3, 18] ?_
          intro k hk; simp -dsimp (maxSteps := 2000000) [go_sem, -decide_eq_true_eq, -decide_eq_false_iff_not, hx]
          repeat' (first | refine And.intro ?_ ?_ | refine hk _ ?_ | intro hg | (refine CallK.intro (dc_spec_l1In _ _ _) ?_; simp -dsimp (maxSteps := 2000000) [go_sem, -decide_eq_true_eq, -decide_eq_false_iff_not, hx]) | omega | exact True.intro)
          all_goals clear hk k
          refine AW.cond rfl ?_ ?_
          · intro hc; try simp at hc
            all_goals (
              refine AW.reg tiOk (fun _ => []) [2] ?_
              intro k hk; simp -dsimp [go_sem, -decide_eq_true_eq, -decide_eq_false_iff_not, hx]
              repeat' (first | refine And.intro ?_ ?_ | refine hk _ ?_ | intro hg | omega | exact True.intro)
              all_goals clear hk k
              refine AW.retF (ow := []) (muts := []) ?_ (fun h => And.intro (.inr rfl) h)
              first | (have hr := all_not (p := small) hx (by simpa [small] using hc); simp [go_sem, Tryz.results149, varsF, hr]; omega) | (have hr := all_end (show l.length ≤ i by omega) hall; simp [go_sem, Tryz.results149, varsF, hr]; omega) | (simp [go_sem, Tryz.results149, varsF]; omega))
          · intro hc; try simp at hc
            all_goals (
              refine AW.skipN (fun _ h => h) ?_
              refine AW.regK tiOk (fun _ => []) ?_
              intro k hk; simp -dsimp [go_sem, -decide_eq_true_eq, -decide_eq_false_iff_not, hx]
              repeat' (first | refine And.intro ?_ ?_ | refine hk _ ?_ | intro hg | omega | exact True.intro)
              all_goals clear hk k
              show ∃ _, _
              have hw := wrapi hlt hl
              refine ⟨i + 1, ⟨by omega, ?_⟩, by omega, Less.of rfl (by simp [go_sem, hw]) (by simp [go_sem])⟩
              rw [all_take hx hall]; simpa [small] using hc))
      · intro hc; try simp at hc
        all_goals (
          refine AW.exitN (fun _ h => h) ?_
          refine AW.reg tiOk (fun _ => []) [2] ?_
          intro k hk; simp -dsimp [go_sem, -decide_eq_true_eq, -decide_eq_false_iff_not]
          repeat' (first | refine And.intro ?_ ?_ | refine hk _ ?_ | intro hg | omega | exact True.intro)
          all_goals clear hk k
          refine AW.retF (ow := []) (muts := []) ?_ (fun h => And.intro (.inr rfl) h)
          first | (have hr := all_not (p := small) hx (by simpa [small] using hc); simp [go_sem, Tryz.results149, varsF, hr]; omega) | (have hr := all_end (show l.length ≤ i by omega) hall; simp [go_sem, Tryz.results149, varsF, hr]; omega) | (simp [go_sem, Tryz.results149, varsF]; omega)))

end Go.AM

/-! ### Px -/
set_option linter.unusedVariables false
set_option linter.unusedSimpArgs false
namespace Go.AM

/-! the first code that is not 0, of f i, f (i + 1) .. f (n - 1) -/
def scN (f : Nat → Int) : Nat → Nat → Int
  | 0, _ => 0
  | m + 1, i => if f i = 0 then scN f m (i + 1) else f i
def sc (f : Nat → Int) (n i : Nat) : Int := scN f (n - i) i
theorem sc_step {f : Nat → Int} {n i : Nat} (h : i < n) : sc f n i = if f i = 0 then sc f n (i + 1) else f i := by
  unfold sc
  rw [show n - i = (n - (i + 1)) + 1 by omega]; rfl
theorem sc_end {f : Nat → Int} {n i : Nat} (h : n ≤ i) : sc f n i = 0 := by
  unfold sc; rw [show n - i = 0 by omega]; rfl
theorem sc_go {f : Nat → Int} {n i : Nat} (h : i < n) (h0 : f i = 0) : sc f n i = sc f n (i + 1) := by rw [sc_step h, if_pos h0]
theorem sc_hit {f : Nat → Int} {n i : Nat} (h : i < n) (h0 : f i ≠ 0) : sc f n i = f i := by rw [sc_step h, if_neg h0]
theorem sc_zero {f : Nat → Int} {n : Nat} : ∀ {m i : Nat}, n - i = m → sc f n i = 0 → ∀ k, i ≤ k → k < n → f k = 0 := by
  intro m
  induction m with
  | zero => intro i hm _ k h1 h2; omega
  | succ m ih =>
    intro i hm h k h1 h2
    have hi : i < n := by omega
    rw [sc_step hi] at h
    split at h
    · rename_i h0
      rcases Nat.eq_or_lt_of_le h1 with rfl | h1
      · exact h0
      · exact ih (by omega) h k h1 h2
    · exact absurd h (by assumption)
theorem sc_all {f : Nat → Int} {n : Nat} (h : sc f n 0 = 0) : ∀ k, k < n → f k = 0 := fun k hk => sc_zero rfl h k (Nat.zero_le _) hk
theorem sc_cong {f g : Nat → Int} {n : Nat} : ∀ {m i : Nat}, n - i = m → (∀ k, i ≤ k → k < n → (∀ j, i ≤ j → j < k → f j = 0) → f k = g k) → sc f n i = sc g n i := by
  intro m
  induction m with
  | zero => intro i hm _; rw [sc_end (by omega), sc_end (by omega)]
  | succ m ih =>
    intro i hm h
    have hi : i < n := by omega
    have h0 := h i (Nat.le_refl _) hi (fun j h1 h2 => by omega)
    rw [sc_step hi, sc_step hi, ← h0]
    split
    · rename_i hz
      exact ih (by omega) fun k h1 h2 h3 => h k (by omega) h2 fun j h4 h5 => by
        rcases Nat.eq_or_lt_of_le h4 with rfl | h4
        · exact hz
        · exact h3 j h4 h5
    · rfl

/-! nodes -/
instance : Inhabited TNode := ⟨⟨0, 0, 0, 0⟩⟩
def nA (e : List TNode) (i : Nat) : TNode := e.getD i default
def isTwoB (k : Int) : Bool := inR k 3 9
/-- the code of a node at a place -/
def nodeF (n : TNode) (at_ : Int) : Int :=
  if n.kind < 1 ∨ 10 < n.kind then 1
  else if n.kind ≤ 2 then
    if n.left ≠ 0 ∨ n.right ≠ 0 then 1 else if n.val < 0 ∨ (if n.kind = 2 then 3 else 9999) < n.val then 3 else 0
  else if n.kind = 10 then
    if n.val ≠ 0 ∨ n.right ≠ 0 then 1 else if n.left < 0 ∨ at_ ≤ n.left then 3 else 0
  else if n.val ≠ 0 then 1 else if n.left < 0 ∨ at_ ≤ n.left ∨ n.right < 0 ∨ at_ ≤ n.right then 3 else 0
def nodeAt (e : List TNode) (i : Nat) : Int := nodeF (nA e i) i

/-- what is needed of the nodes: parts lie ahead -/
def PartsOk (e : List TNode) (n : Nat) : Prop := ∀ i, i < n → nodeAt e i = 0

theorem nodeF_parts {n : TNode} {i : Nat} (h : nodeF n i = 0) : (n.kind = 10 → 0 ≤ n.left ∧ n.left.toNat < i) ∧ (isTwoB n.kind = true → 0 ≤ n.left ∧ n.left.toNat < i ∧ 0 ≤ n.right ∧ n.right.toNat < i) ∧ 1 ≤ n.kind ∧ n.kind ≤ 10 ∧ (n.kind ≤ 2 ↔ (n.kind ≠ 10 ∧ isTwoB n.kind = false)) := by
  unfold nodeF at h
  split at h
  · cases h
  split at h
  · refine ⟨fun _ => by omega, fun h2 => ?_, by omega, by omega, ?_⟩
    · have := inR_iff.1 h2; omega
    · rw [isTwoB, inR_not]; omega
  split at h
  · split at h
    · cases h
    split at h
    · cases h
    · refine ⟨fun _ => by omega, fun h2 => ?_, by omega, by omega, ?_⟩
      · have := inR_iff.1 h2; omega
      · omega
  · split at h
    · cases h
    split at h
    · cases h
    · refine ⟨fun _ => by omega, fun _ => by omega, by omega, by omega, ?_⟩
      rw [isTwoB, inR_not]; omega

/-! sizes: as the program counts them -/
def sizeOf1 (e : List TNode) (s : List Int) (i : Nat) : Int :=
  let n := nA e i
  if n.kind = 10 then 1 + s.getD n.left.toNat 0 else if isTwoB n.kind then 1 + s.getD n.left.toNat 0 + s.getD n.right.toNat 0 else 1
def sizesL (e : List TNode) : Nat → List Int
  | 0 => []
  | i + 1 => sizesL e i ++ [sizeOf1 e (sizesL e i) i]
theorem sizesL_len (e : List TNode) (n : Nat) : (sizesL e n).length = n := by
  induction n with
  | zero => rfl
  | succ n ih => simp [sizesL, ih]
def szA (e : List TNode) (i : Nat) : Int := (sizesL e (i + 1)).getD i 0
theorem sizesL_get (e : List TNode) (i : Nat) : ∀ n, i < n → (sizesL e n).getD i 0 = szA e i := by
  intro n
  induction n with
  | zero => intro h; omega
  | succ n ih =>
    intro h
    rcases Nat.eq_or_lt_of_le (Nat.le_of_lt_succ h) with rfl | h'
    · rfl
    · have := ih h'
      rw [← this]
      simp [sizesL, List.getD, List.getElem?_append_left (show i < (sizesL e n).length by rw [sizesL_len]; exact h')]
theorem szA_eq (e : List TNode) (i : Nat) : szA e i = sizeOf1 e (sizesL e i) i := by
  unfold szA
  simp [sizesL, List.getD, sizesL_len]
/-- is a node out of order, as the program looks at it? -/
def wrong1 (e : List TNode) (i : Nat) : Bool :=
  let n := nA e i
  if n.kind = 10 then decide (n.left ≠ (i : Int) - 1)
  else if isTwoB n.kind then decide (n.right ≠ (i : Int) - 1) || decide (n.left ≠ (i : Int) - 1 - szA e n.right.toNat)
  else false
def wrongU (e : List TNode) (i : Nat) : Bool := (List.range i).any (wrong1 e)
theorem wrongU_step (e : List TNode) (i : Nat) : wrongU e (i + 1) = (wrongU e i || wrong1 e i) := by
  unfold wrongU; rw [List.range_succ, List.any_append]; simp

/-! the walk -/
/-- the order of a node and its parts -/
def post (e : List TNode) : Nat → Nat → List Nat
  | 0, _ => []
  | f + 1, i =>
    let n := nA e i
    if n.kind = 10 then post e f n.left.toNat ++ [i]
    else if isTwoB n.kind then post e f n.left.toNat ++ post e f n.right.toNat ++ [i]
    else [i]
def po (e : List TNode) (i : Nat) : List Nat := post e (i + 1) i
theorem post_more {e : List TNode} {n : Nat} (hp : PartsOk e n) : ∀ (f g i : Nat), i < n → i < f → i < g → post e f i = post e g i := by
  intro f
  induction f with
  | zero => intro g i _ h _; omega
  | succ f ih =>
    intro g i hn hf hg
    cases g with
    | zero => omega
    | succ g =>
      have hq := nodeF_parts (hp i hn)
      simp only [post]
      split
      · rename_i h10
        have := hq.1 h10
        rw [ih g _ (by omega) (by omega) (by omega)]
      · split
        · rename_i h2
          have := hq.2.1 h2
          rw [ih g _ (by omega) (by omega) (by omega), ih g _ (by omega) (by omega) (by omega)]
        · rfl
theorem po_eq {e : List TNode} {n i : Nat} (hp : PartsOk e n) (hi : i < n) : po e i = if (nA e i).kind = 10 then po e (nA e i).left.toNat ++ [i] else if isTwoB (nA e i).kind then po e (nA e i).left.toNat ++ po e (nA e i).right.toNat ++ [i] else [i] := by
  have hq := nodeF_parts (hp i hi)
  show post e (i + 1) i = _
  simp only [post]
  split
  · rename_i h10
    have := hq.1 h10
    rw [post_more hp i _ _ (by omega) (by omega) (Nat.lt_succ_self _)]; rfl
  · split
    · rename_i h2
      have := hq.2.1 h2
      rw [post_more hp i _ (nA e i).left.toNat (by omega) (by omega) (Nat.lt_succ_self _), post_more hp i _ (nA e i).right.toNat (by omega) (by omega) (Nat.lt_succ_self _)]; rfl
    · rfl

theorem po_len {e : List TNode} {n : Nat} (hp : PartsOk e n) : ∀ (k i : Nat), i ≤ k → i < n → ((po e i).length : Int) = szA e i ∧ 1 ≤ szA e i ∧ szA e i ≤ 2 ^ (i + 1) - 1 := by
  intro k
  induction k with
  | zero =>
    intro i hk hi
    have hq := nodeF_parts (hp i hi)
    obtain rfl : i = 0 := by omega
    rw [po_eq hp hi, szA_eq]
    unfold sizeOf1
    split
    · rename_i h10
      have := hq.1 h10; omega
    · split
      · rename_i h2
        have := hq.2.1 h2; omega
      · rename_i h1 h2; simp only [h1, h2, if_false, Bool.false_eq_true]; simp
  | succ k ih =>
    intro i hk hi
    have hq := nodeF_parts (hp i hi)
    rw [po_eq hp hi, szA_eq]
    unfold sizeOf1
    have pw : (2 : Int) ^ (i + 1) = 2 * 2 ^ i := by rw [Int.pow_succ]; omega
    have mono : ∀ j, j < i → (2 : Int) ^ (j + 1) ≤ 2 ^ i := fun j hj => by
      have := Nat.pow_le_pow_right (n := 2) (by decide) (show j + 1 ≤ i by omega)
      exact_mod_cast this
    have p1 : (1 : Int) ≤ 2 ^ i := by
      have := Nat.pow_le_pow_right (n := 2) (by decide) (Nat.zero_le i)
      exact_mod_cast this
    split
    · rename_i h10
      have hl := hq.1 h10
      have h1 := ih _ (show (nA e i).left.toNat ≤ k by omega) (by omega)
      have hm := mono _ hl.2
      simp only [h10, if_true]
      rw [sizesL_get e _ i hl.2]
      simp only [List.length_append, List.length_cons, List.length_nil]
      omega
    · split
      · rename_i h10 h2
        have hl := hq.2.1 h2
        have h1 := ih _ (show (nA e i).left.toNat ≤ k by omega) (by omega)
        have h3 := ih _ (show (nA e i).right.toNat ≤ k by omega) (by omega)
        have hm := mono _ hl.2.1
        have hm2 := mono _ hl.2.2.2
        simp only [h10, h2, if_true, if_false]
        rw [sizesL_get e _ i hl.2.1, sizesL_get e _ i hl.2.2.2]
        simp only [List.length_append, List.length_cons, List.length_nil]
        omega
      · rename_i h10 h2
        simp only [h10, h2, if_false, Bool.false_eq_true]
        simp; omega
theorem sz_bd {e : List TNode} {n i : Nat} (hp : PartsOk e n) (hi : i < n) (h16 : i ≤ 16) : 1 ≤ szA e i ∧ szA e i ≤ 131071 := by
  have h := (po_len hp i i (Nat.le_refl _) hi).2
  have : (2 : Int) ^ (i + 1) ≤ 2 ^ 17 := by
    have := Nat.pow_le_pow_right (n := 2) (by decide) (show i + 1 ≤ 17 by omega)
    exact_mod_cast this
  have e : (2 : Int) ^ 17 = 131072 := by decide
  omega

/-- a stretch of places -/
def stretch (a m : Nat) : List Nat := List.range' a m
theorem po_good {e : List TNode} {n : Nat} (hp : PartsOk e n) : ∀ (k i : Nat), i ≤ k → i < n → wrongU e (i + 1) = false → szA e i ≤ i + 1 ∧ po e i = stretch (i + 1 - (szA e i).toNat) (szA e i).toNat := by
  intro k
  induction k with
  | zero =>
    intro i hk hi hw
    have hq := nodeF_parts (hp i hi)
    obtain rfl : i = 0 := by omega
    have hs := po_len hp 0 0 (Nat.le_refl _) hi
    have hs1 : szA e 0 = 1 := by omega
    rw [hs1]
    refine ⟨by omega, ?_⟩
    rw [po_eq hp hi]
    split
    · rename_i h10
      have := hq.1 h10; omega
    · split
      · rename_i h2
        have := hq.2.1 h2; omega
      · rfl
  | succ k ih =>
    intro i hk hi hw
    have hq := nodeF_parts (hp i hi)
    rw [wrongU_step] at hw
    have hw1 : wrongU e i = false := by revert hw; cases wrongU e i <;> simp
    have hw2 : wrong1 e i = false := by revert hw; cases wrong1 e i <;> simp
    have sub : ∀ j, j < i → wrongU e (j + 1) = false := by
      intro j hj
      rw [Bool.eq_false_iff] at hw1 ⊢
      intro h; apply hw1
      unfold wrongU at h ⊢
      simp only [List.any_eq_true, List.mem_range] at h ⊢
      obtain ⟨x, h1, h2⟩ := h
      exact ⟨x, by omega, h2⟩
    have hl0 := po_len hp i i (Nat.le_refl _) hi
    have hszl : (po e i).length = (szA e i).toNat := by omega
    have he := szA_eq e i
    unfold sizeOf1 at he
    unfold wrong1 at hw2
    rw [po_eq hp hi]
    by_cases h10 : (nA e i).kind = 10
    · simp only [h10, if_true] at he hw2 ⊢
      have hl := hq.1 h10
      rw [sizesL_get e _ i hl.2] at he
      simp only [ne_eq, decide_not, Bool.not_eq_false', decide_eq_true_eq] at hw2
      have h1 := ih _ (show (nA e i).left.toNat ≤ k by omega) (by omega) (sub _ hl.2)
      have hb := (po_len hp _ _ (Nat.le_refl _) (show (nA e i).left.toNat < n by omega)).2.1
      refine ⟨by omega, ?_⟩
      rw [h1.2]
      unfold stretch
      have : (szA e i).toNat = (szA e (nA e i).left.toNat).toNat + 1 := by omega
      rw [this, List.range'_concat]
      rw [show i + 1 - ((szA e (nA e i).left.toNat).toNat + 1) = (nA e i).left.toNat + 1 - (szA e (nA e i).left.toNat).toNat by omega]
      congr 2; omega
    · by_cases h2 : isTwoB (nA e i).kind = true
      · simp only [h10, h2, if_true, if_false] at he hw2 ⊢
        have hl := hq.2.1 h2
        rw [sizesL_get e _ i hl.2.1, sizesL_get e _ i hl.2.2.2] at he
        simp only [Bool.or_eq_false_iff, ne_eq, decide_not, Bool.not_eq_false', decide_eq_true_eq] at hw2
        have h1 := ih _ (show (nA e i).left.toNat ≤ k by omega) (by omega) (sub _ hl.2.1)
        have h3 := ih _ (show (nA e i).right.toNat ≤ k by omega) (by omega) (sub _ hl.2.2.2)
        have hb := (po_len hp _ _ (Nat.le_refl _) (show (nA e i).left.toNat < n by omega)).2.1
        have hb2 := (po_len hp _ _ (Nat.le_refl _) (show (nA e i).right.toNat < n by omega)).2.1
        refine ⟨by omega, ?_⟩
        rw [h1.2, h3.2]
        unfold stretch
        generalize hA : (szA e (nA e i).left.toNat).toNat = A at *
        generalize hB : (szA e (nA e i).right.toNat).toNat = B at *
        have hC : (szA e i).toNat = A + B + 1 := by omega
        rw [hC, List.range'_concat, show A + B = B + A by omega]
        rw [show i + 1 - (B + A + 1) = (nA e i).left.toNat + 1 - A by omega]
        rw [show B + A = A + B by omega, ← List.range'_append_1]
        rw [show (nA e i).left.toNat + 1 - A + A = (nA e i).right.toNat + 1 - B by omega]
        congr 2; omega
      · simp only [h10, h2, if_false, Bool.false_eq_true] at he ⊢
        refine ⟨by omega, ?_⟩
        rw [he]
        simp [stretch]

/-- a part's order stands whole in the order -/
theorem po_infix {e : List TNode} {n : Nat} (hp : PartsOk e n) : ∀ (k r i : Nat), r ≤ k → r < n → i ∈ po e r → ∃ a b, po e r = a ++ po e i ++ b ∧ i ≤ r := by
  intro k
  induction k with
  | zero =>
    intro r i hk hr hi
    obtain rfl : r = 0 := by omega
    have hq := nodeF_parts (hp 0 hr)
    rw [po_eq hp hr] at hi
    split at hi
    · rename_i h10
      have := hq.1 h10; omega
    · split at hi
      · rename_i h2
        have := hq.2.1 h2; omega
      · simp at hi; subst hi; exact ⟨[], [], by simp, Nat.le_refl _⟩
  | succ k ih =>
    intro r i hk hr hi
    have hq := nodeF_parts (hp r hr)
    by_cases hir : i = r
    · subst hir; exact ⟨[], [], by simp, Nat.le_refl _⟩
    have e0 := po_eq hp hr
    rw [e0] at hi ⊢
    split at hi
    · rename_i h10
      have hl := hq.1 h10
      simp only [h10, if_true]
      simp only [List.mem_append, List.mem_singleton, hir, or_false] at hi
      obtain ⟨a, b, h1, h2⟩ := ih _ i (by omega) (by omega) hi
      exact ⟨a, b ++ [r], by rw [h1]; simp, by omega⟩
    · split at hi
      · rename_i h10 h2
        have hl := hq.2.1 h2
        simp only [h10, h2, if_true, if_false]
        simp only [List.mem_append, List.mem_singleton, hir, or_false] at hi
        rcases hi with hi | hi
        · obtain ⟨a, b, h1, h2⟩ := ih _ i (by omega) (by omega) hi
          exact ⟨a, b ++ po e (nA e r).right.toNat ++ [r], by rw [h1]; simp, by omega⟩
        · obtain ⟨a, b, h1, h2⟩ := ih _ i (by omega) (by omega) hi
          exact ⟨po e (nA e r).left.toNat ++ a, b ++ [r], by rw [h1]; simp, by omega⟩
      · simp at hi; exact absurd hi hir
theorem po_last {e : List TNode} {n i : Nat} (hp : PartsOk e n) (hi : i < n) : ∃ a, po e i = a ++ [i] := by
  rw [po_eq hp hi]
  split
  · exact ⟨_, rfl⟩
  · split
    · exact ⟨_, rfl⟩
    · exact ⟨[], rfl⟩
theorem range_at {n : Nat} {a b : List Nat} {i : Nat} (h : List.range n = a ++ i :: b) : a.length = i := by
  have := congrArg (fun l => l[a.length]?) h
  simp only [List.getElem?_append_right (Nat.le_refl _), Nat.sub_self, List.getElem?_cons_zero] at this
  obtain ⟨h1, h2⟩ := List.getElem?_eq_some_iff.1 this
  simpa using h2
theorem po_bad {e : List TNode} {n : Nat} (hp : PartsOk e n) (hn : 0 < n) (h : po e (n - 1) = List.range n) : wrongU e n = false ∧ szA e (n - 1) = n := by
  have hl := po_len hp (n - 1) (n - 1) (Nat.le_refl _) (by omega)
  rw [h, List.length_range] at hl
  refine ⟨?_, by omega⟩
  unfold wrongU
  rw [Bool.eq_false_iff]
  intro hw
  simp only [List.any_eq_true, List.mem_range] at hw
  obtain ⟨i, hi, hw⟩ := hw
  have hq := nodeF_parts (hp i hi)
  obtain ⟨a, b, h1, _⟩ := po_infix hp (n - 1) (n - 1) i (Nat.le_refl _) (by omega) (by rw [h]; exact List.mem_range.2 hi)
  rw [h] at h1
  unfold wrong1 at hw
  have e0 := po_eq hp hi
  by_cases h10 : (nA e i).kind = 10
  · simp only [h10, if_true] at hw e0
    have hl := hq.1 h10
    obtain ⟨c, hc⟩ := po_last hp (show (nA e i).left.toNat < n by omega)
    rw [e0, hc] at h1
    have p1 := range_at (i := i) (a := a ++ (c ++ [(nA e i).left.toNat])) (b := b) (by rw [h1]; simp)
    have p2 := range_at (i := (nA e i).left.toNat) (a := a ++ c) (b := i :: b) (by rw [h1]; simp)
    simp at p1 p2 hw
    omega
  · by_cases h2 : isTwoB (nA e i).kind = true
    · simp only [h10, h2, if_true, if_false] at hw e0
      have hl := hq.2.1 h2
      obtain ⟨c, hc⟩ := po_last hp (show (nA e i).left.toNat < n by omega)
      obtain ⟨d, hd⟩ := po_last hp (show (nA e i).right.toNat < n by omega)
      have hlen := (po_len hp _ _ (Nat.le_refl _) (show (nA e i).right.toNat < n by omega)).1
      rw [hd] at hlen
      rw [e0, hc, hd] at h1
      have p1 := range_at (i := i) (a := a ++ (c ++ [(nA e i).left.toNat]) ++ (d ++ [(nA e i).right.toNat])) (b := b) (by rw [h1]; simp)
      have p2 := range_at (i := (nA e i).left.toNat) (a := a ++ c) (b := (d ++ [(nA e i).right.toNat]) ++ i :: b) (by rw [h1]; simp)
      have p3 := range_at (i := (nA e i).right.toNat) (a := a ++ (c ++ [(nA e i).left.toNat]) ++ d) (b := i :: b) (by rw [h1]; simp)
      simp at p1 p2 p3 hw hlen
      omega
    · simp only [h10, h2, if_false, Bool.false_eq_true] at hw
/-- both tell the same -/
theorem po_iff {e : List TNode} {n : Nat} (hp : PartsOk e n) (hn : 0 < n) : po e (n - 1) = List.range n ↔ (wrongU e n = false ∧ szA e (n - 1) = n) := by
  constructor
  · exact po_bad hp hn
  · rintro ⟨h1, h2⟩
    have h := (po_good hp (n - 1) (n - 1) (Nat.le_refl _) (by omega) (by rwa [show n - 1 + 1 = n by omega])).2
    rw [h, h2]
    unfold stretch
    rw [List.range_eq_range', show n - 1 + 1 - (n : Int).toNat = 0 by omega]
    simp

/-- the walk that stops behind 16 -/
def walkC (e : List TNode) : Nat → Nat → List Nat → List Nat
  | 0, _, out => out
  | f + 1, i, out =>
    if 16 < out.length then out
    else
      let n := nA e i
      let o1 := if 2 < n.kind then walkC e f n.left.toNat out else out
      let o2 := if isTwoB n.kind then walkC e f n.right.toNat o1 else o1
      o2 ++ [i]
theorem walkC_mono {e : List TNode} : ∀ (f i : Nat) (out : List Nat), out.length ≤ (walkC e f i out).length := by
  intro f
  induction f with
  | zero => intro i out; exact Nat.le_refl _
  | succ f ih =>
    intro i out
    simp only [walkC]
    split
    · exact Nat.le_refl _
    · simp only [List.length_append, List.length_cons, List.length_nil]
      have h1 : out.length ≤ (if 2 < (nA e i).kind then walkC e f (nA e i).left.toNat out else out).length := by
        split
        · exact ih _ _
        · exact Nat.le_refl _
      generalize (if 2 < (nA e i).kind then walkC e f (nA e i).left.toNat out else out) = o1 at *
      split
      · have := ih (nA e i).right.toNat o1; omega
      · omega
theorem walkC_eq {e : List TNode} {n : Nat} (hp : PartsOk e n) : ∀ (f i : Nat) (out : List Nat), i < n → i < f → (out.length + (po e i).length ≤ 17 → walkC e f i out = out ++ po e i) ∧ (17 < out.length + (po e i).length → 17 ≤ (walkC e f i out).length) := by
  intro f
  induction f with
  | zero => intro i out _ h; omega
  | succ f ih =>
    intro i out hn hf
    have hq := nodeF_parts (hp i hn)
    have hl1 := (po_len hp i i (Nat.le_refl _) hn)
    have e0 := po_eq hp hn
    simp only [walkC]
    by_cases h16 : 16 < out.length
    · rw [if_pos h16]
      exact ⟨fun h => by omega, fun _ => by omega⟩
    · rw [if_neg h16]
      by_cases h10 : (nA e i).kind = 10
      · have hl := hq.1 h10
        have n2 : isTwoB (nA e i).kind = false := by rw [isTwoB, inR_not]; omega
        have i1 := ih (nA e i).left.toNat out (by omega) (by omega)
        rw [if_pos (show 2 < (nA e i).kind by omega)]
        simp only [n2, Bool.false_eq_true, if_false]
        rw [if_pos h10] at e0
        rw [e0]
        simp only [List.length_append, List.length_cons, List.length_nil]
        constructor
        · intro h
          rw [i1.1 (by omega)]; simp
        · intro h
          by_cases hh : out.length + (po e (nA e i).left.toNat).length ≤ 17
          · rw [i1.1 hh]; simp; omega
          · have := i1.2 (by omega); simp; omega
      · by_cases h2 : isTwoB (nA e i).kind = true
        · have hl := hq.2.1 h2
          have hk := inR_iff.1 h2
          have i1 := ih (nA e i).left.toNat out (by omega) (by omega)
          simp only [if_pos (show 2 < (nA e i).kind by omega), h10, h2, if_true, if_false] at e0 ⊢
          rw [e0]
          simp only [List.length_append, List.length_cons, List.length_nil]
          have hr1 := (po_len hp _ _ (Nat.le_refl _) (show (nA e i).right.toNat < n by omega))
          by_cases hh : out.length + (po e (nA e i).left.toNat).length ≤ 17
          · rw [i1.1 hh]
            have i2 := ih (nA e i).right.toNat (out ++ po e (nA e i).left.toNat) (by omega) (by omega)
            simp only [List.length_append] at i2
            constructor
            · intro h
              rw [i2.1 (by omega)]; simp
            · intro h
              by_cases h3 : out.length + (po e (nA e i).left.toNat).length + (po e (nA e i).right.toNat).length ≤ 17
              · rw [i2.1 h3]; simp; omega
              · have := i2.2 (by omega); omega
          · have h5 := i1.2 (by omega)
            have h6 := walkC_mono (e := e) f (nA e i).right.toNat (walkC e f (nA e i).left.toNat out)
            exact ⟨fun h => by omega, fun _ => by omega⟩
        · have hk : (nA e i).kind ≤ 2 := hq.2.2.2.2.2 ⟨h10, by simpa using h2⟩
          simp only [if_neg (show ¬ 2 < (nA e i).kind by omega), h10, h2, if_false, Bool.false_eq_true] at e0 ⊢
          rw [e0]
          simp only [List.length_append, List.length_cons, List.length_nil]
          exact ⟨fun _ => trivial, fun h => by omega⟩
def wkF (e : List TNode) (i : Nat) (out : List Nat) : List Nat := walkC e (i + 1) i out
theorem wk_iff {e : List TNode} {n : Nat} (hp : PartsOk e n) (hn : 0 < n) (h16 : n ≤ 16) : wkF e (n - 1) [] = List.range n ↔ (wrongU e n = false ∧ szA e (n - 1) = n) := by
  rw [← po_iff hp hn]
  have h := walkC_eq hp (n - 1 + 1) (n - 1) [] (by omega) (Nat.lt_succ_self _)
  unfold wkF
  simp only [List.length_nil, Nat.zero_add, List.nil_append] at h
  by_cases hh : (po e (n - 1)).length ≤ 17
  · rw [h.1 hh]
  · constructor
    · intro hw
      have := h.2 (by omega)
      rw [hw, List.length_range] at this; omega
    · intro hw
      rw [hw, List.length_range] at hh; omega

/-- the code of an expression -/
def exprF (e : List TNode) : Int :=
  if inR e.length 1 16 = false then 2
  else if sc (nodeAt e) e.length 0 ≠ 0 then sc (nodeAt e) e.length 0
  else if wrongU e e.length = true ∨ szA e (e.length - 1) ≠ e.length then 1 else 0
end Go.AM

/-! ### Py -/
set_option linter.unusedVariables false
set_option linter.unusedSimpArgs false
namespace Go.AM

theorem walkC_more {e : List TNode} {n : Nat} (hp : PartsOk e n) : ∀ (f g i : Nat) (out : List Nat), i < n → i < f → i < g → walkC e f i out = walkC e g i out := by
  intro f
  induction f with
  | zero => intro g i out _ h; omega
  | succ f ih =>
    intro g i out hn hf hg
    cases g with
    | zero => omega
    | succ g =>
      have hq := nodeF_parts (hp i hn)
      simp only [walkC]
      by_cases h10 : (nA e i).kind = 10
      · have hl := hq.1 h10
        have n2 : isTwoB (nA e i).kind = false := by rw [isTwoB, inR_not]; omega
        simp only [n2, Bool.false_eq_true, if_false]
        rw [ih g (nA e i).left.toNat out (by omega) (by omega) (by omega)]
      · by_cases h2 : isTwoB (nA e i).kind = true
        · have hl := hq.2.1 h2
          simp only [h2]
          rw [ih g (nA e i).left.toNat _ (by omega) (by omega) (by omega), ih g (nA e i).right.toNat _ (by omega) (by omega) (by omega)]
        · have hk : (nA e i).kind ≤ 2 := hq.2.2.2.2.2 ⟨h10, by simpa using h2⟩
          simp only [if_neg (show ¬ 2 < (nA e i).kind by omega), h2, Bool.false_eq_true, if_false]
theorem wkF_eq {e : List TNode} {n i : Nat} (hp : PartsOk e n) (hi : i < n) (out : List Nat) : wkF e i out = if 16 < out.length then out else
    (if isTwoB (nA e i).kind then wkF e (nA e i).right.toNat (if 2 < (nA e i).kind then wkF e (nA e i).left.toNat out else out) else (if 2 < (nA e i).kind then wkF e (nA e i).left.toNat out else out)) ++ [i] := by
  have hq := nodeF_parts (hp i hi)
  unfold wkF
  conv => lhs; unfold walkC
  split
  · rfl
  · simp only
    by_cases h10 : (nA e i).kind = 10
    · have hl := hq.1 h10
      have n2 : isTwoB (nA e i).kind = false := by rw [isTwoB, inR_not]; omega
      simp only [n2, Bool.false_eq_true, if_false]
      rw [walkC_more hp i ((nA e i).left.toNat + 1) (nA e i).left.toNat out (by omega) (by omega) (by omega)]
    · by_cases h2 : isTwoB (nA e i).kind = true
      · have hl := hq.2.1 h2
        simp only [h2]
        rw [walkC_more hp i ((nA e i).left.toNat + 1) (nA e i).left.toNat _ (by omega) (by omega) (by omega), walkC_more hp i ((nA e i).right.toNat + 1) (nA e i).right.toNat _ (by omega) (by omega) (by omega)]
      · have hk : (nA e i).kind ≤ 2 := hq.2.2.2.2.2 ⟨h10, by simpa using h2⟩
        simp only [if_neg (show ¬ 2 < (nA e i).kind by omega), h2, Bool.false_eq_true, if_false]

/-! types -/
def ownT (k : Int) : Int := if k ≤ 6 then 1 else 2
def partT (k : Int) : Int := if k ≤ 8 then 1 else 2
def typBad (e : List TNode) (i : Nat) : Bool :=
  let n := nA e i
  (decide (2 < n.kind) && decide (ownT (nA e n.left.toNat).kind ≠ partT n.kind)) || (isTwoB n.kind && decide (ownT (nA e n.right.toNat).kind ≠ partT n.kind))
def typU (e : List TNode) (i : Nat) : Bool := (List.range i).any (typBad e)
theorem typU_step (e : List TNode) (i : Nat) : typU e (i + 1) = (typU e i || typBad e i) := by
  unfold typU; rw [List.range_succ, List.any_append]; simp
theorem typU_mono {e : List TNode} {i n : Nat} (h : i ≤ n) (hu : typU e i = true) : typU e n = true := by
  unfold typU at *
  simp only [List.any_eq_true, List.mem_range] at *
  obtain ⟨x, h1, h2⟩ := hu
  exact ⟨x, by omega, h2⟩
def typC (e : List TNode) : Int := if exprF e ≠ 0 then exprF e else if typU e e.length = true then 7 else 0
def typV (e : List TNode) : Int := if typC e ≠ 0 then 0 else ownT (nA e (e.length - 1)).kind
/-- the code of an expression that has to have a type, if it is there -/
def typF (e : List TNode) (want : Int) : Int := if e.length = 0 then 0 else if typC e ≠ 0 then typC e else if typV e ≠ want then 7 else 0

/-! names -/
def isLow (c : UInt8) : Bool := decide (97 ≤ (c.toNat : Int)) && decide ((c.toNat : Int) ≤ 122)
def nameF (s : List UInt8) : Int := if s.all isLow = false ∨ s.length = 0 then 5 else if 8 < s.length then 2 else 0

/-! parents -/
/-- parents lie ahead -/
def ParOk (l : List Int) : Prop := ∀ k, k < l.length → -1 ≤ l.getD k 0 ∧ l.getD k 0 < k
def upF (l : List Int) : Nat → Int → Int → Bool
  | 0, _, _ => false
  | f + 1, a, par => if a < 0 then false else if a = par then true else upF l f (l.getD a.toNat 0) par
/-- is it on the way up from a place? -/
def upB (l : List Int) (a par : Int) : Bool := upF l (a + 1).toNat a par
theorem upF_more {l : List Int} (hl : ParOk l) {par : Int} : ∀ (f g : Nat) (a : Int), a < l.length → a < f → a < g → upF l f a par = upF l g a par := by
  intro f
  induction f with
  | zero =>
    intro g a _ hf _
    cases g with
    | zero => rfl
    | succ g => simp only [upF]; rw [if_pos (by omega)]
  | succ f ih =>
    intro g a hn hf hg
    cases g with
    | zero => simp only [upF]; rw [if_pos (by omega)]
    | succ g =>
      simp only [upF]
      split
      · rfl
      · split
        · rfl
        · have := hl a.toNat (by omega)
          exact ih g _ (by omega) (by omega) (by omega)
theorem upB_neg {l : List Int} {a par : Int} (h : a < 0) : upB l a par = false := by
  unfold upB
  rw [show (a + 1).toNat = 0 by omega]; rfl
theorem upB_eq {l : List Int} (hl : ParOk l) {a par : Int} (h0 : 0 ≤ a) (hn : a < l.length) : upB l a par = if a = par then true else upB l (l.getD a.toNat 0) par := by
  unfold upB
  obtain ⟨m, hm⟩ : ∃ m : Nat, a = m := ⟨a.toNat, by omega⟩
  subst hm
  rw [show ((m : Int) + 1).toNat = m + 1 by omega]
  simp only [upF]
  rw [if_neg (by omega)]
  split
  · rfl
  · have := hl m (by omega)
    rw [Int.toNat_natCast] at *
    exact upF_more hl m _ _ (by omega) (by omega) (by omega)
theorem upB_lt {l : List Int} (hl : ParOk l) {par : Int} : ∀ (k : Nat) (a : Int), a < k → a < l.length → a < par → upB l a par = false := by
  intro k
  induction k with
  | zero => intro a hk _ _; exact upB_neg (by omega)
  | succ k ih =>
    intro a hk hn hp
    by_cases h0 : a < 0
    · exact upB_neg h0
    · have := hl a.toNat (by omega)
      rw [upB_eq hl (by omega) hn, if_neg (by omega)]
      exact ih _ (by omega) (by omega) (by omega)
/-- the code of the next parent -/
def parF (l : List Int) (par : Int) : Int :=
  if (l.length = 0 ∧ par ≠ -1) ∨ (0 < l.length ∧ (par < 0 ∨ (l.length : Int) ≤ par)) then 3
  else if 0 < l.length ∧ upB l ((l.length : Int) - 1) par = false then 1 else 0
theorem ParOk.snoc {l : List Int} (hl : ParOk l) {par : Int} (h1 : -1 ≤ par) (h2 : par < l.length) : ParOk (l ++ [par]) := by
  intro k hk
  rw [List.length_append, List.length_singleton] at hk
  by_cases h : k < l.length
  · have := hl k h
    simpa [List.getD, List.getElem?_append_left h] using this
  · obtain rfl : k = l.length := by omega
    simp [List.getD]; omega
theorem parF_ok {l : List Int} {par : Int} (h : parF l par = 0) : -1 ≤ par ∧ par < l.length ∧ (0 < l.length → 0 ≤ par) := by
  unfold parF at h
  split at h
  · cases h
  · omega

/-- how many there are from a place up -/
def depF (l : List Int) : Nat → Int → Int
  | 0, _ => 0
  | f + 1, a => if a < 0 then 0 else 1 + depF l f (l.getD a.toNat 0)
def dep (l : List Int) (a : Int) : Int := depF l (a + 1).toNat a
theorem depF_more {l : List Int} (hl : ParOk l) : ∀ (f g : Nat) (a : Int), a < l.length → a < f → a < g → depF l f a = depF l g a := by
  intro f
  induction f with
  | zero =>
    intro g a _ hf _
    cases g with
    | zero => rfl
    | succ g => simp only [depF]; rw [if_pos (by omega)]
  | succ f ih =>
    intro g a hn hf hg
    cases g with
    | zero => simp only [depF]; rw [if_pos (by omega)]
    | succ g =>
      simp only [depF]
      split
      · rfl
      · have := hl a.toNat (by omega)
        rw [ih g _ (by omega) (by omega) (by omega)]
theorem dep_neg {l : List Int} {a : Int} (h : a < 0) : dep l a = 0 := by
  unfold dep
  rw [show (a + 1).toNat = 0 by omega]; rfl
theorem dep_eq {l : List Int} (hl : ParOk l) {a : Int} (h0 : 0 ≤ a) (hn : a < l.length) : dep l a = 1 + dep l (l.getD a.toNat 0) := by
  unfold dep
  obtain ⟨m, hm⟩ : ∃ m : Nat, a = m := ⟨a.toNat, by omega⟩
  subst hm
  rw [show ((m : Int) + 1).toNat = m + 1 by omega]
  simp only [depF]
  rw [if_neg (by omega)]
  have := hl m (by omega)
  rw [Int.toNat_natCast] at *
  rw [depF_more hl m (l.getD m 0 + 1).toNat (l.getD m 0) (by omega) (by omega) (by omega)]
theorem dep_bd {l : List Int} (hl : ParOk l) : ∀ (k : Nat) (a : Int), a < k → a < l.length → 0 ≤ dep l a ∧ (0 ≤ a → dep l a ≤ a + 1) := by
  intro k
  induction k with
  | zero => intro a hk _; rw [dep_neg (by omega)]; omega
  | succ k ih =>
    intro a hk hn
    by_cases h0 : a < 0
    · rw [dep_neg h0]; omega
    · have h1 := hl a.toNat (by omega)
      rw [dep_eq hl (by omega) hn]
      have h2 := ih (l.getD a.toNat 0) (by omega) (by omega)
      by_cases h3 : 0 ≤ l.getD a.toNat 0
      · have := h2.2 h3; omega
      · rw [dep_neg (show l.getD a.toNat 0 < 0 by omega)]; omega
theorem getD_left {l : List Int} {x : Int} {k : Nat} (h : k < l.length) : (l ++ [x]).getD k 0 = l.getD k 0 := by simp [List.getD, List.getElem?_append_left h]
theorem dep_snoc {l : List Int} (hl : ParOk l) {x : Int} : ∀ (k : Nat) (a : Int), a < k → a < l.length → -1 ≤ x → x < l.length → dep (l ++ [x]) a = dep l a := by
  intro k
  induction k with
  | zero => intro a hk _ _ _; rw [dep_neg (by omega), dep_neg (by omega)]
  | succ k ih =>
    intro a hk hn h1 h2
    by_cases h0 : a < 0
    · rw [dep_neg h0, dep_neg h0]
    · have h3 := hl a.toNat (by omega)
      rw [dep_eq hl (by omega) hn, dep_eq (hl.snoc h1 h2) (by omega) (by simp; omega), getD_left (by omega), ih _ (by omega) (by omega) h1 h2]

/-! steps -/
instance : Inhabited TStep := ⟨⟨0, 0, [], 0, [], []⟩⟩
def nS (p : List TStep) (i : Nat) : TStep := p.getD i default
def pars (p : List TStep) : List Int := p.map TStep.par
def highA (k : Int) : Int := if k = 5 then 9 else if k = 6 ∨ k = 8 then 99 else if k = 7 then 3 else 0
def lowA (k : Int) : Int := if k = 6 ∨ k = 8 then 1 else 0
def alien (s : TStep) : Bool := (decide (s.name ≠ []) && decide (s.kind ≠ 2)) || (decide (s.arg ≠ 0) && decide (highA s.kind = 0)) || (decide (0 < s.expr.length) && decide (s.kind ≠ 7))
/-- the code of a step by itself, behind a row of parents -/
def stepF (l : List Int) (s : TStep) : Int :=
  if s.kind < 1 ∨ 8 < s.kind ∨ alien s = true then 1
  else if parF l s.par ≠ 0 then parF l s.par
  else if 7 < dep (l ++ [s.par]) l.length then 2
  else if s.kind = 2 then nameF s.name
  else if s.arg < lowA s.kind ∨ highA s.kind < s.arg then 3
  else if s.kind = 7 then exprF s.expr else 0
def oneF (p : List TStep) (i : Nat) : Int := stepF ((pars p).take i) (nS p i)

def kidU (p : List TStep) (a : Int) (i : Nat) : List Int := ((List.range i).filter fun k => decide (0 < k) && decide ((nS p k).par = a)).map fun (k : Nat) => (k : Int)
def kids (p : List TStep) (a : Int) : List Int := kidU p a p.length
theorem kidU_step (p : List TStep) (a : Int) (i : Nat) : kidU p a (i + 1) = kidU p a i ++ (if 0 < i ∧ (nS p i).par = a then [(i : Int)] else []) := by
  unfold kidU
  rw [List.range_succ, List.filter_append, List.map_append]
  congr 1
  by_cases h : 0 < i ∧ (nS p i).par = a
  · rw [if_pos h]; simp [h]
  · rw [if_neg h]
    rw [List.filter_cons_of_neg (by simpa using h)]; rfl
theorem kidU_len (p : List TStep) (a : Int) (i : Nat) : (kidU p a i).length ≤ i := by
  unfold kidU; rw [List.length_map]; exact Nat.le_trans (List.length_filter_le _ _) (by simp)
theorem kids_mem {p : List TStep} {a k : Int} : k ∈ kids p a ↔ ∃ m : Nat, k = m ∧ 0 < m ∧ m < p.length ∧ (nS p m).par = a := by
  unfold kids kidU
  simp only [List.mem_map, List.mem_filter, List.mem_range, Bool.and_eq_true, decide_eq_true_eq]
  constructor
  · rintro ⟨m, ⟨h1, h2, h3⟩, rfl⟩; exact ⟨m, rfl, h2, h1, h3⟩
  · rintro ⟨m, rfl, h2, h1, h3⟩; exact ⟨m, ⟨h1, h2, h3⟩, rfl⟩

def lastI (l : List Int) : Int := l.getD (l.length - 1) 0
def headI (l : List Int) : Int := l.getD 0 0
def kidLo (k : Int) : Int := if k = 1 then 1 else if k = 3 ∨ k = 4 ∨ k = 8 then 2 else 0
def kidHi (k : Int) : Int := if k = 1 ∨ k = 3 ∨ k = 4 then 24 else if k = 8 then 2 else 0
def wants (p : List TStep) (i : Nat) : Bool :=
  decide (i ≠ 0) && decide ((nS p (nS p i).par.toNat).kind = 3) && decide ((i : Int) ≠ lastI (kids p (nS p i).par))
def shapeF (p : List TStep) (i : Nat) : Int :=
  let s := nS p i
  if inR (kids p i).length (kidLo s.kind) (kidHi s.kind) = false then 1
  else if decide (0 < s.cond.length) ≠ wants p i then 1
  else if 0 < s.cond.length then exprF s.cond else 0
def tyF (p : List TStep) (i : Nat) : Int := if typF (nS p i).cond 2 ≠ 0 then typF (nS p i).cond 2 else typF (nS p i).expr 1
/-- the code of a process -/
def procF (p : List TStep) : Int :=
  if inR p.length 1 24 = false then 2
  else if sc (oneF p) p.length 0 ≠ 0 then sc (oneF p) p.length 0
  else if sc (shapeF p) p.length 0 ≠ 0 then sc (shapeF p) p.length 0
  else sc (tyF p) p.length 0

/-- what is told of a row of steps that have no fault by themselves -/
theorem pars_len (p : List TStep) : (pars p).length = p.length := by simp [pars]
theorem pars_get {p : List TStep} {i : Nat} (h : i < p.length) : (pars p).getD i 0 = (nS p i).par := by
  simp [pars, nS, List.getD, List.getElem?_map, List.getElem?_eq_getElem h]
theorem pars_take {p : List TStep} {i : Nat} (h : i < p.length) : (pars p).take (i + 1) = (pars p).take i ++ [(nS p i).par] := by
  have e : (pars p)[i]? = some (nS p i).par := by simp [pars, nS, List.getD, List.getElem?_map, List.getElem?_eq_getElem h]
  rw [List.take_add_one, e]; rfl
theorem stepF_par {l : List Int} {s : TStep} (h : stepF l s = 0) : parF l s.par = 0 := by
  unfold stepF at h
  split at h
  · cases h
  · split at h
    · exact absurd h (by assumption)
    · rename_i h2; simpa using h2
theorem ones_ok {p : List TStep} : ∀ (i : Nat), i ≤ p.length → (∀ k, k < i → oneF p k = 0) → ParOk ((pars p).take i) := by
  intro i
  induction i with
  | zero => intro _ _ k hk; simp at hk
  | succ i ih =>
    intro hi h
    have h1 := ih (by omega) fun k hk => h k (by omega)
    have h2 := parF_ok (stepF_par (h i (by omega)))
    rw [pars_take (by omega)]
    exact h1.snoc h2.1 h2.2.1
end Go.AM

/-! ### Pz -/
set_option linter.unusedVariables false
set_option linter.unusedSimpArgs false
namespace Go.AM

def actA (c : TChart) (i : Int) : Int := c.acts.getD i.toNat 0
def dueA (c : TChart) (i : Int) : Int := c.dues.getD i.toNat 0
def stepA (p : List TStep) (i : Int) : TStep := nS p i.toNat
def cnt (c : TChart) (a : Int) (l : List Int) : Int := (l.countP fun k => decide (actA c k = a) : Nat)
theorem cnt_nil (c : TChart) (a : Int) : cnt c a [] = 0 := rfl
theorem cnt_step {c : TChart} {a : Int} {l : List Int} {i : Nat} {x : Int} (h : l[i]? = some x) : cnt c a (l.take (i + 1)) = cnt c a (l.take i) + if actA c x = a then 1 else 0 := by
  unfold cnt
  rw [List.take_add_one, h, List.countP_append]
  by_cases h0 : actA c x = a <;> simp [h0]
theorem cnt_le (c : TChart) (a : Int) (l : List Int) : 0 ≤ cnt c a l ∧ cnt c a l ≤ l.length := by
  unfold cnt
  have := List.countP_le_length (p := fun k => decide (actA c k = a)) (l := l)
  omega
theorem cnt_pos {c : TChart} {a k : Int} {l : List Int} (h : k ∈ l) (ha : actA c k = a) : 0 < cnt c a l := by
  unfold cnt
  have := List.countP_pos_iff (p := fun k => decide (actA c k = a)) (l := l) |>.2 ⟨k, h, by simpa using ha⟩
  omega
theorem cnt_zero {c : TChart} {a : Int} {l : List Int} (h : ∀ k ∈ l, actA c k ≠ a) : cnt c a l = 0 := by
  unfold cnt
  have := List.countP_eq_zero (p := fun k => decide (actA c k = a)) (l := l) |>.2 fun k hk => by simpa using h k hk
  omega
theorem cnt_two (c : TChart) (l : List Int) : cnt c 1 l + cnt c 2 l ≤ l.length := by
  unfold cnt
  induction l with
  | nil => simp
  | cons x l ih =>
    rw [List.countP_cons, List.countP_cons, List.length_cons]
    by_cases h1 : actA c x = 1
    · simp [h1]; omega
    · by_cases h2 : actA c x = 2
      · simp [h2]; omega
      · simp [h1, h2]; omega

/-- the program's look at a step -/
def fits (p : List TStep) (c : TChart) (at_ : Int) : Bool :=
  let s := stepA p at_
  let a := actA c at_
  let l := kids p at_
  let on := cnt c 1 l
  let ov := cnt c 2 l
  if a = 2 ∧ (at_ = 0 ∨ (stepA p s.par).kind ≠ 4) then false
  else if a ≠ 1 then decide (on + ov = 0) && decide (dueA c at_ = 0)
  else if s.kind = 1 ∨ s.kind = 3 then decide (on = 1) && decide (dueA c at_ = 0)
  else if s.kind = 4 then decide (on ≠ 0) && decide (on + ov = l.length) && decide (dueA c at_ = 0)
  else if s.kind = 8 then decide (on = 1) && (decide (actA c (headI l) = 1) == decide (dueA c at_ ≠ 0))
  else if s.kind = 6 then decide (dueA c at_ ≠ 0)
  else if s.kind = 7 then false
  else decide (dueA c at_ = 0)
/-- the reference's look at a step -/
def wrong9 (p : List TStep) (c : TChart) (at_ : Int) : Bool :=
  let l := kids p at_
  let on := cnt c 1 l
  let ov := cnt c 2 l
  let due := decide (dueA c at_ ≠ 0)
  if actA c at_ ≠ 1 then decide (0 < on + ov) || due
  else if (stepA p at_).kind = 1 ∨ (stepA p at_).kind = 3 then decide (on ≠ 1) || decide (0 < ov) || due
  else if (stepA p at_).kind = 4 then decide (on < 1) || decide (on + ov ≠ l.length) || due
  else if (stepA p at_).kind = 8 then decide (on ≠ 1) || decide (0 < ov) || (due != decide (actA c (headI l) = 1))
  else if (stepA p at_).kind = 6 then !due
  else if (stepA p at_).kind = 7 then true
  else due
def allFit (p : List TStep) (c : TChart) (n : Nat) : Bool := (List.range n).all fun (i : Nat) => fits p c i
def someWrong (p : List TStep) (c : TChart) (n : Nat) : Bool := (List.range n).any fun (i : Nat) => wrong9 p c i
theorem allFit_step (p : List TStep) (c : TChart) (n : Nat) : allFit p c (n + 1) = (allFit p c n && fits p c n) := by
  unfold allFit; rw [List.range_succ, List.all_append]; simp
theorem someWrong_step (p : List TStep) (c : TChart) (n : Nat) : someWrong p c (n + 1) = (someWrong p c n || wrong9 p c n) := by
  unfold someWrong; rw [List.range_succ, List.any_append]; simp

/-- what a process without faults is known to be -/
structure ProcOk (p : List TStep) : Prop where
  len : 1 ≤ p.length ∧ p.length ≤ 24
  one : ∀ i, i < p.length → oneF p i = 0
  shape : ∀ i, i < p.length → shapeF p i = 0
  ty : ∀ i, i < p.length → tyF p i = 0
theorem procOk {p : List TStep} (h : procF p = 0) : ProcOk p := by
  unfold procF at h
  split at h
  · cases h
  rename_i h0
  split at h
  · exact absurd h (by assumption)
  rename_i h1
  split at h
  · exact absurd h (by assumption)
  rename_i h2
  have h0 : inR (↑p.length) 1 24 = true := by simpa using h0
  have h0 := inR_iff.1 h0
  exact ⟨by omega, sc_all (by simpa using h1), sc_all (by simpa using h2), sc_all h⟩
theorem ProcOk.par {p : List TStep} (h : ProcOk p) : ParOk (pars p) := by
  have := ones_ok p.length (Nat.le_refl _) h.one
  rwa [List.take_of_length_le (by rw [pars_len]; exact Nat.le_refl _)] at this
theorem ProcOk.par0 {p : List TStep} (h : ProcOk p) : (nS p 0).par = -1 := by
  have h1 := parF_ok (stepF_par (h.one 0 (by have := h.len; omega)))
  simp at h1; omega
theorem ProcOk.parI {p : List TStep} (h : ProcOk p) {i : Nat} (h0 : 0 < i) (hi : i < p.length) : 0 ≤ (nS p i).par ∧ (nS p i).par < i := by
  have h1 := parF_ok (stepF_par (h.one i hi))
  have hl : ((pars p).take i).length = i := by rw [List.length_take, pars_len]; omega
  rw [hl] at h1
  exact ⟨h1.2.2 h0, h1.2.1⟩
theorem ProcOk.kind {p : List TStep} (h : ProcOk p) {i : Nat} (hi : i < p.length) : 1 ≤ (nS p i).kind ∧ (nS p i).kind ≤ 8 := by
  have h1 := h.one i hi
  unfold oneF stepF at h1
  split at h1
  · cases h1
  · omega
theorem ProcOk.many {p : List TStep} (h : ProcOk p) {i : Nat} (hi : i < p.length) : kidLo (nS p i).kind ≤ (kids p i).length ∧ ((kids p i).length : Int) ≤ kidHi (nS p i).kind := by
  have h1 := h.shape i hi
  unfold shapeF at h1
  simp only at h1
  split at h1
  · cases h1
  · rename_i h2; exact inR_iff.1 (by simpa using h2)

/-- both look alike over all steps -/
theorem fits_iff {p : List TStep} {c : TChart} (hp : ProcOk p) : (allFit p c p.length = true ∧ actA c 0 = 1) ↔ (actA c 0 = 1 ∧ someWrong p c p.length = false) := by
  unfold allFit someWrong
  rw [Bool.eq_false_iff]
  simp only [List.all_eq_true, List.any_eq_true, List.mem_range, ne_eq, not_exists, not_and, Bool.not_eq_true]
  constructor
  · rintro ⟨h, h0⟩
    refine ⟨h0, fun i hi => ?_⟩
    have hf := h i hi
    have hov : (stepA p i).kind ≠ 4 → cnt c 2 (kids p i) = 0 := by
      intro hk
      refine cnt_zero fun k hk' => ?_
      obtain ⟨m, rfl, h1, h2, h3⟩ := kids_mem.1 hk'
      intro ha
      have hm := h m h2
      unfold fits at hm
      simp only at hm
      rw [if_pos ⟨ha, Or.inr (by simp only [stepA, Int.toNat_natCast] at hk ⊢; rw [h3]; simpa using hk)⟩] at hm
      cases hm
    unfold fits at hf
    unfold wrong9
    simp only at hf ⊢
    split at hf
    · cases hf
    split at hf
    · rename_i h1
      rw [if_pos h1]
      simp at hf ⊢; omega
    · rename_i h1
      rw [if_neg h1]
      split at hf
      · rename_i h2
        rw [if_pos h2, hov (by omega)]
        simp at hf ⊢; omega
      · rename_i h2
        rw [if_neg h2]
        split at hf
        · rename_i h3
          rw [if_pos h3]
          have := (cnt_le c 1 (kids p i)).1
          simp at hf ⊢; omega
        · rename_i h3
          rw [if_neg h3]
          split at hf
          · rename_i h4
            rw [if_pos h4, hov (by omega)]
            simp at hf ⊢
            refine ⟨hf.1, ?_⟩
            have := hf.2
            by_cases ha : actA c (headI (kids p i)) = 1 <;> by_cases hd : dueA c i = 0 <;> simp_all
          · rename_i h4
            rw [if_neg h4]
            split at hf
            · rename_i h5
              rw [if_pos h5]; simp at hf ⊢; exact hf
            · rename_i h5
              rw [if_neg h5]
              split at hf
              · cases hf
              · rename_i h6
                rw [if_neg h6]; simp at hf ⊢; exact hf
  · rintro ⟨h0, h⟩
    refine ⟨fun i hi => ?_, h0⟩
    have hf := h i hi
    have hov : actA c i = 2 → i ≠ 0 ∧ (stepA p (stepA p i).par).kind = 4 := by
      intro ha
      have hi0 : i ≠ 0 := by rintro rfl; rw [show ((0 : Nat) : Int) = 0 by rfl] at ha; omega
      refine ⟨hi0, ?_⟩
      have hpi := hp.parI (by omega) hi
      obtain ⟨m, hm⟩ : ∃ m : Nat, (nS p i).par = m := ⟨_, (Int.toNat_of_nonneg hpi.1).symm⟩
      have hmi : m < p.length := by omega
      have hmem : (i : Int) ∈ kids p m := kids_mem.2 ⟨i, rfl, by omega, hi, hm⟩
      have hpos := cnt_pos hmem ha
      have hge := (cnt_le c 1 (kids p m)).1
      have hw := h m hmi
      have hmany := (hp.many hmi).2
      have hkind := hp.kind hmi
      have hlen : 1 ≤ (kids p m).length := by
        have := List.length_pos_of_mem hmem; omega
      have e1 : stepA p (stepA p i).par = nS p m := by simp only [stepA, Int.toNat_natCast]; rw [hm]; simp
      rw [e1]
      unfold wrong9 at hw
      have e2 : stepA p (m : Int) = nS p m := by simp [stepA]
      simp only [e2] at hw
      generalize (nS p m).kind = kk at *
      unfold kidHi at hmany
      split at hw
      · simp at hw; omega
      · split at hw
        · simp at hw; omega
        · split at hw
          · assumption
          · split at hw
            · simp at hw; omega
            · exfalso
              first | omega | (split at hmany <;> first | omega | (split at hmany <;> omega))
    unfold wrong9 at hf
    unfold fits
    simp only at hf ⊢
    rw [if_neg (by
      rintro ⟨h1, h2⟩
      have := hov h1
      rcases h2 with h2 | h2
      · omega
      · exact h2 this.2)]
    split at hf
    · rename_i h1
      rw [if_pos h1]
      have g1 := (cnt_le c 1 (kids p i)).1
      have g2 := (cnt_le c 2 (kids p i)).1
      simp at hf ⊢; omega
    · rename_i h1
      rw [if_neg h1]
      split at hf
      · rename_i h2
        rw [if_pos h2]; simp at hf ⊢; omega
      · rename_i h2
        rw [if_neg h2]
        split at hf
        · rename_i h3
          rw [if_pos h3]; simp at hf ⊢; omega
        · rename_i h3
          rw [if_neg h3]
          split at hf
          · rename_i h4
            rw [if_pos h4]
            simp at hf ⊢
            refine ⟨hf.1.1, ?_⟩
            have := hf.2
            by_cases ha : actA c (headI (kids p i)) = 1 <;> by_cases hd : dueA c i = 0 <;> simp_all
          · rename_i h4
            rw [if_neg h4]
            split at hf
            · rename_i h5
              rw [if_pos h5]; simp at hf ⊢; exact hf
            · rename_i h5
              rw [if_neg h5]
              split at hf
              · cases hf
              · rename_i h6
                rw [if_neg h6]; simp at hf ⊢; exact hf

def zeros (l : List Int) : Bool := l.all fun n => decide (n = 0)
def smallB (l : List Int) (m : Int) : Bool := l.all fun n => inR n 0 m
theorem smallB_zero (l : List Int) : smallB l 0 = zeros l := by
  unfold smallB zeros
  congr 1; funext n
  rw [Bool.eq_iff_iff, inR_iff]; simp; omega
/-- the code of a chart of a process -/
def chartF (p : List TStep) (c : TChart) : Int :=
  if procF p ≠ 0 then procF p
  else if inR c.status 1 3 = false ∨ inR c.now 0 1000000 = false then 3
  else if varsF c.vars ≠ 0 then varsF c.vars
  else if c.acts.length ≠ p.length ∨ c.dues.length ≠ p.length then 2
  else if smallB c.acts 2 = false ∨ smallB c.dues (c.now + 99) = false then 3
  else if c.status ≠ 1 then (if zeros c.acts = true ∧ zeros c.dues = true then 0 else 1)
  else if actA c 0 = 1 ∧ someWrong p c p.length = false then 0 else 1

/-- open steps -/
def isLeafK (k : Int) : Bool := decide (k = 2) || decide (k = 5) || decide (k = 6)
def openU (p : List TStep) (c : TChart) (i : Nat) : List Int := ((List.range i).filter fun k => isLeafK (nS p k).kind && decide (actA c k = 1)).map fun (k : Nat) => (k : Int)
theorem openU_step (p : List TStep) (c : TChart) (i : Nat) : openU p c (i + 1) = openU p c i ++ (if isLeafK (nS p i).kind = true ∧ actA c i = 1 then [(i : Int)] else []) := by
  unfold openU
  rw [List.range_succ, List.filter_append, List.map_append]
  congr 1
  by_cases h : isLeafK (nS p i).kind = true ∧ actA c i = 1
  · rw [if_pos h]; simp [h]
  · rw [if_neg h]
    rw [List.filter_cons_of_neg (by simpa using h)]; rfl

/-! chapter 11 -/
instance : Inhabited TProc := ⟨⟨[]⟩⟩
instance : Inhabited TChart := ⟨⟨0, 0, [], [], []⟩⟩
instance : Inhabited TInst := ⟨⟨0, default⟩⟩
def procAt (l : List TProc) (i : Nat) : Int := procF (l.getD i default).steps
def procsF (l : List TProc) : Int := if inR l.length 1 3 = false then 2 else sc (procAt l) l.length 0
def instF (e : TEngine) (x : TInst) : Int :=
  if inR x.proc 0 ((e.procs.length : Int) - 1) = false then 3
  else if chartF (e.procs.getD x.proc.toNat default).steps x.chart ≠ 0 then chartF (e.procs.getD x.proc.toNat default).steps x.chart
  else if x.chart.now ≠ e.now then 9 else 0
def instAt (e : TEngine) (i : Nat) : Int := instF e (e.insts.getD i default)
def engF (e : TEngine) : Int :=
  if 6 < e.insts.length then 2
  else if procsF e.procs ≠ 0 then procsF e.procs
  else if inR e.now 0 1000000 = false then 3
  else sc (instAt e) e.insts.length 0

/-! chapter 12 -/
instance : Inhabited TClaim := ⟨⟨0, 0, 0⟩⟩
def stepsOf (e : TEngine) (x : TInst) : List TStep := (e.procs.getD x.proc.toNat default).steps
def openT (e : TEngine) (inst step : Int) : Bool :=
  let x := e.insts.getD inst.toNat default
  inR step 0 (((stepsOf e x).length : Int) - 1) && decide ((stepA (stepsOf e x) step).kind = 2) && decide (actA x.chart step = 1)
def aheadC (a b : TClaim) : Bool := decide (a.inst < b.inst) || decide (a.inst = b.inst) && decide (a.step < b.step)
def claimF (d : TDesk) (i : Nat) : Int :=
  let x := d.claims.getD i default
  if inR x.inst 0 ((d.engine.insts.length : Int) - 1) = false ∨ inR x.user 1 9 = false then 3
  else if openT d.engine x.inst x.step = false then 4
  else if 0 < i ∧ aheadC (d.claims.getD (i - 1) default) x = false then 1 else 0
def deskF (d : TDesk) : Int :=
  if engF d.engine ≠ 0 then engF d.engine
  else if 60 < d.claims.length then 2
  else sc (claimF d) d.claims.length 0
end Go.AM

/-! ### En2 -/
set_option linter.unusedVariables false
set_option linter.unusedSimpArgs false
namespace Go.AM
def nlc (es : Nat) (l : List (List AV)) : AV := match l with
  | [] => .nils
  | x :: r => .osl es (x :: r)
@[go_sem high] theorem nlc_nil (es : Nat) : nlc es [] = .nils := rfl
@[go_sem high] theorem nlc_cons (es : Nat) (x : List AV) (r : List (List AV)) : nlc es (x :: r) = .osl es (x :: r) := rfl
theorem nlc_ne {es : Nat} {l : List (List AV)} (h : l ≠ []) : nlc es l = .osl es l := by cases l; exact absurd rfl h; rfl
@[go_sem high] theorem nlc_tree (es : Nat) (l : List (List AV)) : (nlc es l).tree = true := by cases l <;> rfl
@[go_sem high] theorem nlc_ids (es : Nat) (l : List (List AV)) : (nlc es l).ids = [] := by cases l <;> simp [nlc, AV.ids]
@[go_sem high] theorem nlc_ownd (es : Nat) (l : List (List AV)) : (nlc es l).ownd = owndLL l := by cases l <;> simp [nlc, AV.ownd, owndLL]
@[go_sem high] theorem nlc_le (es : Nat) (l m : List (List AV)) : leA0 (.osl es l) (nlc es m) ↔ l = m ∧ m ≠ [] := by
  cases m with
  | nil => simp [nlc, leA0]
  | cons y r => simp [nlc, leA0]
@[go_sem high] theorem nlc_lenil (es : Nat) (m : List (List AV)) : leA0 .nils (nlc es m) ↔ m = [] := by cases m <;> simp [nlc, leA0]
@[go_sem high] theorem nlc_lenlc (es : Nat) (l : List (List AV)) : leA0 (nlc es l) (nlc es l) := by cases l <;> simp [nlc, leA0]
end Go.AM

/-! ### Pe -/
set_option linter.unusedVariables false
set_option linter.unusedSimpArgs false
namespace Go.AM
attribute [go_sem] renS AV.ren renL
theorem sc_first {f : Nat → Int} {n : Nat} (i j : Nat) (hj : j ≤ i) (hi : i < n) (h0 : ∀ k, j ≤ k → k < i → f k = 0) (hne : f i ≠ 0) : sc f n j = f i := by
  have key : ∀ m j, i - j = m → j ≤ i → (∀ k, j ≤ k → k < i → f k = 0) → sc f n j = f i := by
    intro m
    induction m with
    | zero =>
      intro j h1 h2 _
      obtain rfl : j = i := by omega
      exact sc_hit hi hne
    | succ m ih =>
      intro j h1 h2 h3
      rw [sc_go (by omega) (h3 j (Nat.le_refl _) (by omega))]
      exact ih (j + 1) (by omega) (by omega) fun k h4 h5 => h3 k (by omega) h5
  exact key _ j rfl hj h0
theorem sc_none {f : Nat → Int} {n : Nat} (h : ∀ k, k < n → f k = 0) : sc f n 0 = 0 := by
  have key : ∀ m i, n - i = m → sc f n i = 0 := by
    intro m
    induction m with
    | zero => intro i hi; exact sc_end (by omega)
    | succ m ih => intro i hi; rw [sc_go (by omega) (h i (by omega))]; exact ih _ (by omega)
  exact key _ 0 rfl
theorem upto {f : Nat → Int} {i : Nat} (h : ∀ k, k < i → f k = 0) (h0 : f i = 0) : ∀ k, k < i + 1 → f k = 0 := by
  intro k hk
  rcases Nat.eq_or_lt_of_le (Nat.le_of_lt_succ hk) with rfl | hk
  · exact h0
  · exact h k hk
theorem nA_at {e : List TNode} {i : Nat} {x : TNode} (h : e[i]? = some x) : nA e i = x := by simp [nA, List.getD, h]
theorem nodeAt_at {e : List TNode} {i : Nat} {x : TNode} (h : e[i]? = some x) : nodeAt e i = nodeF x i := by rw [nodeAt, nA_at h]
theorem exprF_len {e : List TNode} (h : inR e.length 1 16 = false) : exprF e = 2 := by rw [exprF, if_pos h]
theorem exprF_len' {e : List TNode} (h : e.length < 1 ∨ 16 < e.length) : exprF e = 2 := exprF_len (inR_not.2 (by omega))
theorem exprF_node {e : List TNode} {i : Nat} (hR : inR e.length 1 16 = true) (hi : i < e.length) (h : ∀ k, k < i → nodeAt e k = 0) (hne : nodeAt e i ≠ 0) : exprF e = nodeAt e i := by
  have hs := sc_first i 0 (Nat.zero_le _) hi (fun k _ hk => h k hk) hne
  rw [exprF, if_neg (by rw [hR]; decide), hs, if_pos hne]
theorem exprF_end {e : List TNode} (hR : inR e.length 1 16 = true) (h : ∀ k, k < e.length → nodeAt e k = 0) : exprF e = if wrongU e e.length = true ∨ szA e (e.length - 1) ≠ e.length then 1 else 0 := by
  rw [exprF, if_neg (by rw [hR]; decide), sc_none h, if_neg (by decide)]
theorem sizesL_at {e : List TNode} {i j : Nat} (h : j < i) : (sizesL e i)[j]? = some (szA e j) := by
  have h1 := sizesL_get e j i h
  have h2 : j < (sizesL e i).length := by rw [sizesL_len]; exact h
  rw [List.getElem?_eq_getElem h2]
  simp only [List.getD, List.getElem?_eq_getElem h2, Option.getD_some] at h1
  rw [h1]
theorem sizesL_succ (e : List TNode) (i : Nat) : sizesL e (i + 1) = sizesL e i ++ [szA e i] := by
  rw [szA_eq]; rfl
theorem szA_at {e : List TNode} {i : Nat} {x : TNode} (h : e[i]? = some x) (hp : nodeF x i = 0) : szA e i = if x.kind = 10 then 1 + szA e x.left.toNat else if isTwoB x.kind then 1 + (szA e x.left.toNat + szA e x.right.toNat) else 1 := by
  have hq := nodeF_parts hp
  rw [szA_eq]
  unfold sizeOf1
  simp only [nA_at h]
  split
  · rename_i h10
    rw [sizesL_get e _ i (hq.1 h10).2]
  · split
    · rename_i h2
      rw [sizesL_get e _ i (hq.2.1 h2).2.1, sizesL_get e _ i (hq.2.1 h2).2.2.2]; omega
    · rfl
theorem wrongU_at {e : List TNode} {i : Nat} {x : TNode} (h : e[i]? = some x) : wrongU e (i + 1) = (wrongU e i || if x.kind = 10 then decide (x.left ≠ (i : Int) - 1)
    else if isTwoB x.kind then decide (x.right ≠ (i : Int) - 1) || decide (x.left ≠ (i : Int) - 1 - szA e x.right.toNat) else false) := by
  rw [wrongU_step]
  unfold wrong1
  simp only [nA_at h]
theorem not_two {k : Int} (h1 : ¬ isTwoB k = true) (h2 : k ≠ 10) (h3 : 1 ≤ k) (h4 : k ≤ 10) : k ≤ 2 := by
  have : isTwoB k = false := by simpa using h1
  rw [isTwoB, inR_not] at this; omega

theorem left_of {x : TNode} {i : Nat} (h : nodeF x i = 0) (h2 : 2 < x.kind) : 0 ≤ x.left ∧ x.left.toNat < i := by
  have hq := nodeF_parts h
  by_cases h10 : x.kind = 10
  · exact hq.1 h10
  · by_cases h3 : isTwoB x.kind = true
    · exact ⟨(hq.2.1 h3).1, (hq.2.1 h3).2.1⟩
    · have := not_two h3 h10 hq.2.2.1 hq.2.2.2.1; omega
theorem upto_at {l : List Nat} {i y : Nat} (h : ∀ k, k < i → l[k]? = some k) (hy : l[i]? = some y) (e : y = i) : ∀ k, k < i + 1 → l[k]? = some k := by
  intro k hk
  rcases Nat.eq_or_lt_of_le (Nat.le_of_lt_succ hk) with rfl | hk
  · rw [hy, e]
  · exact h k hk
/-! types -/
def typesL (e : List TNode) (i : Nat) : List Int := (List.range i).map fun j => ownT (nA e j).kind
theorem typesL_len (e : List TNode) (i : Nat) : (typesL e i).length = i := by simp [typesL]
theorem typesL_at {e : List TNode} {i j : Nat} (h : j < i) : (typesL e i)[j]? = some (ownT (nA e j).kind) := by simp [typesL, h]
theorem typesL_succ (e : List TNode) (i : Nat) : typesL e (i + 1) = typesL e i ++ [ownT (nA e i).kind] := by simp [typesL, List.range_succ]
theorem exprF_zero {e : List TNode} (h : exprF e = 0) : inR e.length 1 16 = true ∧ PartsOk e e.length := by
  unfold exprF at h
  split at h
  · cases h
  split at h
  · exact absurd h (by assumption)
  · rename_i h1 h2
    exact ⟨by simpa using h1, sc_all (by simpa using h2)⟩
theorem typC_f {e : List TNode} (h : exprF e ≠ 0) : typC e = exprF e ∧ typV e = 0 := by
  have h1 : typC e = exprF e := by rw [typC, if_pos h]
  exact ⟨h1, by rw [typV, h1, if_pos h]⟩
theorem typC_b {e : List TNode} (h : exprF e = 0) (hu : typU e e.length = true) : typC e = 7 ∧ typV e = 0 := by
  have h1 : typC e = 7 := by rw [typC, if_neg (by simp [h]), if_pos hu]
  exact ⟨h1, by rw [typV, h1, if_pos (by decide)]⟩
theorem typC_k {e : List TNode} (h : exprF e = 0) (hu : typU e e.length = false) : typC e = 0 ∧ typV e = ownT (nA e (e.length - 1)).kind := by
  have h1 : typC e = 0 := by rw [typC, if_neg (by simp [h]), if_neg (by simp [hu])]
  exact ⟨h1, by rw [typV, h1, if_neg (by decide)]⟩
theorem typU_hit {e : List TNode} {i : Nat} (hi : i < e.length) (h : typBad e i = true) : typU e e.length = true := typU_mono (show i + 1 ≤ e.length by omega) (by rw [typU_step, h]; simp)
theorem typU_go {e : List TNode} {i : Nat} (hu : typU e i = false) (h : typBad e i = false) : typU e (i + 1) = false := by rw [typU_step, hu, h]; rfl

/-! the walk -/
def N1 (n : Nat) : List AV := [.int .i64 (n : Int)]
@[go_sem] theorem N1_eq (n : Nat) : N1 n = [.int .i64 (n : Int)] := rfl
@[go_sem] theorem N1_un (x : Nat) : (N1 x).map unown = N1 x := rfl
@[go_sem high] theorem N1_unL (l : List _) : unownLL (l.map N1) = l.map N1 := unownLL_map N1_un l
@[go_sem high] theorem N1_unM (l : List _) : (l.map N1).map (List.map unown) = l.map N1 := mapun N1_un l
@[go_sem] theorem N1_ownd (x) : owndL (N1 x) = true := by simp [N1, go_sem]
@[go_sem high] theorem N1_owndL (l : List _) : owndLL (l.map N1) = true := owndLL_map N1_ownd l
@[go_sem] theorem N1_ids (x) : idsL (N1 x) = [] := by simp [N1, go_sem]
@[go_sem high] theorem N1_idsL (l : List _) : (l.map N1).flatMap idsL = [] := flatids N1_ids l
theorem N1_tree (a) : ∀ x ∈ N1 a, x.tree = true := by simp [N1, go_sem]
@[go_sem high] theorem N1_treeL (l : List _) : (∀ c ∈ l.map N1, ∀ x ∈ c, AV.tree x = true) ↔ True := maptree N1_tree l
@[go_sem ↓ high] theorem tree_appE (a b : List (List AV)) : (∀ c ∈ a ++ b, ∀ x ∈ c, AV.tree x = true) ↔ (∀ c ∈ a, ∀ x ∈ c, AV.tree x = true) ∧ (∀ c ∈ b, ∀ x ∈ c, AV.tree x = true) := List.forall_mem_append
attribute [go_sem ↓ high] N1_treeL I1_treeL
theorem walkC_len {e : List TNode} : ∀ (f i : Nat) (out : List Nat), (walkC e f i out).length ≤ max out.length (17 + f) := by
  intro f
  induction f with
  | zero => intro i out; simp only [walkC]; omega
  | succ f ih =>
    intro i out
    simp only [walkC]
    split
    · omega
    · simp only [List.length_append, List.length_cons, List.length_nil]
      have h1 : (if 2 < (nA e i).kind then walkC e f (nA e i).left.toNat out else out).length ≤ 17 + f := by
        split
        · have := ih (nA e i).left.toNat out; omega
        · omega
      generalize (if 2 < (nA e i).kind then walkC e f (nA e i).left.toNat out else out) = o1 at *
      split
      · have := ih (nA e i).right.toNat o1; omega
      · omega
theorem wkF_len {e : List TNode} {i : Nat} {out : List Nat} (h : out.length ≤ 40) (hi : i < 17) : (wkF e i out).length ≤ 40 := by
  have := walkC_len (e := e) (i + 1) i out
  unfold wkF; omega
theorem wk_ne_len {l : List Nat} {n : Nat} (h : l.length ≠ n) : l ≠ List.range n := by rintro rfl; simp at h
theorem wk_ne_at {l : List Nat} {n i y : Nat} (h : l[i]? = some y) (hy : y ≠ i) : l ≠ List.range n := by
  rintro rfl
  obtain ⟨h1, h2⟩ := List.getElem?_eq_some_iff.1 h
  simp at h2; omega
theorem wk_eq {l : List Nat} {n : Nat} (hl : l.length = n) (h : ∀ k, k < l.length → l[k]? = some k) : l = List.range n := by
  apply List.ext_getElem?
  intro k
  by_cases hk : k < l.length
  · rw [h k hk, List.getElem?_range (by omega)]
  · rw [List.getElem?_eq_none (by omega), List.getElem?_eq_none (by simp; omega)]
theorem exprF_wk {e : List TNode} (hR : inR e.length 1 16 = true) (h : ∀ k, k < e.length → nodeAt e k = 0) : exprF e = if wkF e (e.length - 1) [] = List.range e.length then 0 else 1 := by
  have hl := inR_iff.1 hR
  rw [exprF_end hR h]
  have hw := wk_iff (e := e) (n := e.length) h (by omega) (by omega)
  by_cases h1 : wkF e (e.length - 1) [] = List.range e.length
  · have h2 := hw.1 h1
    rw [if_pos h1, if_neg (by rintro (h3 | h3) <;> simp_all)]
  · rw [if_neg h1, if_pos]
    by_cases h3 : wrongU e e.length = true
    · exact Or.inl h3
    · exact Or.inr fun h4 => h1 (hw.2 ⟨by simpa using h3, h4⟩)
end Go.AM

/-! ### Pf -/
set_option linter.unusedVariables false
set_option linter.unusedSimpArgs false
namespace Go.AM
theorem nS_at {p : List TStep} {i : Nat} {x : TStep} (h : p[i]? = some x) : nS p i = x := by simp [nS, List.getD, h]
@[go_sem high] theorem nlc_snoc (es : Nat) (l : List (List AV)) (c : List AV) : nlc es (l ++ [c]) = .osl es (l ++ [c]) := nlc_ne (by simp)
theorem nlc_map {α : Type} {f : α → List AV} {l : List α} (h : l ≠ []) (es : Nat) : nlc es (l.map f) = .osl es (l.map f) := nlc_ne (by simpa using h)

/-! parents -/
def nxtL (l : List Int) (par : Int) : List Int := if parF l par = 0 then l ++ [par] else l
def nxtD (l d : List Int) (par : Int) : List Int := if parF l par = 0 then d ++ [if 0 ≤ par then d.getD par.toNat 0 + 1 else 1] else d
def depsOf (l : List Int) : List Int := (List.range l.length).map fun (k : Nat) => dep l k
theorem depsOf_len (l : List Int) : (depsOf l).length = l.length := by simp [depsOf]
theorem depsOf_at {l : List Int} {k : Nat} (h : k < l.length) : (depsOf l)[k]? = some (dep l k) := by simp [depsOf, h]
theorem depsOf_get {l : List Int} {k : Nat} (h : k < l.length) : (depsOf l).getD k 0 = dep l k := by rw [List.getD, depsOf_at h]; rfl
theorem getD_last (l : List Int) (x : Int) : (l ++ [x]).getD l.length 0 = x := by simp [List.getD]
theorem dep_new {l : List Int} (hl : ParOk l) {par : Int} (h1 : -1 ≤ par) (h2 : par < l.length) : dep (l ++ [par]) l.length = if 0 ≤ par then dep l par + 1 else 1 := by
  rw [dep_eq (hl.snoc h1 h2) (Int.natCast_nonneg _) (by simp; omega), Int.toNat_natCast, getD_last]
  split
  · rw [dep_snoc hl (par.toNat + 1) par (by omega) h2 h1 h2]; omega
  · rw [dep_neg (by omega)]; rfl
theorem nxtD_deps {l : List Int} (hl : ParOk l) {par : Int} (h : parF l par = 0) : nxtD l (depsOf l) par = depsOf (l ++ [par]) := by
  obtain ⟨h1, h2, _⟩ := parF_ok h
  have hn := dep_new hl h1 h2
  rw [nxtD, if_pos h]
  conv => rhs; unfold depsOf
  rw [List.length_append, List.length_singleton, List.range_succ, List.map_append]
  congr 1
  · unfold depsOf
    apply List.map_congr_left
    intro k hk
    rw [List.mem_range] at hk
    exact (dep_snoc hl (k + 1) k (by omega) (by omega) h1 h2).symm
  · rw [List.map_singleton, hn]
    congr 1
    split
    · rw [depsOf_get (by omega)]
      rw [show ((par.toNat : Nat) : Int) = par by omega]
    · rfl
theorem nxtD_app {l : List Int} (hl : ParOk l) {par : Int} (h : parF l par = 0) : nxtD l (depsOf l) par = depsOf l ++ [dep (l ++ [par]) l.length] := by
  obtain ⟨h1, h2, _⟩ := parF_ok h
  rw [nxtD, if_pos h, dep_new hl h1 h2]
  congr 2
  split
  · rw [depsOf_get (by omega), show ((par.toNat : Nat) : Int) = par by omega]
  · rfl
theorem nxtL_app {l : List Int} {par : Int} (h : parF l par = 0) : nxtL l par = l ++ [par] := if_pos h
@[go_sem] theorem unownLL_append (a b : List (List AV)) : unownLL (a ++ b) = unownLL a ++ unownLL b := by simp [unownLL_eq]
theorem stepF_good {l : List Int} {s : TStep} (h1 : inR s.kind 1 8 = true) (h2 : alien s = false) (h3 : parF l s.par = 0) : stepF l s = if 7 < dep (l ++ [s.par]) l.length then 2 else if s.kind = 2 then nameF s.name else if s.arg < lowA s.kind ∨ highA s.kind < s.arg then 3 else if s.kind = 7 then exprF s.expr else 0 := by
  have := inR_iff.1 h1
  unfold stepF
  rw [if_neg (by rw [h2]; simp; omega), if_neg (by simp [h3])]
theorem dep_small {l : List Int} (hl : ParOk l) {a : Int} (h : a < l.length) : 0 ≤ dep l a ∧ dep l a ≤ l.length := by
  have := dep_bd hl (a + 1).toNat.succ a (by omega) h
  by_cases h0 : 0 ≤ a
  · have := this.2 h0; omega
  · rw [dep_neg (by omega)]; omega

theorem parF_not3 {l : List Int} {par : Int} (h0 : 0 < l.length) (h : ¬ parF l par = 3) : 0 ≤ par ∧ par < l.length := by
  unfold parF at h
  split at h
  · exact absurd rfl h
  · omega
/-! kids -/
theorem kidU_not {p : List TStep} {a : Int} {i : Nat} {x : TStep} (hx : p[i]? = some x) (h : ¬ (0 < i ∧ x.par = a)) : kidU p a (i + 1) = kidU p a i := by
  rw [kidU_step, nS_at hx, if_neg h, List.append_nil]
theorem kidU_yes {p : List TStep} {a : Int} {i : Nat} {x : TStep} (hx : p[i]? = some x) (h : 0 < i ∧ x.par = a) : kidU p a (i + 1) = kidU p a i ++ [(i : Int)] := by
  rw [kidU_step, nS_at hx, if_pos h]
theorem kids_len (p : List TStep) (a : Int) : (kids p a).length ≤ p.length := kidU_len p a p.length
theorem kids_end {p : List TStep} {a : Int} {i : Nat} (h : i = p.length) : kidU p a i = kids p a := by rw [h]; rfl
theorem last_at {l : List Int} (h : l ≠ []) : l[l.length - 1]? = some (lastI l) := by
  have : l.length - 1 < l.length := by have := List.length_pos_iff.2 h; omega
  rw [lastI, List.getD, List.getElem?_eq_getElem this]; rfl
theorem head_at {l : List Int} (h : l ≠ []) : l[0]? = some (headI l) := by
  cases l with
  | nil => exact absurd rfl h
  | cons x r => rfl

/-- steps that have no fault by themselves -/
structure StepsOk (p : List TStep) : Prop where
  len : 1 ≤ p.length ∧ p.length ≤ 24
  one : ∀ i, i < p.length → oneF p i = 0
theorem StepsOk.par {p : List TStep} (h : StepsOk p) : ParOk (pars p) := by
  have := ones_ok p.length (Nat.le_refl _) h.one
  rwa [List.take_of_length_le (by rw [pars_len]; exact Nat.le_refl _)] at this
theorem StepsOk.par0 {p : List TStep} (h : StepsOk p) : (nS p 0).par = -1 := by
  have h1 := parF_ok (stepF_par (h.one 0 (by have := h.len; omega)))
  simp at h1; omega
theorem StepsOk.parI {p : List TStep} (h : StepsOk p) {i : Nat} (h0 : 0 < i) (hi : i < p.length) : 0 ≤ (nS p i).par ∧ (nS p i).par < i := by
  have h1 := parF_ok (stepF_par (h.one i hi))
  have hl : ((pars p).take i).length = i := by rw [List.length_take, pars_len]; omega
  rw [hl] at h1
  exact ⟨h1.2.2 h0, h1.2.1⟩
theorem StepsOk.kids_ne {p : List TStep} (h : StepsOk p) {i : Nat} (h0 : 0 < i) (hi : i < p.length) : kids p (nS p i).par ≠ [] := by
  intro e
  have : (i : Int) ∈ kids p (nS p i).par := kids_mem.2 ⟨i, rfl, h0, hi, rfl⟩
  rw [e] at this; cases this

/-! the code of a process -/
theorem procF_len {p : List TStep} (h : inR p.length 1 24 = false) : procF p = 2 := by rw [procF, if_pos h]
theorem procF_len' {p : List TStep} (h : p.length < 1 ∨ 24 < p.length) : procF p = 2 := procF_len (inR_not.2 (by omega))
theorem procF_one {p : List TStep} {i : Nat} (hR : inR p.length 1 24 = true) (hi : i < p.length) (h : ∀ k, k < i → oneF p k = 0) (hne : oneF p i ≠ 0) : procF p = oneF p i := by
  have hs := sc_first i 0 (Nat.zero_le _) hi (fun k _ hk => h k hk) hne
  rw [procF, if_neg (by rw [hR]; decide), hs, if_pos hne]
theorem procF_shape {p : List TStep} {i : Nat} (hR : inR p.length 1 24 = true) (h1 : ∀ k, k < p.length → oneF p k = 0) (hi : i < p.length) (h : ∀ k, k < i → shapeF p k = 0) (hne : shapeF p i ≠ 0) : procF p = shapeF p i := by
  have hs := sc_first i 0 (Nat.zero_le _) hi (fun k _ hk => h k hk) hne
  rw [procF, if_neg (by rw [hR]; decide), sc_none h1, if_neg (by decide), hs, if_pos hne]
theorem procF_ty {p : List TStep} {i : Nat} (hR : inR p.length 1 24 = true) (h1 : ∀ k, k < p.length → oneF p k = 0) (h2 : ∀ k, k < p.length → shapeF p k = 0) (hi : i < p.length) (h : ∀ k, k < i → tyF p k = 0) (hne : tyF p i ≠ 0) : procF p = tyF p i := by
  have hs := sc_first i 0 (Nat.zero_le _) hi (fun k _ hk => h k hk) hne
  rw [procF, if_neg (by rw [hR]; decide), sc_none h1, if_neg (by decide), sc_none h2, if_neg (by decide), hs]
theorem procF_ok {p : List TStep} (hR : inR p.length 1 24 = true) (h1 : ∀ k, k < p.length → oneF p k = 0) (h2 : ∀ k, k < p.length → shapeF p k = 0) (h3 : ∀ k, k < p.length → tyF p k = 0) : procF p = 0 := by
  rw [procF, if_neg (by rw [hR]; decide), sc_none h1, if_neg (by decide), sc_none h2, if_neg (by decide), sc_none h3]
theorem shape_sc {p : List TStep} {i : Nat} (hi : i < p.length) (h : ∀ k, k < i → shapeF p k = 0) (hne : shapeF p i ≠ 0) : sc (shapeF p) p.length 0 = shapeF p i := sc_first i 0 (Nat.zero_le _) hi (fun k _ hk => h k hk) hne
theorem procF_shape' {p : List TStep} (hR : inR p.length 1 24 = true) (h1 : ∀ k, k < p.length → oneF p k = 0) (hne : sc (shapeF p) p.length 0 ≠ 0) : procF p = sc (shapeF p) p.length 0 := by
  rw [procF, if_neg (by rw [hR]; decide), sc_none h1, if_neg (by decide), if_pos hne]
theorem oneF_at {p : List TStep} {i : Nat} {x : TStep} (h : p[i]? = some x) : oneF p i = stepF ((pars p).take i) x := by rw [oneF, nS_at h]
theorem take_len {p : List TStep} {i : Nat} (h : i ≤ p.length) : ((pars p).take i).length = i := by rw [List.length_take, pars_len]; omega
theorem take_next {p : List TStep} {i : Nat} {x : TStep} (h : p[i]? = some x) : (pars p).take (i + 1) = (pars p).take i ++ [x.par] := by
  rw [pars_take (at_lt h), nS_at h]
/-- the parents ahead of a place -/
def parsT (p : List TStep) (i : Nat) : List Int := (pars p).take i
theorem parsT_zero (p : List TStep) : parsT p 0 = [] := by simp [parsT]
theorem parsT_len {p : List TStep} {i : Nat} (h : i ≤ p.length) : (parsT p i).length = i := take_len h
theorem parsT_next {p : List TStep} {i : Nat} {x : TStep} (h : p[i]? = some x) : parsT p (i + 1) = parsT p i ++ [x.par] := take_next h
theorem oneF_T {p : List TStep} {i : Nat} {x : TStep} (h : p[i]? = some x) : oneF p i = stepF (parsT p i) x := oneF_at h
theorem ones_T {p : List TStep} {i : Nat} (hi : i ≤ p.length) (h : ∀ k, k < i → oneF p k = 0) : ParOk (parsT p i) := ones_ok i hi h
theorem tyF_at {p : List TStep} {i : Nat} {x : TStep} (h : p[i]? = some x) : tyF p i = if typF x.cond 2 ≠ 0 then typF x.cond 2 else typF x.expr 1 := by rw [tyF, nS_at h]
theorem pars_at {p : List TStep} {i : Nat} {x : TStep} (h : p[i]? = some x) {m : Nat} (hm : i < m) : ((pars p).take m).getD i 0 = x.par := by
  simp [pars, List.getD, List.getElem?_take, hm, h]
end Go.AM

