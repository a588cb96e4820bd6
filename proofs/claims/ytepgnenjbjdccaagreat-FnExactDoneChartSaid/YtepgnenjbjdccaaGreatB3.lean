/- Joined texts: Ty Rd T1 T2 Pv S1 Px Py Pz En2 Pe Pf Pg Pc Pc2 Pc3 Pw Pc4 Pc5 Pc6 Pc7 Zd Ze. -/
import Derived.Test.YtepgnenjbjdccaaGreatB1
import Derived.Test.YtepgnenjbjdccaaGreatB2
import Derived.Test.YtepgnenjbjdccaaGreatProg
set_option linter.unusedVariables false
set_option linter.unusedSimpArgs false
namespace Go.AM
open Go.Proofs
def i2 : TInfo := ⟨(.int .i64), 1, 8, some [.int .i64 0], false⟩
theorem tyok2 : TOk1 Tryz.prog 2 i2 := tok1 Tryz.typeInfo2 rfl rfl (tz1 _ rfl rfl rfl rfl) Tryz.underlying2 (fun h => absurd h (by decide))
def i3 : TInfo := ⟨(.int .i64), 1, 8, some [.int .i64 0], false⟩
theorem tyok3 : TOk1 Tryz.prog 3 i3 := tok1 Tryz.typeInfo3 rfl rfl (tz1 _ rfl rfl rfl rfl) Tryz.underlying3 (fun h => absurd h (by decide))
def i4 : TInfo := ⟨.bool, 1, 1, some [.bool false], false⟩
theorem tyok4 : TOk1 Tryz.prog 4 i4 := tok1 Tryz.typeInfo4 rfl rfl (tz1 _ rfl rfl rfl rfl) Tryz.underlying4 (fun h => absurd h (by decide))
def i5 : TInfo := ⟨(.int .u8), 1, 1, some [.int .u8 0], false⟩
theorem tyok5 : TOk1 Tryz.prog 5 i5 := tok1 Tryz.typeInfo5 rfl rfl (tz1 _ rfl rfl rfl rfl) Tryz.underlying5 (fun h => absurd h (by decide))
def i9 : TInfo := ⟨.str, 1, 16, some [.str []], false⟩
theorem tyok9 : TOk1 Tryz.prog 9 i9 := tok1 Tryz.typeInfo9 rfl rfl (tz1 _ rfl rfl rfl rfl) Tryz.underlying9 (fun h => absurd h (by decide))
def i21 : TInfo := ⟨(.int .i32), 1, 4, some [.int .i32 0], false⟩
theorem tyok21 : TOk1 Tryz.prog 21 i21 := tok1 Tryz.typeInfo21 rfl rfl (tz1 _ rfl rfl rfl rfl) Tryz.underlying21 (fun h => absurd h (by decide))
def i22 : TInfo := ⟨(.slice 50), 1, 24, some [.nils], false⟩
theorem tyok22 : TOk1 Tryz.prog 22 i22 := tok1 Tryz.typeInfo22 rfl rfl (tz1 _ rfl rfl rfl rfl) Tryz.underlying22 (fun h => absurd h (by decide))
def i23 : TInfo := ⟨(.slice 2), 1, 24, some [.nils], false⟩
theorem tyok23 : TOk1 Tryz.prog 23 i23 := tok1 Tryz.typeInfo23 rfl rfl (tz1 _ rfl rfl rfl rfl) Tryz.underlying23 (fun h => absurd h (by decide))
def i25 : TInfo := ⟨(.struct [(0, 2), (1, 2), (2, 23), (3, 23), (4, 23)]), 5, 88, some [.int .i64 0, .int .i64 0, .nils, .nils, .nils], false⟩
theorem tyok25 : TOk1 Tryz.prog 25 i25 := tok1 Tryz.typeInfo25 rfl rfl (tz1 _ rfl rfl rfl rfl) (kstruct Tryz.underlying25 rfl) (fun h => absurd h (by decide))
def i28 : TInfo := ⟨(.struct [(0, 2), (1, 2), (2, 23), (3, 23), (4, 23)]), 5, 88, some [.int .i64 0, .int .i64 0, .nils, .nils, .nils], false⟩
theorem tyok28 : TOk1 Tryz.prog 28 i28 := tok1 Tryz.typeInfo28 rfl rfl (tz1 _ rfl rfl rfl rfl) (kstruct Tryz.underlying28 rfl) (fun h => absurd h (by decide))
def i30 : TInfo := ⟨(.struct [(0, 2), (1, 28)]), 6, 96, some [.int .i64 0, .int .i64 0, .int .i64 0, .nils, .nils, .nils], false⟩
theorem tyok30 : TOk1 Tryz.prog 30 i30 := tok1 Tryz.typeInfo30 rfl rfl (tz1 _ rfl rfl rfl rfl) (kstruct Tryz.underlying30 rfl) (fun h => absurd h (by decide))
def i32 : TInfo := ⟨(.slice 57), 1, 24, some [.nils], false⟩
theorem tyok32 : TOk1 Tryz.prog 32 i32 := tok1 Tryz.typeInfo32 rfl rfl (tz1 _ rfl rfl rfl rfl) Tryz.underlying32 (fun h => absurd h (by decide))
def i48 : TInfo := ⟨(.slice 100), 1, 24, some [.nils], false⟩
theorem tyok48 : TOk1 Tryz.prog 48 i48 := tok1 Tryz.typeInfo48 rfl rfl (tz1 _ rfl rfl rfl rfl) Tryz.underlying48 (fun h => absurd h (by decide))
def i50 : TInfo := ⟨(.struct [(0, 2), (1, 2), (2, 9), (3, 2), (4, 48), (5, 48)]), 6, 88, some [.int .i64 0, .int .i64 0, .str [], .int .i64 0, .nils, .nils], false⟩
theorem tyok50 : TOk1 Tryz.prog 50 i50 := tok1 Tryz.typeInfo50 rfl rfl (tz1 _ rfl rfl rfl rfl) (kstruct Tryz.underlying50 rfl) (fun h => absurd h (by decide))
def i52 : TInfo := ⟨(.pointer 28), 1, 8, some [.nilp], false⟩
theorem tyok52 : TOk1 Tryz.prog 52 i52 := tok1 Tryz.typeInfo52 rfl rfl (tz1 _ rfl rfl rfl rfl) Tryz.underlying52 (fun h => absurd h (by decide))
def i55 : TInfo := ⟨(.slice 90), 1, 24, some [.nils], false⟩
theorem tyok55 : TOk1 Tryz.prog 55 i55 := tok1 Tryz.typeInfo55 rfl rfl (tz1 _ rfl rfl rfl rfl) Tryz.underlying55 (fun h => absurd h (by decide))
def i57 : TInfo := ⟨(.struct [(0, 2), (1, 2), (2, 9), (3, 2), (4, 55), (5, 55)]), 6, 88, some [.int .i64 0, .int .i64 0, .str [], .int .i64 0, .nils, .nils], false⟩
theorem tyok57 : TOk1 Tryz.prog 57 i57 := tok1 Tryz.typeInfo57 rfl rfl (tz1 _ rfl rfl rfl rfl) (kstruct Tryz.underlying57 rfl) (fun h => absurd h (by decide))
def i64 : TInfo := ⟨(.pointer 67), 1, 8, some [.nilp], false⟩
theorem tyok64 : TOk1 Tryz.prog 64 i64 := tok1 Tryz.typeInfo64 rfl rfl (tz1 _ rfl rfl rfl rfl) Tryz.underlying64 (fun h => absurd h (by decide))
def i67 : TInfo := ⟨(.struct [(0, 32), (1, 28)]), 6, 112, some [.nils, .int .i64 0, .int .i64 0, .nils, .nils, .nils], false⟩
theorem tyok67 : TOk1 Tryz.prog 67 i67 := tok1 Tryz.typeInfo67 rfl rfl (tz1 _ rfl rfl rfl rfl) (kstruct Tryz.underlying67 rfl) (fun h => absurd h (by decide))
def i88 : TInfo := ⟨(.slice 5), 1, 24, some [.nils], false⟩
theorem tyok88 : TOk1 Tryz.prog 88 i88 := tok1 Tryz.typeInfo88 rfl rfl (tz1 _ rfl rfl rfl rfl) Tryz.underlying88 (fun h => absurd h (by decide))
def i90 : TInfo := ⟨(.struct [(0, 2), (1, 2), (2, 2), (3, 2)]), 4, 32, some [.int .i64 0, .int .i64 0, .int .i64 0, .int .i64 0], true⟩
theorem tyok90 : TOk1 Tryz.prog 90 i90 := tok1 Tryz.typeInfo90 rfl rfl (tz1 _ rfl rfl rfl rfl) (kstruct Tryz.underlying90 rfl) (fun _ => flatEq (fs := [{ name := "Kind", type := 2, offset := 0, embedded := false, tag := "", pkgPath := "", byteOffset := 0 }, { name := "Value", type := 2, offset := 1, embedded := false, tag := "", pkgPath := "", byteOffset := 8 }, { name := "Left", type := 2, offset := 2, embedded := false, tag := "", pkgPath := "", byteOffset := 16 }, { name := "Right", type := 2, offset := 3, embedded := false, tag := "", pkgPath := "", byteOffset := 24 }]) (by kernel_rfl) (by kernel_rfl) (by kernel_rfl) (by kernel_rfl) rfl (by intro j f h; match j, h with | 0, h => (cases h; exact ⟨rfl, by decide, Tryz.underlying2⟩) | 1, h => (cases h; exact ⟨rfl, by decide, Tryz.underlying2⟩) | 2, h => (cases h; exact ⟨rfl, by decide, Tryz.underlying2⟩) | 3, h => (cases h; exact ⟨rfl, by decide, Tryz.underlying2⟩) | (n + 4), h => simp at h))
def i100 : TInfo := ⟨(.struct [(0, 2), (1, 2), (2, 2), (3, 2)]), 4, 32, some [.int .i64 0, .int .i64 0, .int .i64 0, .int .i64 0], true⟩
theorem tyok100 : TOk1 Tryz.prog 100 i100 := tok1 Tryz.typeInfo100 rfl rfl (tz1 _ rfl rfl rfl rfl) (kstruct Tryz.underlying100 rfl) (fun _ => flatEq (fs := [{ name := "Kind", type := 2, offset := 0, embedded := false, tag := "", pkgPath := "", byteOffset := 0 }, { name := "Value", type := 2, offset := 1, embedded := false, tag := "", pkgPath := "", byteOffset := 8 }, { name := "Left", type := 2, offset := 2, embedded := false, tag := "", pkgPath := "", byteOffset := 16 }, { name := "Right", type := 2, offset := 3, embedded := false, tag := "", pkgPath := "", byteOffset := 24 }]) (by kernel_rfl) (by kernel_rfl) (by kernel_rfl) (by kernel_rfl) rfl (by intro j f h; match j, h with | 0, h => (cases h; exact ⟨rfl, by decide, Tryz.underlying2⟩) | 1, h => (cases h; exact ⟨rfl, by decide, Tryz.underlying2⟩) | 2, h => (cases h; exact ⟨rfl, by decide, Tryz.underlying2⟩) | 3, h => (cases h; exact ⟨rfl, by decide, Tryz.underlying2⟩) | (n + 4), h => simp at h))
def i101 : TInfo := ⟨(.pointer 103), 1, 8, some [.nilp], false⟩
theorem tyok101 : TOk1 Tryz.prog 101 i101 := tok1 Tryz.typeInfo101 rfl rfl (tz1 _ rfl rfl rfl rfl) Tryz.underlying101 (fun h => absurd h (by decide))
def i103 : TInfo := ⟨(.struct [(0, 23), (1, 23)]), 2, 48, some [.nils, .nils], false⟩
theorem tyok103 : TOk1 Tryz.prog 103 i103 := tok1 Tryz.typeInfo103 rfl rfl (tz1 _ rfl rfl rfl rfl) (kstruct Tryz.underlying103 rfl) (fun h => absurd h (by decide))
def i109 : TInfo := ⟨(.pointer 57), 1, 8, some [.nilp], false⟩
theorem tyok109 : TOk1 Tryz.prog 109 i109 := tok1 Tryz.typeInfo109 rfl rfl (tz1 _ rfl rfl rfl rfl) Tryz.underlying109 (fun h => absurd h (by decide))
def i121 : TInfo := ⟨(.struct [(0, 2), (1, 2)]), 2, 16, some [.int .i64 0, .int .i64 0], true⟩
theorem tyok121 : TOk1 Tryz.prog 121 i121 := tok1 Tryz.typeInfo121 rfl rfl (tz1 _ rfl rfl rfl rfl) (kstruct Tryz.underlying121 rfl) (fun _ => flatEq (fs := [{ name := "Code", type := 2, offset := 0, embedded := false, tag := "", pkgPath := "", byteOffset := 0 }, { name := "Value", type := 2, offset := 1, embedded := false, tag := "", pkgPath := "", byteOffset := 8 }]) (by kernel_rfl) (by kernel_rfl) (by kernel_rfl) (by kernel_rfl) rfl (by intro j f h; match j, h with | 0, h => (cases h; exact ⟨rfl, by decide, Tryz.underlying2⟩) | 1, h => (cases h; exact ⟨rfl, by decide, Tryz.underlying2⟩) | (n + 2), h => simp at h))
def i124 : TInfo := ⟨(.pointer 90), 1, 8, some [.nilp], false⟩
theorem tyok124 : TOk1 Tryz.prog 124 i124 := tok1 Tryz.typeInfo124 rfl rfl (tz1 _ rfl rfl rfl rfl) Tryz.underlying124 (fun h => absurd h (by decide))
def i139 : TInfo := ⟨(.int .u32), 1, 4, some [.int .u32 0], false⟩
theorem tyok139 : TOk1 Tryz.prog 139 i139 := tok1 Tryz.typeInfo139 rfl rfl (tz1 _ rfl rfl rfl rfl) Tryz.underlying139 (fun h => absurd h (by decide))
def i143 : TInfo := ⟨(.pointer 5), 1, 8, some [.nilp], false⟩
theorem tyok143 : TOk1 Tryz.prog 143 i143 := tok1 Tryz.typeInfo143 rfl rfl (tz1 _ rfl rfl rfl rfl) Tryz.underlying143 (fun h => absurd h (by decide))
def ti : TI := tiAdd 2 i2 (tiAdd 3 i3 (tiAdd 4 i4 (tiAdd 5 i5 (tiAdd 9 i9 (tiAdd 21 i21 (tiAdd 22 i22 (tiAdd 23 i23 (tiAdd 25 i25 (tiAdd 28 i28 (tiAdd 30 i30 (tiAdd 32 i32 (tiAdd 48 i48 (tiAdd 50 i50 (tiAdd 52 i52 (tiAdd 55 i55 (tiAdd 57 i57 (tiAdd 64 i64 (tiAdd 67 i67 (tiAdd 88 i88 (tiAdd 90 i90 (tiAdd 100 i100 (tiAdd 101 i101 (tiAdd 103 i103 (tiAdd 109 i109 (tiAdd 121 i121 (tiAdd 124 i124 (tiAdd 139 i139 (tiAdd 143 i143 (fun _ => none)))))))))))))))))))))))))))))
theorem tiOk : TOk Tryz.prog ti := tok_add tyok2 (tok_add tyok3 (tok_add tyok4 (tok_add tyok5 (tok_add tyok9 (tok_add tyok21 (tok_add tyok22 (tok_add tyok23 (tok_add tyok25 (tok_add tyok28 (tok_add tyok30 (tok_add tyok32 (tok_add tyok48 (tok_add tyok50 (tok_add tyok52 (tok_add tyok55 (tok_add tyok57 (tok_add tyok64 (tok_add tyok67 (tok_add tyok88 (tok_add tyok90 (tok_add tyok100 (tok_add tyok101 (tok_add tyok103 (tok_add tyok109 (tok_add tyok121 (tok_add tyok124 (tok_add tyok139 (tok_add tyok143 (tok_nil)))))))))))))))))))))))))))))
@[go_sem] theorem ti_2 : ti 2 = some ⟨(.int .i64), 1, 8, some [.int .i64 0], false⟩ := rfl
@[go_sem] theorem ti_3 : ti 3 = some ⟨(.int .i64), 1, 8, some [.int .i64 0], false⟩ := rfl
@[go_sem] theorem ti_4 : ti 4 = some ⟨.bool, 1, 1, some [.bool false], false⟩ := rfl
@[go_sem] theorem ti_5 : ti 5 = some ⟨(.int .u8), 1, 1, some [.int .u8 0], false⟩ := rfl
@[go_sem] theorem ti_9 : ti 9 = some ⟨.str, 1, 16, some [.str []], false⟩ := rfl
@[go_sem] theorem ti_21 : ti 21 = some ⟨(.int .i32), 1, 4, some [.int .i32 0], false⟩ := rfl
@[go_sem] theorem ti_22 : ti 22 = some ⟨(.slice 50), 1, 24, some [.nils], false⟩ := rfl
@[go_sem] theorem ti_23 : ti 23 = some ⟨(.slice 2), 1, 24, some [.nils], false⟩ := rfl
@[go_sem] theorem ti_25 : ti 25 = some ⟨(.struct [(0, 2), (1, 2), (2, 23), (3, 23), (4, 23)]), 5, 88, some [.int .i64 0, .int .i64 0, .nils, .nils, .nils], false⟩ := rfl
@[go_sem] theorem ti_28 : ti 28 = some ⟨(.struct [(0, 2), (1, 2), (2, 23), (3, 23), (4, 23)]), 5, 88, some [.int .i64 0, .int .i64 0, .nils, .nils, .nils], false⟩ := rfl
@[go_sem] theorem ti_30 : ti 30 = some ⟨(.struct [(0, 2), (1, 28)]), 6, 96, some [.int .i64 0, .int .i64 0, .int .i64 0, .nils, .nils, .nils], false⟩ := rfl
@[go_sem] theorem ti_32 : ti 32 = some ⟨(.slice 57), 1, 24, some [.nils], false⟩ := rfl
@[go_sem] theorem ti_48 : ti 48 = some ⟨(.slice 100), 1, 24, some [.nils], false⟩ := rfl
@[go_sem] theorem ti_50 : ti 50 = some ⟨(.struct [(0, 2), (1, 2), (2, 9), (3, 2), (4, 48), (5, 48)]), 6, 88, some [.int .i64 0, .int .i64 0, .str [], .int .i64 0, .nils, .nils], false⟩ := rfl
@[go_sem] theorem ti_52 : ti 52 = some ⟨(.pointer 28), 1, 8, some [.nilp], false⟩ := rfl
@[go_sem] theorem ti_55 : ti 55 = some ⟨(.slice 90), 1, 24, some [.nils], false⟩ := rfl
@[go_sem] theorem ti_57 : ti 57 = some ⟨(.struct [(0, 2), (1, 2), (2, 9), (3, 2), (4, 55), (5, 55)]), 6, 88, some [.int .i64 0, .int .i64 0, .str [], .int .i64 0, .nils, .nils], false⟩ := rfl
@[go_sem] theorem ti_64 : ti 64 = some ⟨(.pointer 67), 1, 8, some [.nilp], false⟩ := rfl
@[go_sem] theorem ti_67 : ti 67 = some ⟨(.struct [(0, 32), (1, 28)]), 6, 112, some [.nils, .int .i64 0, .int .i64 0, .nils, .nils, .nils], false⟩ := rfl
@[go_sem] theorem ti_88 : ti 88 = some ⟨(.slice 5), 1, 24, some [.nils], false⟩ := rfl
@[go_sem] theorem ti_90 : ti 90 = some ⟨(.struct [(0, 2), (1, 2), (2, 2), (3, 2)]), 4, 32, some [.int .i64 0, .int .i64 0, .int .i64 0, .int .i64 0], true⟩ := rfl
@[go_sem] theorem ti_100 : ti 100 = some ⟨(.struct [(0, 2), (1, 2), (2, 2), (3, 2)]), 4, 32, some [.int .i64 0, .int .i64 0, .int .i64 0, .int .i64 0], true⟩ := rfl
@[go_sem] theorem ti_101 : ti 101 = some ⟨(.pointer 103), 1, 8, some [.nilp], false⟩ := rfl
@[go_sem] theorem ti_103 : ti 103 = some ⟨(.struct [(0, 23), (1, 23)]), 2, 48, some [.nils, .nils], false⟩ := rfl
@[go_sem] theorem ti_109 : ti 109 = some ⟨(.pointer 57), 1, 8, some [.nilp], false⟩ := rfl
@[go_sem] theorem ti_121 : ti 121 = some ⟨(.struct [(0, 2), (1, 2)]), 2, 16, some [.int .i64 0, .int .i64 0], true⟩ := rfl
@[go_sem] theorem ti_124 : ti 124 = some ⟨(.pointer 90), 1, 8, some [.nilp], false⟩ := rfl
@[go_sem] theorem ti_139 : ti 139 = some ⟨(.int .u32), 1, 4, some [.int .u32 0], false⟩ := rfl
@[go_sem] theorem ti_143 : ti 143 = some ⟨(.pointer 5), 1, 8, some [.nilp], false⟩ := rfl
section
variable {st : St} {K : Exit → St → Prop} {id : Nat} {ops : Array Oper} {draw : Bool} {y : Code} {K' : Exit → St → Prop}
theorem rg (ks : List Nat) (h : ∀ k : St → Prop, (∀ s, AW Tryz.prog y s K → k s) → opsGo Tryz.prog ti (fun _ => []) ops 0 ops.toList st (fun es s => Chk draw ops es ∧ k (s.keep ks)) .mk) : AW Tryz.prog (.seq (.region id ops draw) y) st K := AW.reg tiOk _ ks h
theorem rgN (ks : List Nat) (hK : ∀ s, AW Tryz.prog y s K' → K .normal s) (h : ∀ k : St → Prop, (∀ s, AW Tryz.prog y s K' → k s) → opsGo Tryz.prog ti (fun _ => []) ops 0 ops.toList st (fun es s => Chk draw ops es ∧ k (s.keep ks)) .mk) : AW Tryz.prog (.region id ops draw) st K := AW.regN tiOk _ ks hK h
theorem rgN0 (ks : List Nat) (hK : ∀ s, AW Tryz.prog y s K' → K .normal s) (h : ∀ k : St → Prop, (∀ s, AW Tryz.prog y s K' → k s) → opsGo Tryz.prog ti (fun _ => []) ops 0 ops.toList st (fun es s => Chk draw ops es ∧ k (s.keep0 ks)) .mk) : AW Tryz.prog (.region id ops draw) st K := AW.regN0 tiOk _ ks hK h
theorem rgK (h : ∀ k : St → Prop, (∀ s, K .normal s → k s) → opsGo Tryz.prog ti (fun _ => []) ops 0 ops.toList st (fun es s => Chk draw ops es ∧ k s) .mk) : AW Tryz.prog (.region id ops draw) st K := AW.regK tiOk _ h
theorem rgA (ks : List Nat) {st' : St} (h : AW Tryz.prog y st' K) (h2 : ∀ k : St → Prop, k st' → opsGo Tryz.prog ti (fun _ => []) ops 0 ops.toList st (fun es s => Chk draw ops es ∧ k (s.keep ks)) .mk := by (intro k hk; simp -dsimp (maxSteps := 2000000) [go_sem, -decide_eq_true_eq, -decide_eq_false_iff_not]; repeat' first | apply And.intro | exact hk | intro hg | omega | exact True.intro)) : AW Tryz.prog (.seq (.region id ops draw) y) st K := AW.reg tiOk _ ks fun k hk => h2 k (hk _ h)
theorem rgNA (ks : List Nat) {st' : St} (hK : ∀ s, AW Tryz.prog y s K' → K .normal s) (h : AW Tryz.prog y st' K') (h2 : ∀ k : St → Prop, k st' → opsGo Tryz.prog ti (fun _ => []) ops 0 ops.toList st (fun es s => Chk draw ops es ∧ k (s.keep ks)) .mk := by (intro k hk; simp -dsimp (maxSteps := 2000000) [go_sem, -decide_eq_true_eq, -decide_eq_false_iff_not]; repeat' first | apply And.intro | exact hk | intro hg | omega | exact True.intro)) : AW Tryz.prog (.region id ops draw) st K := AW.regN tiOk _ ks hK fun k hk => h2 k (hk _ h)
theorem rgKA {st' : St} (h : K .normal st') (h2 : ∀ k : St → Prop, k st' → opsGo Tryz.prog ti (fun _ => []) ops 0 ops.toList st (fun es s => Chk draw ops es ∧ k s) .mk := by (intro k hk; simp -dsimp (maxSteps := 2000000) [go_sem, -decide_eq_true_eq, -decide_eq_false_iff_not]; repeat' first | apply And.intro | exact hk | intro hg | omega | exact True.intro)) : AW Tryz.prog (.region id ops draw) st K := AW.regK tiOk _ fun k hk => h2 k (hk _ h)
theorem rgE (ow : Nat → List Nat) (h : ∀ k : St → Prop, (∀ s, (∃ _ : True, K .normal s) → k s) → opsGo Tryz.prog ti ow ops 0 ops.toList st (fun es s => Chk draw ops es ∧ k s) .mk) : AW Tryz.prog (.region id ops draw) st K := AW.regK tiOk ow fun k hk => h k fun s hs => hs.elim fun _ h => hk s h
theorem rt {rs : List ResultVar} {ow : List Nat} {muts : List (Nat × AV)} {res : AV} (h : (muts.all fun q => match st.slot q.1 with | some x => !isFn x | none => true) = true ∧ finOk ti rs ow muts st res)
    (hk : (muts.all fun q => match st.slot q.1 with | some x => !isFn x | none => true) = true ∧ finOk ti rs ow muts st res → K .ret st := by exact fun h => And.intro (.inr rfl) h) : AW Tryz.prog .ret st K := AW.retF h hk
end
end Go.AM
namespace Go.AM
open Go.Proofs
open Go.ChangeShapes Go.WideShapes Go.RowKit
abbrev rd_2 := Rd.int (t := 2) (cellsOf_of tiOk ti_2) Tryz.underlying2
abbrev rd_9 := Rd.str (t := 9) (cellsOf_of tiOk ti_9) Tryz.underlying9
theorem rd_100 : Rd Tryz.prog 100 TNode TNode.ro (fun _ => True) 4 := by
  refine ⟨cellsOf_of tiOk ti_100, ?_⟩
  intro H enc w base spare held fuel cs x h
  obtain ⟨xs, n, rfl, rfl, hl, hn, hf⟩ := DataW.trod_struct Tryz.underlying100 h
  have hl : cs.length = 4 := by rw [hl]; exact cellsOf_of tiOk ti_100
  have e0 : DataW.trod enc Tryz.prog w base spare held n 2 ((cs.drop 0).take (Tryz.prog.cellsOf 2)) = xs[0]? := hf 0 _ rfl
  obtain ⟨y0, hy0⟩ : ∃ y, xs[0]? = some y := ⟨xs[0]'(by rw [hn]; decide), List.getElem?_eq_getElem _⟩
  rw [hy0, rd_2.size] at e0
  obtain ⟨a0, o0, r0, _⟩ := rd_2.read enc w base spare held n _ _ e0
  have e1 : DataW.trod enc Tryz.prog w base spare held n 2 ((cs.drop 1).take (Tryz.prog.cellsOf 2)) = xs[1]? := hf 1 _ rfl
  obtain ⟨y1, hy1⟩ : ∃ y, xs[1]? = some y := ⟨xs[1]'(by rw [hn]; decide), List.getElem?_eq_getElem _⟩
  rw [hy1, rd_2.size] at e1
  obtain ⟨a1, o1, r1, _⟩ := rd_2.read enc w base spare held n _ _ e1
  have e2 : DataW.trod enc Tryz.prog w base spare held n 2 ((cs.drop 2).take (Tryz.prog.cellsOf 2)) = xs[2]? := hf 2 _ rfl
  obtain ⟨y2, hy2⟩ : ∃ y, xs[2]? = some y := ⟨xs[2]'(by rw [hn]; decide), List.getElem?_eq_getElem _⟩
  rw [hy2, rd_2.size] at e2
  obtain ⟨a2, o2, r2, _⟩ := rd_2.read enc w base spare held n _ _ e2
  have e3 : DataW.trod enc Tryz.prog w base spare held n 2 ((cs.drop 3).take (Tryz.prog.cellsOf 2)) = xs[3]? := hf 3 _ rfl
  obtain ⟨y3, hy3⟩ : ∃ y, xs[3]? = some y := ⟨xs[3]'(by rw [hn]; decide), List.getElem?_eq_getElem _⟩
  rw [hy3, rd_2.size] at e3
  obtain ⟨a3, o3, r3, _⟩ := rd_2.read enc w base spare held n _ _ e3
  refine ⟨⟨a0, a1, a2, a3⟩, trivial, ?_, hl⟩
  exact RdC.cons (o := 0) (s := 1) r0 (RdC.cons (o := 1) (s := 1) r1 (RdC.cons (o := 2) (s := 1) r2 (RdC.cons (o := 3) (s := 1) r3 (RdC.nil (List.drop_eq_nil_of_le (show cs.length ≤ 4 by omega))))))
abbrev rd_48 := Rd.slice (t := 48) rd_100 (by decide) (cellsOf_of tiOk ti_48) Tryz.underlying48
theorem rd_50 : Rd Tryz.prog 50 TStep TStep.ro TStep.gok 6 := by
  refine ⟨cellsOf_of tiOk ti_50, ?_⟩
  intro H enc w base spare held fuel cs x h
  obtain ⟨xs, n, rfl, rfl, hl, hn, hf⟩ := DataW.trod_struct Tryz.underlying50 h
  have hl : cs.length = 6 := by rw [hl]; exact cellsOf_of tiOk ti_50
  have e0 : DataW.trod enc Tryz.prog w base spare held n 2 ((cs.drop 0).take (Tryz.prog.cellsOf 2)) = xs[0]? := hf 0 _ rfl
  obtain ⟨y0, hy0⟩ : ∃ y, xs[0]? = some y := ⟨xs[0]'(by rw [hn]; decide), List.getElem?_eq_getElem _⟩
  rw [hy0, rd_2.size] at e0
  obtain ⟨a0, o0, r0, _⟩ := rd_2.read enc w base spare held n _ _ e0
  have e1 : DataW.trod enc Tryz.prog w base spare held n 2 ((cs.drop 1).take (Tryz.prog.cellsOf 2)) = xs[1]? := hf 1 _ rfl
  obtain ⟨y1, hy1⟩ : ∃ y, xs[1]? = some y := ⟨xs[1]'(by rw [hn]; decide), List.getElem?_eq_getElem _⟩
  rw [hy1, rd_2.size] at e1
  obtain ⟨a1, o1, r1, _⟩ := rd_2.read enc w base spare held n _ _ e1
  have e2 : DataW.trod enc Tryz.prog w base spare held n 9 ((cs.drop 2).take (Tryz.prog.cellsOf 9)) = xs[2]? := hf 2 _ rfl
  obtain ⟨y2, hy2⟩ : ∃ y, xs[2]? = some y := ⟨xs[2]'(by rw [hn]; decide), List.getElem?_eq_getElem _⟩
  rw [hy2, rd_9.size] at e2
  obtain ⟨a2, o2, r2, _⟩ := rd_9.read enc w base spare held n _ _ e2
  have e3 : DataW.trod enc Tryz.prog w base spare held n 2 ((cs.drop 3).take (Tryz.prog.cellsOf 2)) = xs[3]? := hf 3 _ rfl
  obtain ⟨y3, hy3⟩ : ∃ y, xs[3]? = some y := ⟨xs[3]'(by rw [hn]; decide), List.getElem?_eq_getElem _⟩
  rw [hy3, rd_2.size] at e3
  obtain ⟨a3, o3, r3, _⟩ := rd_2.read enc w base spare held n _ _ e3
  have e4 : DataW.trod enc Tryz.prog w base spare held n 48 ((cs.drop 4).take (Tryz.prog.cellsOf 48)) = xs[4]? := hf 4 _ rfl
  obtain ⟨y4, hy4⟩ : ∃ y, xs[4]? = some y := ⟨xs[4]'(by rw [hn]; decide), List.getElem?_eq_getElem _⟩
  rw [hy4, rd_48.size] at e4
  obtain ⟨a4, o4, r4, _⟩ := rd_48.read enc w base spare held n _ _ e4
  have e5 : DataW.trod enc Tryz.prog w base spare held n 48 ((cs.drop 5).take (Tryz.prog.cellsOf 48)) = xs[5]? := hf 5 _ rfl
  obtain ⟨y5, hy5⟩ : ∃ y, xs[5]? = some y := ⟨xs[5]'(by rw [hn]; decide), List.getElem?_eq_getElem _⟩
  rw [hy5, rd_48.size] at e5
  obtain ⟨a5, o5, r5, _⟩ := rd_48.read enc w base spare held n _ _ e5
  refine ⟨⟨a0, a1, a2, a3, a4, a5⟩, ⟨o2, o4.1, o5.1⟩, ?_, hl⟩
  exact RdC.cons (o := 0) (s := 1) r0 (RdC.cons (o := 1) (s := 1) r1 (RdC.cons (o := 2) (s := 1) r2 (RdC.cons (o := 3) (s := 1) r3 (RdC.cons (o := 4) (s := 1) r4 (RdC.cons (o := 5) (s := 1) r5 (RdC.nil (List.drop_eq_nil_of_le (show cs.length ≤ 6 by omega))))))))
abbrev rd_22 := Rd.slice (t := 22) rd_50 (by decide) (cellsOf_of tiOk ti_22) Tryz.underlying22
abbrev rd_23 := Rd.slice (t := 23) rd_2 (by decide) (cellsOf_of tiOk ti_23) Tryz.underlying23
theorem rd_25 : Rd Tryz.prog 25 TChart TChart.ro TChart.gok 5 := by
  refine ⟨cellsOf_of tiOk ti_25, ?_⟩
  intro H enc w base spare held fuel cs x h
  obtain ⟨xs, n, rfl, rfl, hl, hn, hf⟩ := DataW.trod_struct Tryz.underlying25 h
  have hl : cs.length = 5 := by rw [hl]; exact cellsOf_of tiOk ti_25
  have e0 : DataW.trod enc Tryz.prog w base spare held n 2 ((cs.drop 0).take (Tryz.prog.cellsOf 2)) = xs[0]? := hf 0 _ rfl
  obtain ⟨y0, hy0⟩ : ∃ y, xs[0]? = some y := ⟨xs[0]'(by rw [hn]; decide), List.getElem?_eq_getElem _⟩
  rw [hy0, rd_2.size] at e0
  obtain ⟨a0, o0, r0, _⟩ := rd_2.read enc w base spare held n _ _ e0
  have e1 : DataW.trod enc Tryz.prog w base spare held n 2 ((cs.drop 1).take (Tryz.prog.cellsOf 2)) = xs[1]? := hf 1 _ rfl
  obtain ⟨y1, hy1⟩ : ∃ y, xs[1]? = some y := ⟨xs[1]'(by rw [hn]; decide), List.getElem?_eq_getElem _⟩
  rw [hy1, rd_2.size] at e1
  obtain ⟨a1, o1, r1, _⟩ := rd_2.read enc w base spare held n _ _ e1
  have e2 : DataW.trod enc Tryz.prog w base spare held n 23 ((cs.drop 2).take (Tryz.prog.cellsOf 23)) = xs[2]? := hf 2 _ rfl
  obtain ⟨y2, hy2⟩ : ∃ y, xs[2]? = some y := ⟨xs[2]'(by rw [hn]; decide), List.getElem?_eq_getElem _⟩
  rw [hy2, rd_23.size] at e2
  obtain ⟨a2, o2, r2, _⟩ := rd_23.read enc w base spare held n _ _ e2
  have e3 : DataW.trod enc Tryz.prog w base spare held n 23 ((cs.drop 3).take (Tryz.prog.cellsOf 23)) = xs[3]? := hf 3 _ rfl
  obtain ⟨y3, hy3⟩ : ∃ y, xs[3]? = some y := ⟨xs[3]'(by rw [hn]; decide), List.getElem?_eq_getElem _⟩
  rw [hy3, rd_23.size] at e3
  obtain ⟨a3, o3, r3, _⟩ := rd_23.read enc w base spare held n _ _ e3
  have e4 : DataW.trod enc Tryz.prog w base spare held n 23 ((cs.drop 4).take (Tryz.prog.cellsOf 23)) = xs[4]? := hf 4 _ rfl
  obtain ⟨y4, hy4⟩ : ∃ y, xs[4]? = some y := ⟨xs[4]'(by rw [hn]; decide), List.getElem?_eq_getElem _⟩
  rw [hy4, rd_23.size] at e4
  obtain ⟨a4, o4, r4, _⟩ := rd_23.read enc w base spare held n _ _ e4
  refine ⟨⟨a0, a1, a2, a3, a4⟩, ⟨o2.1, o3.1, o4.1⟩, ?_, hl⟩
  exact RdC.cons (o := 0) (s := 1) r0 (RdC.cons (o := 1) (s := 1) r1 (RdC.cons (o := 2) (s := 1) r2 (RdC.cons (o := 3) (s := 1) r3 (RdC.cons (o := 4) (s := 1) r4 (RdC.nil (List.drop_eq_nil_of_le (show cs.length ≤ 5 by omega)))))))
end Go.AM
set_option maxHeartbeats 600000
set_option maxRecDepth 100000
namespace Go.AM
open Go.Proofs
theorem dc_laws_szInt64S (l : List Int) (z : Int) (hz : 0 ≤ z ∧ z ≤ 1048576) (hl : l.length ≤ 9223372036854775807) : DC Tryz.prog 27 [.isl 1 (l.map I1), .int .i64 z] (.int .i64 (subz z l.length)) [] := by
 have hw : IntKind.wrap .i64 (z - (l.length : Int)) = z - (l.length : Int) := wrap64 (by omega) (by omega)
 refine DC.intro tiOk Tryz.func27 rfl rfl rfl rfl rfl rfl rfl rfl [] ?_
 refine rg [0,1] ?_
 intro k hk; simp -dsimp [go_sem, -decide_eq_true_eq, -decide_eq_false_iff_not, hw]
 repeat' first | apply And.intro | refine hk _ ?_ | intro hg | omega | exact True.intro
 all_goals clear hk k
 refine rg [1] ?_
 intro k hk; simp -dsimp [go_sem, -decide_eq_true_eq, -decide_eq_false_iff_not, hw]
 repeat' first | apply And.intro | refine hk _ ?_ | intro hg | omega | exact True.intro
 all_goals clear hk k
 refine AW.seq ?_
 refine rg [1,10] ?_
 intro k hk; simp -dsimp [go_sem, -decide_eq_true_eq, -decide_eq_false_iff_not, hw]
 repeat' first | apply And.intro | refine hk _ ?_ | intro hg | omega | exact True.intro
 all_goals clear hk k
 refine AW.cond rfl ?_ ?_
 ·intro hc; try simp at hc
  all_goals (
   refine rg [4] ?_
   intro k hk; simp -dsimp [go_sem, -decide_eq_true_eq, -decide_eq_false_iff_not, hw]
   repeat' first | apply And.intro | refine hk _ ?_ | intro hg | omega | exact True.intro
   all_goals clear hk k
   refine rt ?_
   simp [go_sem, Tryz.results27]; unfold subz; split <;> omega)
 ·intro hc; try simp at hc
  all_goals (
   refine AW.skipN (fun _ h => h) ?_
   refine rg [4] ?_
   intro k hk; simp -dsimp [go_sem, -decide_eq_true_eq, -decide_eq_false_iff_not, hw]
   repeat' first | apply And.intro | refine hk _ ?_ | intro hg | omega | exact True.intro
   all_goals clear hk k
   refine rt ?_
   simp [go_sem, Tryz.results27]; unfold subz; split <;> omega)
theorem dc_laws_toInt64S (l : List Int) (hl : l.length ≤ 1048576) : DC Tryz.prog 20 [.isl 1 (l.map I1)] (.osl 1 (l.map I1)) [] := by
 have idz : ∀ i, (fill I1 [.int .i64 0] l i).flatMap idsL = [] := fun i => fill_ids (by intro x; simp [go_sem]) (by simp [go_sem])
 refine DC.intro tiOk Tryz.func20 rfl rfl rfl rfl rfl rfl rfl rfl [1000] ?_
 refine rgA [0] ?_
 refine rgA [0,3] ?_
 refine AW.seq ?_
 refine rgA [0,3,4] ?_
 refine AW.block ?_
 refine AW.loopI (fun i : Nat => ⟨22, [(0, .isl 1 (l.map I1)), (3, .sl 7 1 0 l.length), (4, .int .i64 i)], [(7, some ⟨1, fill I1 [.int .i64 0] l i⟩)]⟩) (fun i => i ≤ l.length) (fun i => l.length - i) (0) (by simp) (Less.of rfl (by simp [go_sem]) (by simp [go_sem, fill_zero])) ?_
 rintro i hi
 refine AW.seq ?_
 refine rgA [0,3,4,11] ?_
 refine AW.cond rfl ?_ ?_
 ·intro hc; try simp at hc
  all_goals (
   have hlt : i < l.length := by assumption
   obtain ⟨x, hx⟩ := at_some hlt
   have hf := fill_len (f := I1) (z := [.int .i64 0]) hi
   have hf2 := fill_at (f := I1) (z := [.int .i64 0]) hlt
   refine AW.skipN (fun _ h => h) ?_
   refine AW.seq ?_
   refine AW.block ?_
   refine rgN [0,3,4] (fun _ h => h) ?_
   intro k hk; simp -dsimp (maxSteps := 2000000) [go_sem, -decide_eq_true_eq, -decide_eq_false_iff_not, hx, hf, hf2, idz]
   repeat' first | apply And.intro | refine hk _ ?_ | intro hg | omega | exact True.intro
   all_goals clear hk k
   refine rgK ?_
   intro k hk; simp -dsimp [go_sem, -decide_eq_true_eq, -decide_eq_false_iff_not, hx, hf, hf2, idz]
   repeat' first | apply And.intro | refine hk _ ?_ | intro hg | omega | exact True.intro
   all_goals clear hk k
   show ∃ _, _
   have hw := wrapi hlt (by omega)
   have hs := fill_set (f := I1) (z := [.int .i64 0]) hx
   simp [go_sem] at hs
   refine ⟨i + 1, by omega, by omega, Less.of rfl (by simp [go_sem, hw]) (by simp [go_sem, List.set_set, ← hs])⟩)
 ·intro hc; try simp at hc
  all_goals (
   refine AW.exitN (fun _ h => h) ?_
   refine rgA [2] ?_
   refine rt ?_
   have he := fill_end (f := I1) (z := [.int .i64 0]) (show l.length ≤ i by omega); simp [go_sem, Tryz.results20, he])
theorem dc_laws_eqInt64S (a b : List Int) (ha : a.length ≤ 9223372036854775807) : DC Tryz.prog 22 [.isl 1 (a.map I1), .isl 1 (b.map I1)] (.bool (decide (a = b))) [] := by
 refine DC.intro tiOk Tryz.func22 rfl rfl rfl rfl rfl rfl rfl rfl [] ?_
 refine rgA [0,1] ?_
 refine AW.seq ?_
 refine rgA [0,1,10] ?_
 refine AW.cond rfl ?_ ?_
 ·intro hc; try simp at hc
  all_goals (
   refine rgA [4] ?_
   refine rt ?_
   first | (rw [eq_ne_at hx hy (by first | assumption | (intro e; subst e; omega))]; simp [go_sem, Tryz.results22]; done) | (rw [eq_end (by omega) hinv (by omega)]; simp [go_sem, Tryz.results22]; done) | (rw [eq_ne_len (by omega)]; simp [go_sem, Tryz.results22]))
 ·intro hc; try simp at hc
  all_goals (
   refine AW.skipN (fun _ h => h) ?_
   refine AW.seq ?_
   refine rgA [0,1,5] ?_
   refine AW.block ?_
   refine AW.loopI (fun i : Nat => ⟨26, [(0, .isl 1 (a.map I1)), (1, .isl 1 (b.map I1)), (5, .int .i64 i)], []⟩) (fun i => i ≤ a.length ∧ a.take i = b.take i) (fun i => a.length - i) (0) (by simp) (Less.of rfl (by simp [go_sem]) (by simp [go_sem])) ?_
   rintro i ⟨hi, hinv⟩
   refine AW.seq ?_
   refine rgA [0,1,5,14] ?_
   refine AW.cond rfl ?_ ?_
   ·intro hc; try simp at hc
    all_goals (
     have hlt : i < a.length := by assumption
     obtain ⟨x, hx⟩ := at_some hlt
     obtain ⟨y, hy⟩ := at_some (l := b) (show i < b.length by omega)
     have hla := at_lt hy
     refine AW.skipN (fun _ h => h) ?_
     refine AW.seq ?_
     refine AW.block ?_
     refine rg [0,1,5,25] ?_
     intro k hk; simp -dsimp (maxSteps := 2000000) [go_sem, -decide_eq_true_eq, -decide_eq_false_iff_not, hx, hy]
     repeat' first | (refine Chk.keys ?_; simp only [go_sem, List.map_cons, List.map_nil, List.flatMap_cons, List.flatMap_nil, List.flatMap_append, List.append_nil, List.nil_append, List.cons_append]; decide +kernel) | apply And.intro | refine hk _ ?_ | intro hg | omega | exact True.intro
     all_goals clear hk k
     refine AW.cond rfl ?_ ?_
     ·intro hc; try simp at hc
      all_goals (
       refine rg [4] ?_
       intro k hk; simp -dsimp [go_sem, -decide_eq_true_eq, -decide_eq_false_iff_not, hx, hy]
       repeat' first | apply And.intro | refine hk _ ?_ | intro hg | omega | exact True.intro
       all_goals clear hk k
       refine rt ?_
       first | (rw [eq_ne_at hx hy (by first | assumption | (intro e; subst e; omega))]; simp [go_sem, Tryz.results22]; done) | (rw [eq_end (by omega) hinv (by omega)]; simp [go_sem, Tryz.results22]; done) | (rw [eq_ne_len (by omega)]; simp [go_sem, Tryz.results22]))
     ·intro hc; try simp at hc
      all_goals (
       refine AW.skipN (fun _ h => h) ?_
       refine rgK ?_
       intro k hk; simp -dsimp [go_sem, -decide_eq_true_eq, -decide_eq_false_iff_not, hx, hy]
       repeat' first | apply And.intro | refine hk _ ?_ | intro hg | omega | exact True.intro
       all_goals clear hk k
       show ∃ _, _
       have hw := wrapi hlt (by omega)
       refine ⟨i + 1, ⟨by omega, take_step hx hy (by first | assumption | (apply UInt8.toNat_inj.1; omega)) hinv⟩, by omega, Less.of rfl (by simp [go_sem, hw]) (by simp [go_sem])⟩))
   ·intro hc; try simp at hc
    all_goals (
     refine AW.exitN (fun _ h => h) ?_
     refine rgA [4] ?_
     refine rt ?_
     first | (rw [eq_ne_at hx hy (by first | assumption | (intro e; subst e; omega))]; simp [go_sem, Tryz.results22]; done) | (rw [eq_end (by omega) hinv (by omega)]; simp [go_sem, Tryz.results22]; done) | (rw [eq_ne_len (by omega)]; simp [go_sem, Tryz.results22])))
theorem dc_laws_szChart (x : TChart) (z : Int) (hz : 0 ≤ z ∧ z ≤ 1048576) (hg : x.gok) : DC Tryz.prog 7 [.agg x.ro, .int .i64 z] (.int .i64 (subz z x.sz)) [] := by
 have hg' := hg
 unfold TChart.gok at hg'
 obtain ⟨h2, h3, h4⟩ := hg'
 refine DC.intro tiOk Tryz.func7 rfl rfl rfl rfl rfl rfl rfl rfl [] ?_
 refine rgA [1,2] ?_
 refine rg [1,2] ?_
 intro k hk; simp -dsimp (maxSteps := 2000000) [go_sem, -decide_eq_true_eq, -decide_eq_false_iff_not]
 repeat' first | apply And.intro | refine hk _ ?_ | intro hg | (refine CallK.intro (dc_laws_szInt64S _ _ (by constructor <;> first | omega | grind [subz]) (by first | assumption | (constructor <;> assumption))) ?_; simp -dsimp (maxSteps := 2000000) [go_sem, -decide_eq_true_eq, -decide_eq_false_iff_not]) | omega | exact True.intro
 all_goals clear hk k
 refine AW.seq ?_
 refine rgA [1,2,10] ?_
 refine AW.cond rfl ?_ ?_
 ·intro hc; try simp [subz_neg, subz_nn] at hc
  all_goals (
   refine rgA [4] ?_
   refine rt ?_
   simp [go_sem, Tryz.results7]; simp only [subz, TChart.sz] at * <;> grind)
 ·intro hc; try simp [subz_neg, subz_nn] at hc
  all_goals (
   refine AW.skipN (fun _ h => h) ?_
   refine rg [1,2] ?_
   intro k hk; simp -dsimp (maxSteps := 2000000) [go_sem, -decide_eq_true_eq, -decide_eq_false_iff_not]
   repeat' first | apply And.intro | refine hk _ ?_ | intro hg | (refine CallK.intro (dc_laws_szInt64S _ _ (by constructor <;> first | omega | grind [subz]) (by first | assumption | (constructor <;> assumption))) ?_; simp -dsimp (maxSteps := 2000000) [go_sem, -decide_eq_true_eq, -decide_eq_false_iff_not]) | omega | exact True.intro
   all_goals clear hk k
   refine AW.seq ?_
   refine rgA [1,2,16] ?_
   refine AW.cond rfl ?_ ?_
   ·intro hc; try simp [subz_neg, subz_nn] at hc
    all_goals (
     refine rgA [4] ?_
     refine rt ?_
     simp [go_sem, Tryz.results7]; simp only [subz, TChart.sz] at * <;> grind)
   ·intro hc; try simp [subz_neg, subz_nn] at hc
    all_goals (
     refine AW.skipN (fun _ h => h) ?_
     refine rg [1] ?_
     intro k hk; simp -dsimp (maxSteps := 2000000) [go_sem, -decide_eq_true_eq, -decide_eq_false_iff_not]
     repeat' first | apply And.intro | refine hk _ ?_ | intro hg | (refine CallK.intro (dc_laws_szInt64S _ _ (by constructor <;> first | omega | grind [subz]) (by first | assumption | (constructor <;> assumption))) ?_; simp -dsimp (maxSteps := 2000000) [go_sem, -decide_eq_true_eq, -decide_eq_false_iff_not]) | omega | exact True.intro
     all_goals clear hk k
     refine AW.seq ?_
     refine rgA [1,22] ?_
     refine AW.cond rfl ?_ ?_
     ·intro hc; try simp [subz_neg, subz_nn] at hc
      all_goals (
       refine rgA [4] ?_
       refine rt ?_
       simp [go_sem, Tryz.results7]; simp only [subz, TChart.sz] at * <;> grind)
     ·intro hc; try simp [subz_neg, subz_nn] at hc
      all_goals (
       refine AW.skipN (fun _ h => h) ?_
       refine rgA [4] ?_
       refine rt ?_
       simp [go_sem, Tryz.results7]; simp only [subz, TChart.sz] at * <;> grind)))
theorem dc_laws_toChart (x : TChart) (hs : x.sz ≤ 1048576) : DC Tryz.prog 10 [.agg x.ro] (.agg [.int .i64 x.status, .int .i64 x.now, .osl 1 (x.vars.map I1), .osl 1 (x.acts.map I1), .osl 1 (x.dues.map I1)]) [] := by
 unfold TChart.sz at hs
 have h2 : x.vars.length ≤ 1048576 := by omega
 have h3 : x.acts.length ≤ 1048576 := by omega
 have h4 : x.dues.length ≤ 1048576 := by omega
 refine DC.intro tiOk Tryz.func10 rfl rfl rfl rfl rfl rfl rfl rfl [1000] ?_
 refine rgA [1,2] ?_
 refine rgA [1,2,3] ?_
 refine rgA [1,2,3] ?_
 refine rgA [1,2,3] ?_
 refine rg [1,2,3] ?_
 intro k hk; simp -dsimp (maxSteps := 2000000) [go_sem, -decide_eq_true_eq, -decide_eq_false_iff_not]
 repeat' first | apply And.intro | refine hk _ ?_ | intro hg | (refine CallK.intro (dc_laws_toInt64S _ (by assumption)) ?_; simp -dsimp (maxSteps := 2000000) [go_sem, -decide_eq_true_eq, -decide_eq_false_iff_not]) | omega | exact True.intro
 all_goals clear hk k
 refine rg [1,2,3] ?_
 intro k hk; simp -dsimp (maxSteps := 2000000) [go_sem, -decide_eq_true_eq, -decide_eq_false_iff_not]
 repeat' first | apply And.intro | refine hk _ ?_ | intro hg | (refine CallK.intro (dc_laws_toInt64S _ (by assumption)) ?_; simp -dsimp (maxSteps := 2000000) [go_sem, -decide_eq_true_eq, -decide_eq_false_iff_not]) | omega | exact True.intro
 all_goals clear hk k
 refine rg [2,3] ?_
 intro k hk; simp -dsimp (maxSteps := 2000000) [go_sem, -decide_eq_true_eq, -decide_eq_false_iff_not]
 repeat' first | apply And.intro | refine hk _ ?_ | intro hg | (refine CallK.intro (dc_laws_toInt64S _ (by assumption)) ?_; simp -dsimp (maxSteps := 2000000) [go_sem, -decide_eq_true_eq, -decide_eq_false_iff_not]) | omega | exact True.intro
 all_goals clear hk k
 refine rgA [2] ?_
 refine rt ?_
 simp [go_sem, Tryz.results10]
theorem dc_laws_eqChart (a b : TChart) (hg : a.gok) : DC Tryz.prog 14 [.agg a.ro, .agg b.ro] (.bool (decide (a = b))) [] := by
 obtain ⟨h0, h1, h2⟩ := hg
 refine DC.intro tiOk Tryz.func14 rfl rfl rfl rfl rfl rfl rfl rfl [] ?_
 refine rgA [2,3] ?_
 refine AW.seq ?_
 refine rgA [2,3,9] ?_
 refine AW.cond rfl ?_ ?_
 ·intro hc; try simp at hc
  all_goals (
   refine rgA [4] ?_
   refine rt ?_
   cases a; cases b; simp [go_sem, Tryz.results14] at *; simp [*])
 ·intro hc; try simp at hc
  all_goals (
   refine AW.skipN (fun _ h => h) ?_
   refine AW.seq ?_
   refine rgA [2,3,14] ?_
   refine AW.cond rfl ?_ ?_
   ·intro hc; try simp at hc
    all_goals (
     refine rgA [4] ?_
     refine rt ?_
     cases a; cases b; simp [go_sem, Tryz.results14] at *; simp [*])
   ·intro hc; try simp at hc
    all_goals (
     refine AW.skipN (fun _ h => h) ?_
     refine AW.seq ?_
     refine rg [2,3,20] ?_
     intro k hk; simp -dsimp (maxSteps := 2000000) [go_sem, -decide_eq_true_eq, -decide_eq_false_iff_not]
     repeat' first | apply And.intro | refine hk _ ?_ | intro hg | (refine CallK.intro (dc_laws_eqInt64S _ _ (by assumption)) ?_; simp -dsimp (maxSteps := 2000000) [go_sem, -decide_eq_true_eq, -decide_eq_false_iff_not]) | omega | exact True.intro
     all_goals clear hk k
     refine AW.cond rfl ?_ ?_
     ·intro hc; try simp at hc
      all_goals (
       refine rgA [4] ?_
       refine rt ?_
       cases a; cases b; simp [go_sem, Tryz.results14] at *; simp [*])
     ·intro hc; try simp at hc
      all_goals (
       refine AW.skipN (fun _ h => h) ?_
       refine AW.seq ?_
       refine rg [2,3,26] ?_
       intro k hk; simp -dsimp (maxSteps := 2000000) [go_sem, -decide_eq_true_eq, -decide_eq_false_iff_not]
       repeat' first | apply And.intro | refine hk _ ?_ | intro hg | (refine CallK.intro (dc_laws_eqInt64S _ _ (by assumption)) ?_; simp -dsimp (maxSteps := 2000000) [go_sem, -decide_eq_true_eq, -decide_eq_false_iff_not]) | omega | exact True.intro
       all_goals clear hk k
       refine AW.cond rfl ?_ ?_
       ·intro hc; try simp at hc
        all_goals (
         refine rgA [4] ?_
         refine rt ?_
         cases a; cases b; simp [go_sem, Tryz.results14] at *; simp [*])
       ·intro hc; try simp at hc
        all_goals (
         refine AW.skipN (fun _ h => h) ?_
         refine AW.seq ?_
         refine rg [32] ?_
         intro k hk; simp -dsimp (maxSteps := 2000000) [go_sem, -decide_eq_true_eq, -decide_eq_false_iff_not]
         repeat' first | apply And.intro | refine hk _ ?_ | intro hg | (refine CallK.intro (dc_laws_eqInt64S _ _ (by assumption)) ?_; simp -dsimp (maxSteps := 2000000) [go_sem, -decide_eq_true_eq, -decide_eq_false_iff_not]) | omega | exact True.intro
         all_goals clear hk k
         refine AW.cond rfl ?_ ?_
         ·intro hc; try simp at hc
          all_goals (
           refine rgA [4] ?_
           refine rt ?_
           cases a; cases b; simp [go_sem, Tryz.results14] at *; simp [*])
         ·intro hc; try simp at hc
          all_goals (
           refine AW.skipN (fun _ h => h) ?_
           refine rgA [4] ?_
           refine rt ?_
           cases a; cases b; simp [go_sem, Tryz.results14] at *; simp [*])))))
end Go.AM
namespace Go.AM
open Go.Proofs
end Go.AM
namespace Go.AM
def inR (n lo hi : Int) : Bool := decide (lo ≤ n) && decide (n ≤ hi)
theorem inR_iff {n lo hi : Int} : inR n lo hi = true ↔ lo ≤ n ∧ n ≤ hi := by simp [inR]
theorem inR_not {n lo hi : Int} : inR n lo hi = false ↔ ¬ (lo ≤ n ∧ n ≤ hi) := by rw [← inR_iff]; simp
def isP (c : UInt8) : Bool := decide (32 ≤ (c.toNat : Int)) && decide ((c.toNat : Int) ≤ 126)
theorem all_take {α : Type} {s : List α} {p : α → Bool} {i : Nat} {x : α} (hx : s[i]? = some x) (h : (s.take i).all p = true) : (s.take (i + 1)).all p = p x := by
 rw [List.take_add_one, List.all_append, h, hx]; simp
theorem all_not {α : Type} {s : List α} {p : α → Bool} {i : Nat} {x : α} (hx : s[i]? = some x) (h : p x = false) : s.all p = false := by
 rw [List.all_eq_false]; exact ⟨x, List.mem_of_getElem? hx, by simp [h]⟩
theorem all_end {α : Type} {s : List α} {p : α → Bool} {i : Nat} (hi : s.length ≤ i) (h : (s.take i).all p = true) : s.all p = true := by rwa [List.take_of_length_le hi] at h
def firstC (l : List Int) : Int := (l.find? (fun n => decide (n ≠ 0))).getD 0
theorem firstC_step {l : List Int} {i : Nat} {x : Int} (h : l[i]? = some x) : firstC (l.drop i) = if x = 0 then firstC (l.drop (i + 1)) else x := by
 obtain ⟨hi, hx⟩ := List.getElem?_eq_some_iff.1 h
 rw [List.drop_eq_getElem_cons hi, hx]
 unfold firstC
 by_cases h0 : x = 0
 ·simp [h0]
 ·simp [h0]
theorem firstC_end {l : List Int} {i : Nat} (h : l.length ≤ i) : firstC (l.drop i) = 0 := by
 rw [List.drop_eq_nil_of_le h]; rfl
theorem firstC_nil : firstC [] = 0 := rfl
theorem firstC_cons (x : Int) (l : List Int) : firstC (x :: l) = if x = 0 then firstC l else x := by
 unfold firstC
 by_cases h0 : x = 0
 ·simp [h0]
 ·simp [h0]
def lineF (s : List UInt8) : Int := if s.length < 1 ∨ 40 < s.length then 2 else if s.all isP then 0 else 5
def idxF {α : Type} (p : α → Bool) : List α → Nat → Int
 | [], _ => -1
 | x :: r, i => if p x then i else idxF p r (i + 1)
theorem idxF_step {α : Type} {p : α → Bool} {l : List α} {i : Nat} {x : α} (h : l[i]? = some x) : idxF p (l.drop i) i = if p x then (i : Int) else idxF p (l.drop (i + 1)) (i + 1) := by
 obtain ⟨hi, hx⟩ := List.getElem?_eq_some_iff.1 h
 rw [List.drop_eq_getElem_cons hi, hx]; rfl
theorem idxF_end {α : Type} {p : α → Bool} {l : List α} {i : Nat} (h : l.length ≤ i) : idxF p (l.drop i) i = -1 := by rw [List.drop_eq_nil_of_le h]; rfl
theorem idxF_any {α : Type} {p : α → Bool} : ∀ (l : List α) (i : Nat), decide (0 ≤ idxF p l i) = l.any p := by
 intro l
 induction l with
 | nil => intro i; simp [idxF]
 | cons x l ih =>
  intro i
  simp only [idxF, List.any_cons]
  by_cases hp : p x = true
  ·simp [hp]
  ·simpa [hp] using ih (i + 1)
def small (n : Int) : Bool := inR n (-1000000) 1000000
def varsF (l : List Int) : Int := if l.length ≠ 4 then 2 else if l.all small then 0 else 3
theorem varsF_eq (l : List Int) : firstC [if (!decide ((l.length : Int) = 4)) = true then 2 else 0, if (l.any fun n => !small n) = true then 3 else 0] = varsF l := by
 simp only [firstC_cons, firstC_nil, varsF]
 have e : (l.any fun n => !small n) = !l.all small := by simp [List.all_eq_not_any_not]
 rw [e]
 by_cases h : l.length = 4
 ·have h2 : (l.length : Int) = 4 := by omega
  by_cases hs : l.all small = true
  ·simp [h, h2, hs]
  ·simp [h, h2, hs]
 ·have h2 : ¬ (l.length : Int) = 4 := by omega
  simp [h, h2]
end Go.AM
namespace Go.AM
open Go.Proofs
theorem dc_impl_codeIf (b : Bool) (n : Int) : DC Tryz.prog 36 [.bool b, .int .i64 n] (.int .i64 (if b then n else 0)) [] := by
 refine DC.intro tiOk Tryz.func36 rfl rfl rfl rfl rfl rfl rfl rfl [] ?_
 refine rgA [0,1] ?_
 refine AW.seq ?_
 refine rgA [1,5] ?_
 refine AW.cond rfl ?_ ?_
 ·intro hc; try simp at hc
  all_goals (
   refine rgA [4] ?_
   refine rt ?_
   simp [go_sem, *, Tryz.results36])
 ·intro hc; try simp at hc
  all_goals (
   refine AW.skipN (fun _ h => h) ?_
   refine rgA [4] ?_
   refine rt ?_
   simp [go_sem, *, Tryz.results36])
theorem dc_impl_inRange (n lo hi : Int) : DC Tryz.prog 37 [.int .i64 n, .int .i64 lo, .int .i64 hi] (.bool (inR n lo hi)) [] := by
 refine DC.intro tiOk Tryz.func37 rfl rfl rfl rfl rfl rfl rfl rfl [] ?_
 refine rgA [0,1,2] ?_
 refine rg [6] ?_
 intro k hk; simp +contextual -dsimp (maxSteps := 2000000) [go_sem, -decide_eq_true_eq, -decide_eq_false_iff_not]
 repeat' first | apply And.intro | refine hk _ ?_ | (intro hg; try simp only [decide_eq_true_eq, decide_eq_false_iff_not] at hg) | omega | exact True.intro
 all_goals clear hk k
 all_goals (
  refine rt ?_
  simp [go_sem, *, inR, Tryz.results37, -decide_eq_true_eq, -decide_eq_false_iff_not])
theorem dc_spec_l1In (n lo hi : Int) : DC Tryz.prog 30 [.int .i64 n, .int .i64 lo, .int .i64 hi] (.bool (inR n lo hi)) [] := by
 refine DC.intro tiOk Tryz.func30 rfl rfl rfl rfl rfl rfl rfl rfl [] ?_
 refine rgA [0,1,2] ?_
 refine rg [6] ?_
 intro k hk; simp +contextual -dsimp (maxSteps := 2000000) [go_sem, -decide_eq_true_eq, -decide_eq_false_iff_not]
 repeat' first | apply And.intro | refine hk _ ?_ | (intro hg; try simp only [decide_eq_true_eq, decide_eq_false_iff_not] at hg) | omega | exact True.intro
 all_goals clear hk k
 all_goals (
  refine rt ?_
  simp [go_sem, *, inR, Tryz.results30, -decide_eq_true_eq, -decide_eq_false_iff_not])
theorem dc_impl_areAll (f : Nat) (p : UInt8 → Bool) (hf : ∀ c : UInt8, DC Tryz.prog f [.int .u8 c.toNat] (.bool (p c)) []) (s : List UInt8) (hs : s.length ≤ 9223372036854775807) : DC Tryz.prog 121 [.str s, .fn f []] (.bool (s.all p)) [] := by
 refine DC.intro tiOk Tryz.func121 rfl rfl rfl rfl rfl rfl rfl rfl [] ?_
 refine rgA [0,1] ?_
 refine AW.seq ?_
 refine rgA [0,1,7,8] ?_
 refine AW.block ?_
 refine AW.loopI (fun i : Nat => ⟨18, [(0, .str s), (1, .fn f []), (7, .int .i64 s.length), (8, .int .i64 i)], []⟩) (fun i => i ≤ s.length ∧ (s.take i).all p = true) (fun i => s.length - i) (0) (by simp) (Less.of rfl (by simp [go_sem]) (by simp [go_sem])) ?_
 rintro i ⟨hi, hall⟩
 refine rgA [0,1,7,8,9] ?_
 refine AW.seq ?_
 refine AW.cond rfl ?_ ?_
 ·intro hc; try simp at hc
  all_goals (
   have hlt : i < s.length := by assumption
   obtain ⟨x, hx⟩ := at_some hlt
   refine AW.skipN (fun _ h => h) ?_
   refine AW.seq ?_
   refine AW.block ?_
   refine rg [0,1,5,7,8] ?_
   intro k hk; simp -dsimp [go_sem, -decide_eq_true_eq, -decide_eq_false_iff_not, hx]
   repeat' first | apply And.intro | refine hk _ ?_ | intro hg | omega | exact True.intro
   all_goals clear hk k
   refine rg [0,1,7,8,16] ?_
   intro k hk; simp -dsimp (maxSteps := 2000000) [go_sem, -decide_eq_true_eq, -decide_eq_false_iff_not, hx]
   repeat' first | apply And.intro | refine hk _ ?_ | intro hg | (refine CallK.intro (hf x) ?_; simp -dsimp (maxSteps := 2000000) [go_sem, -decide_eq_true_eq, -decide_eq_false_iff_not, hx]) | omega | exact True.intro
   all_goals clear hk k
   refine AW.cond rfl ?_ ?_
   ·intro hc; try simp at hc
    all_goals (
     refine rg [4] ?_
     intro k hk; simp -dsimp [go_sem, -decide_eq_true_eq, -decide_eq_false_iff_not, hx]
     repeat' first | apply And.intro | refine hk _ ?_ | intro hg | omega | exact True.intro
     all_goals clear hk k
     refine rt ?_
     first | (have hr := all_not (p := p) hx (by assumption); simp [go_sem, Tryz.results121, hr]) | (have hr := all_end (show s.length ≤ i by omega) hall; simp [go_sem, Tryz.results121, hr]))
   ·intro hc; try simp at hc
    all_goals (
     refine AW.skipN (fun _ h => h) ?_
     refine rgK ?_
     intro k hk; simp -dsimp [go_sem, -decide_eq_true_eq, -decide_eq_false_iff_not, hx]
     repeat' first | apply And.intro | refine hk _ ?_ | intro hg | omega | exact True.intro
     all_goals clear hk k
     show ∃ _, _
     have hw := wrapi hlt hs
     refine ⟨i + 1, ⟨by omega, ?_⟩, by omega, Less.of rfl (by simp [go_sem, hw]) (by simp [go_sem])⟩
     rw [all_take hx hall]; assumption))
 ·intro hc; try simp at hc
  all_goals (
   refine AW.exitN (fun _ h => h) ?_
   refine rgA [4] ?_
   refine rt ?_
   first | (have hr := all_not (p := p) hx (by assumption); simp [go_sem, Tryz.results121, hr]) | (have hr := all_end (show s.length ≤ i by omega) hall; simp [go_sem, Tryz.results121, hr]))
theorem dc_impl_firstCode (l : List Int) (hl : l.length ≤ 9223372036854775807) : DC Tryz.prog 34 [.isl 1 (l.map I1)] (.int .i64 (firstC l)) [] := by
 refine DC.intro tiOk Tryz.func34 rfl rfl rfl rfl rfl rfl rfl rfl [] ?_
 refine rgA [0] ?_
 refine AW.seq ?_
 refine rgA [5,6,7] ?_
 refine AW.block ?_
 refine AW.loopI (fun i : Nat => ⟨15, [(5, .isl 1 (l.map I1)), (6, .int .i64 l.length), (7, .int .i64 i)], []⟩) (fun i => i ≤ l.length ∧ firstC l = firstC (l.drop i)) (fun i => l.length - i) (0) (by simp) (Less.of rfl (by simp [go_sem]) (by simp [go_sem])) ?_
 rintro i ⟨hi, hinv⟩
 refine rgA [5,6,7,8] ?_
 refine AW.seq ?_
 refine AW.cond rfl ?_ ?_
 ·intro hc; try simp at hc
  all_goals (
   have hlt : i < l.length := by assumption
   obtain ⟨x, hx⟩ := at_some hlt
   refine AW.skipN (fun _ h => h) ?_
   refine AW.seq ?_
   refine AW.block ?_
   refine rg [4,5,6,7] ?_
   intro k hk; simp -dsimp [go_sem, -decide_eq_true_eq, -decide_eq_false_iff_not, hx]
   repeat' first | apply And.intro | refine hk _ ?_ | intro hg | omega | exact True.intro
   all_goals clear hk k
   refine rg [4,5,6,7,12] ?_
   intro k hk; simp -dsimp [go_sem, -decide_eq_true_eq, -decide_eq_false_iff_not, hx]
   repeat' first | apply And.intro | refine hk _ ?_ | intro hg | omega | exact True.intro
   all_goals clear hk k
   refine AW.cond rfl ?_ ?_
   ·intro hc; try simp at hc
    all_goals (
     refine rg [2] ?_
     intro k hk; simp -dsimp [go_sem, -decide_eq_true_eq, -decide_eq_false_iff_not, hx]
     repeat' first | apply And.intro | refine hk _ ?_ | intro hg | omega | exact True.intro
     all_goals clear hk k
     refine rt ?_
     first | (simp [go_sem, Tryz.results34, hinv, firstC_step hx, *]; done) | (simp [go_sem, Tryz.results34, hinv, firstC_end (show l.length ≤ i by omega)]))
   ·intro hc; try simp at hc
    all_goals (
     refine AW.skipN (fun _ h => h) ?_
     refine rgK ?_
     intro k hk; simp -dsimp [go_sem, -decide_eq_true_eq, -decide_eq_false_iff_not, hx]
     repeat' first | apply And.intro | refine hk _ ?_ | intro hg | omega | exact True.intro
     all_goals clear hk k
     show ∃ _, _
     have hw := wrapi hlt hl
     refine ⟨i + 1, ⟨by omega, ?_⟩, by omega, Less.of rfl (by simp [go_sem, hw]) (by simp [go_sem])⟩
     rw [hinv, firstC_step hx, if_pos (by assumption)]))
 ·intro hc; try simp at hc
  all_goals (
   refine AW.exitN (fun _ h => h) ?_
   refine rgA [2] ?_
   refine rt ?_
   first | (simp [go_sem, Tryz.results34, hinv, firstC_step hx, *]; done) | (simp [go_sem, Tryz.results34, hinv, firstC_end (show l.length ≤ i by omega)]))
theorem dc_slices_IndexFunc_int64_int64 (f : Nat) (caps : List AV) (p : Int → Bool) (l : List Int) (hf : ∀ x ∈ l, DC Tryz.prog f ([.int .i64 x] ++ caps) (.bool (p x)) []) (hl : l.length ≤ 9223372036854775807) (hcap : caps = []) : DC Tryz.prog 93 [.isl 1 (l.map I1), .fn f caps] (.int .i64 (idxF p l 0)) [] := by
 subst hcap
 refine DC.intro tiOk Tryz.func93 rfl rfl rfl rfl rfl rfl rfl rfl [] ?_
 refine rgA [0,1] ?_
 refine AW.seq ?_
 refine rgA [0,1,7,8] ?_
 refine AW.block ?_
 refine AW.loopI (fun i : Nat => ⟨19, [(0, .isl 1 (l.map I1)), (1, .fn f []), (7, .int .i64 l.length), (8, .int .i64 i)], []⟩) (fun i => i ≤ l.length ∧ idxF p l 0 = idxF p (l.drop i) i) (fun i => l.length - i) (0) (by simp) (Less.of rfl (by simp [go_sem]) (by simp [go_sem])) ?_
 rintro i ⟨hi, hinv⟩
 refine rgA [0,1,7,8,9] ?_
 refine AW.seq ?_
 refine AW.cond rfl ?_ ?_
 ·intro hc; try simp at hc
  all_goals (
   have hlt : i < l.length := by assumption
   obtain ⟨x, hx⟩ := at_some hlt
   refine AW.skipN (fun _ h => h) ?_
   refine AW.seq ?_
   refine AW.block ?_
   refine rg [0,1,5,7,8] ?_
   intro k hk; simp -dsimp [go_sem, -decide_eq_true_eq, -decide_eq_false_iff_not, hx]
   repeat' first | apply And.intro | refine hk _ ?_ | intro hg | omega | exact True.intro
   all_goals clear hk k
   refine rg [0,1,5,7,8,16] ?_
   intro k hk; simp -dsimp (maxSteps := 2000000) [go_sem, -decide_eq_true_eq, -decide_eq_false_iff_not, hx]
   repeat' first | apply And.intro | refine hk _ ?_ | intro hg | (refine CallK.intro (hf x (List.mem_of_getElem? hx)) ?_; simp -dsimp (maxSteps := 2000000) [go_sem, -decide_eq_true_eq, -decide_eq_false_iff_not, hx]) | omega | exact True.intro
   all_goals clear hk k
   refine AW.cond rfl ?_ ?_
   ·intro hc; try simp at hc
    all_goals (
     refine rg [4] ?_
     intro k hk; simp -dsimp [go_sem, -decide_eq_true_eq, -decide_eq_false_iff_not, hx]
     repeat' first | apply And.intro | refine hk _ ?_ | intro hg | omega | exact True.intro
     all_goals clear hk k
     refine rt ?_
     first | (rw [hinv, idxF_step hx, if_pos (by assumption)]; simp [go_sem, Tryz.results93]; done) | (rw [hinv, idxF_end (by omega)]; simp [go_sem, Tryz.results93]))
   ·intro hc; try simp at hc
    all_goals (
     refine AW.skipN (fun _ h => h) ?_
     refine rgK ?_
     intro k hk; simp -dsimp [go_sem, -decide_eq_true_eq, -decide_eq_false_iff_not, hx]
     repeat' first | apply And.intro | refine hk _ ?_ | intro hg | omega | exact True.intro
     all_goals clear hk k
     show ∃ _, _
     have hw := wrapi hlt hl
     refine ⟨i + 1, ⟨by omega, ?_⟩, by omega, Less.of rfl (by simp [go_sem, hw]) (by simp [go_sem])⟩
     rw [hinv, idxF_step hx, if_neg (by simp [*])]))
 ·intro hc; try simp at hc
  all_goals (
   refine AW.exitN (fun _ h => h) ?_
   refine rgA [4] ?_
   refine rt ?_
   first | (rw [hinv, idxF_step hx, if_pos (by assumption)]; simp [go_sem, Tryz.results93]; done) | (rw [hinv, idxF_end (by omega)]; simp [go_sem, Tryz.results93]))
theorem dc_slices_ContainsFunc_int64_int64 (f : Nat) (p : Int → Bool) (l : List Int) (hf : ∀ x ∈ l, DC Tryz.prog f ([.int .i64 x] ++ []) (.bool (p x)) []) (hl : l.length ≤ 9223372036854775807) : DC Tryz.prog 70 [.isl 1 (l.map I1), .fn f []] (.bool (l.any p)) [] := by
 refine DC.intro tiOk Tryz.func70 rfl rfl rfl rfl rfl rfl rfl rfl [] ?_
 refine rgA [0,1] ?_
 refine rg [4] ?_
 intro k hk; simp -dsimp (maxSteps := 2000000) [go_sem, -decide_eq_true_eq, -decide_eq_false_iff_not]
 repeat' first | apply And.intro | refine hk _ ?_ | intro hg | (refine CallK.intro (dc_slices_IndexFunc_int64_int64 f [] p l hf hl rfl) ?_; simp -dsimp (maxSteps := 2000000) [go_sem, -decide_eq_true_eq, -decide_eq_false_iff_not]) | omega | exact True.intro
 all_goals clear hk k
 refine rt ?_
 rw [← idxF_any l 0]; simp [go_sem, Tryz.results70]
theorem dc_impl_VarsFault_1 (n : Int) : DC Tryz.prog 74 [.int .i64 n] (.bool (!small n)) [] := by
 refine DC.intro tiOk Tryz.func74 rfl rfl rfl rfl rfl rfl rfl rfl [] ?_
 refine rgA [0] ?_
 refine rg [2] ?_
 intro k hk; simp -dsimp (maxSteps := 2000000) [go_sem, -decide_eq_true_eq, -decide_eq_false_iff_not]
 repeat' first | apply And.intro | refine hk _ ?_ | intro hg | (refine CallK.intro (dc_impl_inRange _ _ _) ?_; simp -dsimp (maxSteps := 2000000) [go_sem, -decide_eq_true_eq, -decide_eq_false_iff_not]) | omega | exact True.intro
 all_goals clear hk k
 refine rt ?_
 simp [go_sem, Tryz.results74, small]
theorem dc_impl_VarsFault (l : List Int) (hl : l.length ≤ 9223372036854775807) : DC Tryz.prog 46 [.isl 1 (l.map I1)] (.int .i64 (varsF l)) [] := by
 refine DC.intro tiOk Tryz.func46 rfl rfl rfl rfl rfl rfl rfl rfl [] ?_
 refine rgA [0] ?_
 refine rg [0,3] ?_
 intro k hk; simp -dsimp (maxSteps := 2000000) [go_sem, -decide_eq_true_eq, -decide_eq_false_iff_not]
 repeat' first | apply And.intro | refine hk _ ?_ | intro hg | (refine CallK.intro (dc_slices_ContainsFunc_int64_int64 74 (fun n => !small n) l (fun x _ => dc_impl_VarsFault_1 x) hl) ?_; simp -dsimp (maxSteps := 2000000) [go_sem, -decide_eq_true_eq, -decide_eq_false_iff_not]) | omega | exact True.intro
 all_goals clear hk k
 refine rg [2] ?_
 intro k hk; simp -dsimp (maxSteps := 2000000) [go_sem, -decide_eq_true_eq, -decide_eq_false_iff_not]
 repeat' first | apply And.intro | refine hk _ ?_ | intro hg | ((first | refine CallK.intro (dc_impl_codeIf _ _) ?_ | refine CallK.intro (dc_impl_firstCode [_, _] (by simp)) ?_ | refine CallK.intro (dc_impl_firstCode [_, _, _] (by simp)) ?_ | refine CallK.intro (dc_impl_firstCode [_, _, _, _] (by simp)) ?_); simp -dsimp (maxSteps := 2000000) [go_sem, -decide_eq_true_eq, -decide_eq_false_iff_not]) | omega | exact True.intro
 all_goals clear hk k
 refine rt ?_
 rw [← varsF_eq]; simp [go_sem, Tryz.results46]
theorem dc_spec_VarsFault (l : List Int) (hl : l.length ≤ 9223372036854775807) : DC Tryz.prog 44 [.isl 1 (l.map I1)] (.int .i64 (varsF l)) [] := by
 refine DC.intro tiOk Tryz.func44 rfl rfl rfl rfl rfl rfl rfl rfl [] ?_
 refine rgA [0] ?_
 refine AW.seq ?_
 refine rgA [0,6] ?_
 refine AW.cond rfl ?_ ?_
 ·intro hc; try simp at hc
  all_goals (
   refine rgA [2] ?_
   refine rt ?_
   first | (have hr := all_not (p := small) hx (by simpa [small] using hc); simp [go_sem, Tryz.results44, varsF, hr]; omega) | (have hr := all_end (show l.length ≤ i by omega) hall; simp [go_sem, Tryz.results44, varsF, hr]; omega) | (simp [go_sem, Tryz.results44, varsF]; omega))
 ·intro hc; try simp at hc
  all_goals (
   refine AW.skipN (fun _ h => h) ?_
   refine AW.seq ?_
   refine rgA [0,3] ?_
   refine AW.block ?_
   refine AW.loopI (fun i : Nat => ⟨19, [(0, .isl 1 (l.map I1)), (3, .int .i64 i)], []⟩) (fun i => i ≤ l.length ∧ (l.take i).all small = true) (fun i => l.length - i) (0) (by simp) (Less.of rfl (by simp [go_sem]) (by simp [go_sem])) ?_
   rintro i ⟨hi, hall⟩
   refine AW.seq ?_
   refine rgA [0,3,10] ?_
   refine AW.cond rfl ?_ ?_
   ·intro hc; try simp at hc
    all_goals (
     have hlt : i < l.length := by assumption
     obtain ⟨x, hx⟩ := at_some hlt
     refine AW.skipN (fun _ h => h) ?_
     refine AW.seq ?_
     refine AW.block ?_
     refine rg [0,3,18] ?_
     intro k hk; simp -dsimp (maxSteps := 2000000) [go_sem, -decide_eq_true_eq, -decide_eq_false_iff_not, hx]
     repeat' first | apply And.intro | refine hk _ ?_ | intro hg | (refine CallK.intro (dc_spec_l1In _ _ _) ?_; simp -dsimp (maxSteps := 2000000) [go_sem, -decide_eq_true_eq, -decide_eq_false_iff_not, hx]) | omega | exact True.intro
     all_goals clear hk k
     refine AW.cond rfl ?_ ?_
     ·intro hc; try simp at hc
      all_goals (
       refine rg [2] ?_
       intro k hk; simp -dsimp [go_sem, -decide_eq_true_eq, -decide_eq_false_iff_not, hx]
       repeat' first | apply And.intro | refine hk _ ?_ | intro hg | omega | exact True.intro
       all_goals clear hk k
       refine rt ?_
       first | (have hr := all_not (p := small) hx (by simpa [small] using hc); simp [go_sem, Tryz.results44, varsF, hr]; omega) | (have hr := all_end (show l.length ≤ i by omega) hall; simp [go_sem, Tryz.results44, varsF, hr]; omega) | (simp [go_sem, Tryz.results44, varsF]; omega))
     ·intro hc; try simp at hc
      all_goals (
       refine AW.skipN (fun _ h => h) ?_
       refine rgK ?_
       intro k hk; simp -dsimp [go_sem, -decide_eq_true_eq, -decide_eq_false_iff_not, hx]
       repeat' first | apply And.intro | refine hk _ ?_ | intro hg | omega | exact True.intro
       all_goals clear hk k
       show ∃ _, _
       have hw := wrapi hlt hl
       refine ⟨i + 1, ⟨by omega, ?_⟩, by omega, Less.of rfl (by simp [go_sem, hw]) (by simp [go_sem])⟩
       rw [all_take hx hall]; simpa [small] using hc))
   ·intro hc; try simp at hc
    all_goals (
     refine AW.exitN (fun _ h => h) ?_
     refine rgA [2] ?_
     refine rt ?_
     first | (have hr := all_not (p := small) hx (by simpa [small] using hc); simp [go_sem, Tryz.results44, varsF, hr]; omega) | (have hr := all_end (show l.length ≤ i by omega) hall; simp [go_sem, Tryz.results44, varsF, hr]; omega) | (simp [go_sem, Tryz.results44, varsF]; omega)))
end Go.AM
namespace Go.AM
def scN (f : Nat → Int) : Nat → Nat → Int
 | 0, _ => 0
 | m + 1, i => if f i = 0 then scN f m (i + 1) else f i
def sc (f : Nat → Int) (n i : Nat) : Int := scN f (n - i) i
theorem sc_step {f : Nat → Int} {n i : Nat} (h : i < n) : sc f n i = if f i = 0 then sc f n (i + 1) else f i := by
 unfold sc
 rw [show n - i = (n - (i + 1)) + 1 by omega]; rfl
theorem sc_end {f : Nat → Int} {n i : Nat} (h : n ≤ i) : sc f n i = 0 := by
 unfold sc; rw [show n - i = 0 by omega]; rfl
theorem sc_go {f : Nat → Int} {n i : Nat} (h : i < n) (h0 : f i = 0) : sc f n i = sc f n (i + 1) := by rw [sc_step h, if_pos h0]
theorem sc_hit {f : Nat → Int} {n i : Nat} (h : i < n) (h0 : f i ≠ 0) : sc f n i = f i := by rw [sc_step h, if_neg h0]
theorem sc_zero {f : Nat → Int} {n : Nat} : ∀ {m i : Nat}, n - i = m → sc f n i = 0 → ∀ k, i ≤ k → k < n → f k = 0 := by
 intro m
 induction m with
 | zero => intro i hm _ k h1 h2; omega
 | succ m ih =>
  intro i hm h k h1 h2
  have hi : i < n := by omega
  rw [sc_step hi] at h
  split at h
  ·rename_i h0
   rcases Nat.eq_or_lt_of_le h1 with rfl | h1
   ·exact h0
   ·exact ih (by omega) h k h1 h2
  ·exact absurd h (by assumption)
theorem sc_all {f : Nat → Int} {n : Nat} (h : sc f n 0 = 0) : ∀ k, k < n → f k = 0 := fun k hk => sc_zero rfl h k (Nat.zero_le _) hk
instance : Inhabited TNode := ⟨⟨0, 0, 0, 0⟩⟩
def nA (e : List TNode) (i : Nat) : TNode := e.getD i default
def isTwoB (k : Int) : Bool := inR k 3 9
def nodeF (n : TNode) (at_ : Int) : Int :=
 if n.kind < 1 ∨ 10 < n.kind then 1
 else if n.kind ≤ 2 then
  if n.left ≠ 0 ∨ n.right ≠ 0 then 1 else if n.val < 0 ∨ (if n.kind = 2 then 3 else 9999) < n.val then 3 else 0
 else if n.kind = 10 then
  if n.val ≠ 0 ∨ n.right ≠ 0 then 1 else if n.left < 0 ∨ at_ ≤ n.left then 3 else 0
 else if n.val ≠ 0 then 1 else if n.left < 0 ∨ at_ ≤ n.left ∨ n.right < 0 ∨ at_ ≤ n.right then 3 else 0
def nodeAt (e : List TNode) (i : Nat) : Int := nodeF (nA e i) i
def PartsOk (e : List TNode) (n : Nat) : Prop := ∀ i, i < n → nodeAt e i = 0
theorem nodeF_parts {n : TNode} {i : Nat} (h : nodeF n i = 0) : (n.kind = 10 → 0 ≤ n.left ∧ n.left.toNat < i) ∧ (isTwoB n.kind = true → 0 ≤ n.left ∧ n.left.toNat < i ∧ 0 ≤ n.right ∧ n.right.toNat < i) ∧ 1 ≤ n.kind ∧ n.kind ≤ 10 ∧ (n.kind ≤ 2 ↔ (n.kind ≠ 10 ∧ isTwoB n.kind = false)) := by
 unfold nodeF at h
 split at h
 ·cases h
 split at h
 ·refine ⟨fun _ => by omega, fun h2 => ?_, by omega, by omega, ?_⟩
  ·have := inR_iff.1 h2; omega
  ·rw [isTwoB, inR_not]; omega
 split at h
 ·split at h
  ·cases h
  split at h
  ·cases h
  ·refine ⟨fun _ => by omega, fun h2 => ?_, by omega, by omega, ?_⟩
   ·have := inR_iff.1 h2; omega
   ·omega
 ·split at h
  ·cases h
  split at h
  ·cases h
  ·refine ⟨fun _ => by omega, fun _ => by omega, by omega, by omega, ?_⟩
   rw [isTwoB, inR_not]; omega
def sizeOf1 (e : List TNode) (s : List Int) (i : Nat) : Int :=
 let n := nA e i
 if n.kind = 10 then 1 + s.getD n.left.toNat 0 else if isTwoB n.kind then 1 + s.getD n.left.toNat 0 + s.getD n.right.toNat 0 else 1
def sizesL (e : List TNode) : Nat → List Int
 | 0 => []
 | i + 1 => sizesL e i ++ [sizeOf1 e (sizesL e i) i]
theorem sizesL_len (e : List TNode) (n : Nat) : (sizesL e n).length = n := by
 induction n with
 | zero => rfl
 | succ n ih => simp [sizesL, ih]
def szA (e : List TNode) (i : Nat) : Int := (sizesL e (i + 1)).getD i 0
theorem sizesL_get (e : List TNode) (i : Nat) : ∀ n, i < n → (sizesL e n).getD i 0 = szA e i := by
 intro n
 induction n with
 | zero => intro h; omega
 | succ n ih =>
  intro h
  rcases Nat.eq_or_lt_of_le (Nat.le_of_lt_succ h) with rfl | h'
  ·rfl
  ·have := ih h'
   rw [← this]
   simp [sizesL, List.getD, List.getElem?_append_left (show i < (sizesL e n).length by rw [sizesL_len]; exact h')]
theorem szA_eq (e : List TNode) (i : Nat) : szA e i = sizeOf1 e (sizesL e i) i := by
 unfold szA
 simp [sizesL, List.getD, sizesL_len]
def wrong1 (e : List TNode) (i : Nat) : Bool :=
 let n := nA e i
 if n.kind = 10 then decide (n.left ≠ (i : Int) - 1)
 else if isTwoB n.kind then decide (n.right ≠ (i : Int) - 1) || decide (n.left ≠ (i : Int) - 1 - szA e n.right.toNat)
 else false
def wrongU (e : List TNode) (i : Nat) : Bool := (List.range i).any (wrong1 e)
theorem wrongU_step (e : List TNode) (i : Nat) : wrongU e (i + 1) = (wrongU e i || wrong1 e i) := by
 unfold wrongU; rw [List.range_succ, List.any_append]; simp
def post (e : List TNode) : Nat → Nat → List Nat
 | 0, _ => []
 | f + 1, i =>
  let n := nA e i
  if n.kind = 10 then post e f n.left.toNat ++ [i]
  else if isTwoB n.kind then post e f n.left.toNat ++ post e f n.right.toNat ++ [i]
  else [i]
def po (e : List TNode) (i : Nat) : List Nat := post e (i + 1) i
theorem post_more {e : List TNode} {n : Nat} (hp : PartsOk e n) : ∀ (f g i : Nat), i < n → i < f → i < g → post e f i = post e g i := by
 intro f
 induction f with
 | zero => intro g i _ h _; omega
 | succ f ih =>
  intro g i hn hf hg
  cases g with
  | zero => omega
  | succ g =>
   have hq := nodeF_parts (hp i hn)
   simp only [post]
   split
   ·rename_i h10
    have := hq.1 h10
    rw [ih g _ (by omega) (by omega) (by omega)]
   ·split
    ·rename_i h2
     have := hq.2.1 h2
     rw [ih g _ (by omega) (by omega) (by omega), ih g _ (by omega) (by omega) (by omega)]
    ·rfl
theorem po_eq {e : List TNode} {n i : Nat} (hp : PartsOk e n) (hi : i < n) : po e i = if (nA e i).kind = 10 then po e (nA e i).left.toNat ++ [i] else if isTwoB (nA e i).kind then po e (nA e i).left.toNat ++ po e (nA e i).right.toNat ++ [i] else [i] := by
 have hq := nodeF_parts (hp i hi)
 show post e (i + 1) i = _
 simp only [post]
 split
 ·rename_i h10
  have := hq.1 h10
  rw [post_more hp i _ _ (by omega) (by omega) (Nat.lt_succ_self _)]; rfl
 ·split
  ·rename_i h2
   have := hq.2.1 h2
   rw [post_more hp i _ (nA e i).left.toNat (by omega) (by omega) (Nat.lt_succ_self _), post_more hp i _ (nA e i).right.toNat (by omega) (by omega) (Nat.lt_succ_self _)]; rfl
  ·rfl
theorem po_len {e : List TNode} {n : Nat} (hp : PartsOk e n) : ∀ (k i : Nat), i ≤ k → i < n → ((po e i).length : Int) = szA e i ∧ 1 ≤ szA e i ∧ szA e i ≤ 2 ^ (i + 1) - 1 := by
 intro k
 induction k with
 | zero =>
  intro i hk hi
  have hq := nodeF_parts (hp i hi)
  obtain rfl : i = 0 := by omega
  rw [po_eq hp hi, szA_eq]
  unfold sizeOf1
  split
  ·rename_i h10
   have := hq.1 h10; omega
  ·split
   ·rename_i h2
    have := hq.2.1 h2; omega
   ·rename_i h1 h2; simp only [h1, h2, if_false, Bool.false_eq_true]; simp
 | succ k ih =>
  intro i hk hi
  have hq := nodeF_parts (hp i hi)
  rw [po_eq hp hi, szA_eq]
  unfold sizeOf1
  have pw : (2 : Int) ^ (i + 1) = 2 * 2 ^ i := by rw [Int.pow_succ]; omega
  have mono : ∀ j, j < i → (2 : Int) ^ (j + 1) ≤ 2 ^ i := fun j hj => by
   have := Nat.pow_le_pow_right (n := 2) (by decide) (show j + 1 ≤ i by omega)
   exact_mod_cast this
  have p1 : (1 : Int) ≤ 2 ^ i := by
   have := Nat.pow_le_pow_right (n := 2) (by decide) (Nat.zero_le i)
   exact_mod_cast this
  split
  ·rename_i h10
   have hl := hq.1 h10
   have h1 := ih _ (show (nA e i).left.toNat ≤ k by omega) (by omega)
   have hm := mono _ hl.2
   simp only [h10, if_true]
   rw [sizesL_get e _ i hl.2]
   simp only [List.length_append, List.length_cons, List.length_nil]
   omega
  ·split
   ·rename_i h10 h2
    have hl := hq.2.1 h2
    have h1 := ih _ (show (nA e i).left.toNat ≤ k by omega) (by omega)
    have h3 := ih _ (show (nA e i).right.toNat ≤ k by omega) (by omega)
    have hm := mono _ hl.2.1
    have hm2 := mono _ hl.2.2.2
    simp only [h10, h2, if_true, if_false]
    rw [sizesL_get e _ i hl.2.1, sizesL_get e _ i hl.2.2.2]
    simp only [List.length_append, List.length_cons, List.length_nil]
    omega
   ·rename_i h10 h2
    simp only [h10, h2, if_false, Bool.false_eq_true]
    simp; omega
theorem sz_bd {e : List TNode} {n i : Nat} (hp : PartsOk e n) (hi : i < n) (h16 : i ≤ 16) : 1 ≤ szA e i ∧ szA e i ≤ 131071 := by
 have h := (po_len hp i i (Nat.le_refl _) hi).2
 have : (2 : Int) ^ (i + 1) ≤ 2 ^ 17 := by
  have := Nat.pow_le_pow_right (n := 2) (by decide) (show i + 1 ≤ 17 by omega)
  exact_mod_cast this
 have e : (2 : Int) ^ 17 = 131072 := by decide
 omega
def stretch (a m : Nat) : List Nat := List.range' a m
theorem po_good {e : List TNode} {n : Nat} (hp : PartsOk e n) : ∀ (k i : Nat), i ≤ k → i < n → wrongU e (i + 1) = false → szA e i ≤ i + 1 ∧ po e i = stretch (i + 1 - (szA e i).toNat) (szA e i).toNat := by
 intro k
 induction k with
 | zero =>
  intro i hk hi hw
  have hq := nodeF_parts (hp i hi)
  obtain rfl : i = 0 := by omega
  have hs := po_len hp 0 0 (Nat.le_refl _) hi
  have hs1 : szA e 0 = 1 := by omega
  rw [hs1]
  refine ⟨by omega, ?_⟩
  rw [po_eq hp hi]
  split
  ·rename_i h10
   have := hq.1 h10; omega
  ·split
   ·rename_i h2
    have := hq.2.1 h2; omega
   ·rfl
 | succ k ih =>
  intro i hk hi hw
  have hq := nodeF_parts (hp i hi)
  rw [wrongU_step] at hw
  have hw1 : wrongU e i = false := by revert hw; cases wrongU e i <;> simp
  have hw2 : wrong1 e i = false := by revert hw; cases wrong1 e i <;> simp
  have sub : ∀ j, j < i → wrongU e (j + 1) = false := by
   intro j hj
   rw [Bool.eq_false_iff] at hw1 ⊢
   intro h; apply hw1
   unfold wrongU at h ⊢
   simp only [List.any_eq_true, List.mem_range] at h ⊢
   obtain ⟨x, h1, h2⟩ := h
   exact ⟨x, by omega, h2⟩
  have hl0 := po_len hp i i (Nat.le_refl _) hi
  have hszl : (po e i).length = (szA e i).toNat := by omega
  have he := szA_eq e i
  unfold sizeOf1 at he
  unfold wrong1 at hw2
  rw [po_eq hp hi]
  by_cases h10 : (nA e i).kind = 10
  ·simp only [h10, if_true] at he hw2 ⊢
   have hl := hq.1 h10
   rw [sizesL_get e _ i hl.2] at he
   simp only [ne_eq, decide_not, Bool.not_eq_false', decide_eq_true_eq] at hw2
   have h1 := ih _ (show (nA e i).left.toNat ≤ k by omega) (by omega) (sub _ hl.2)
   have hb := (po_len hp _ _ (Nat.le_refl _) (show (nA e i).left.toNat < n by omega)).2.1
   refine ⟨by omega, ?_⟩
   rw [h1.2]
   unfold stretch
   have : (szA e i).toNat = (szA e (nA e i).left.toNat).toNat + 1 := by omega
   rw [this, List.range'_concat]
   rw [show i + 1 - ((szA e (nA e i).left.toNat).toNat + 1) = (nA e i).left.toNat + 1 - (szA e (nA e i).left.toNat).toNat by omega]
   congr 2; omega
  ·by_cases h2 : isTwoB (nA e i).kind = true
   ·simp only [h10, h2, if_true, if_false] at he hw2 ⊢
    have hl := hq.2.1 h2
    rw [sizesL_get e _ i hl.2.1, sizesL_get e _ i hl.2.2.2] at he
    simp only [Bool.or_eq_false_iff, ne_eq, decide_not, Bool.not_eq_false', decide_eq_true_eq] at hw2
    have h1 := ih _ (show (nA e i).left.toNat ≤ k by omega) (by omega) (sub _ hl.2.1)
    have h3 := ih _ (show (nA e i).right.toNat ≤ k by omega) (by omega) (sub _ hl.2.2.2)
    have hb := (po_len hp _ _ (Nat.le_refl _) (show (nA e i).left.toNat < n by omega)).2.1
    have hb2 := (po_len hp _ _ (Nat.le_refl _) (show (nA e i).right.toNat < n by omega)).2.1
    refine ⟨by omega, ?_⟩
    rw [h1.2, h3.2]
    unfold stretch
    generalize hA : (szA e (nA e i).left.toNat).toNat = A at *
    generalize hB : (szA e (nA e i).right.toNat).toNat = B at *
    have hC : (szA e i).toNat = A + B + 1 := by omega
    rw [hC, List.range'_concat, show A + B = B + A by omega]
    rw [show i + 1 - (B + A + 1) = (nA e i).left.toNat + 1 - A by omega]
    rw [show B + A = A + B by omega, ← List.range'_append_1]
    rw [show (nA e i).left.toNat + 1 - A + A = (nA e i).right.toNat + 1 - B by omega]
    congr 2; omega
   ·simp only [h10, h2, if_false, Bool.false_eq_true] at he ⊢
    refine ⟨by omega, ?_⟩
    rw [he]
    simp [stretch]
theorem po_infix {e : List TNode} {n : Nat} (hp : PartsOk e n) : ∀ (k r i : Nat), r ≤ k → r < n → i ∈ po e r → ∃ a b, po e r = a ++ po e i ++ b ∧ i ≤ r := by
 intro k
 induction k with
 | zero =>
  intro r i hk hr hi
  obtain rfl : r = 0 := by omega
  have hq := nodeF_parts (hp 0 hr)
  rw [po_eq hp hr] at hi
  split at hi
  ·rename_i h10
   have := hq.1 h10; omega
  ·split at hi
   ·rename_i h2
    have := hq.2.1 h2; omega
   ·simp at hi; subst hi; exact ⟨[], [], by simp, Nat.le_refl _⟩
 | succ k ih =>
  intro r i hk hr hi
  have hq := nodeF_parts (hp r hr)
  by_cases hir : i = r
  ·subst hir; exact ⟨[], [], by simp, Nat.le_refl _⟩
  have e0 := po_eq hp hr
  rw [e0] at hi ⊢
  split at hi
  ·rename_i h10
   have hl := hq.1 h10
   simp only [h10, if_true]
   simp only [List.mem_append, List.mem_singleton, hir, or_false] at hi
   obtain ⟨a, b, h1, h2⟩ := ih _ i (by omega) (by omega) hi
   exact ⟨a, b ++ [r], by rw [h1]; simp, by omega⟩
  ·split at hi
   ·rename_i h10 h2
    have hl := hq.2.1 h2
    simp only [h10, h2, if_true, if_false]
    simp only [List.mem_append, List.mem_singleton, hir, or_false] at hi
    rcases hi with hi | hi
    ·obtain ⟨a, b, h1, h2⟩ := ih _ i (by omega) (by omega) hi
     exact ⟨a, b ++ po e (nA e r).right.toNat ++ [r], by rw [h1]; simp, by omega⟩
    ·obtain ⟨a, b, h1, h2⟩ := ih _ i (by omega) (by omega) hi
     exact ⟨po e (nA e r).left.toNat ++ a, b ++ [r], by rw [h1]; simp, by omega⟩
   ·simp at hi; exact absurd hi hir
theorem po_last {e : List TNode} {n i : Nat} (hp : PartsOk e n) (hi : i < n) : ∃ a, po e i = a ++ [i] := by
 rw [po_eq hp hi]
 split
 ·exact ⟨_, rfl⟩
 ·split
  ·exact ⟨_, rfl⟩
  ·exact ⟨[], rfl⟩
theorem range_at {n : Nat} {a b : List Nat} {i : Nat} (h : List.range n = a ++ i :: b) : a.length = i := by
 have := congrArg (fun l => l[a.length]?) h
 simp only [List.getElem?_append_right (Nat.le_refl _), Nat.sub_self, List.getElem?_cons_zero] at this
 obtain ⟨h1, h2⟩ := List.getElem?_eq_some_iff.1 this
 simpa using h2
theorem po_bad {e : List TNode} {n : Nat} (hp : PartsOk e n) (hn : 0 < n) (h : po e (n - 1) = List.range n) : wrongU e n = false ∧ szA e (n - 1) = n := by
 have hl := po_len hp (n - 1) (n - 1) (Nat.le_refl _) (by omega)
 rw [h, List.length_range] at hl
 refine ⟨?_, by omega⟩
 unfold wrongU
 rw [Bool.eq_false_iff]
 intro hw
 simp only [List.any_eq_true, List.mem_range] at hw
 obtain ⟨i, hi, hw⟩ := hw
 have hq := nodeF_parts (hp i hi)
 obtain ⟨a, b, h1, _⟩ := po_infix hp (n - 1) (n - 1) i (Nat.le_refl _) (by omega) (by rw [h]; exact List.mem_range.2 hi)
 rw [h] at h1
 unfold wrong1 at hw
 have e0 := po_eq hp hi
 by_cases h10 : (nA e i).kind = 10
 ·simp only [h10, if_true] at hw e0
  have hl := hq.1 h10
  obtain ⟨c, hc⟩ := po_last hp (show (nA e i).left.toNat < n by omega)
  rw [e0, hc] at h1
  have p1 := range_at (i := i) (a := a ++ (c ++ [(nA e i).left.toNat])) (b := b) (by rw [h1]; simp)
  have p2 := range_at (i := (nA e i).left.toNat) (a := a ++ c) (b := i :: b) (by rw [h1]; simp)
  simp at p1 p2 hw
  omega
 ·by_cases h2 : isTwoB (nA e i).kind = true
  ·simp only [h10, h2, if_true, if_false] at hw e0
   have hl := hq.2.1 h2
   obtain ⟨c, hc⟩ := po_last hp (show (nA e i).left.toNat < n by omega)
   obtain ⟨d, hd⟩ := po_last hp (show (nA e i).right.toNat < n by omega)
   have hlen := (po_len hp _ _ (Nat.le_refl _) (show (nA e i).right.toNat < n by omega)).1
   rw [hd] at hlen
   rw [e0, hc, hd] at h1
   have p1 := range_at (i := i) (a := a ++ (c ++ [(nA e i).left.toNat]) ++ (d ++ [(nA e i).right.toNat])) (b := b) (by rw [h1]; simp)
   have p2 := range_at (i := (nA e i).left.toNat) (a := a ++ c) (b := (d ++ [(nA e i).right.toNat]) ++ i :: b) (by rw [h1]; simp)
   have p3 := range_at (i := (nA e i).right.toNat) (a := a ++ (c ++ [(nA e i).left.toNat]) ++ d) (b := i :: b) (by rw [h1]; simp)
   simp at p1 p2 p3 hw hlen
   omega
  ·simp only [h10, h2, if_false, Bool.false_eq_true] at hw
theorem po_iff {e : List TNode} {n : Nat} (hp : PartsOk e n) (hn : 0 < n) : po e (n - 1) = List.range n ↔ (wrongU e n = false ∧ szA e (n - 1) = n) := by
 constructor
 ·exact po_bad hp hn
 ·rintro ⟨h1, h2⟩
  have h := (po_good hp (n - 1) (n - 1) (Nat.le_refl _) (by omega) (by rwa [show n - 1 + 1 = n by omega])).2
  rw [h, h2]
  unfold stretch
  rw [List.range_eq_range', show n - 1 + 1 - (n : Int).toNat = 0 by omega]
  simp
def walkC (e : List TNode) : Nat → Nat → List Nat → List Nat
 | 0, _, out => out
 | f + 1, i, out =>
  if 16 < out.length then out
  else
   let n := nA e i
   let o1 := if 2 < n.kind then walkC e f n.left.toNat out else out
   let o2 := if isTwoB n.kind then walkC e f n.right.toNat o1 else o1
   o2 ++ [i]
theorem walkC_mono {e : List TNode} : ∀ (f i : Nat) (out : List Nat), out.length ≤ (walkC e f i out).length := by
 intro f
 induction f with
 | zero => intro i out; exact Nat.le_refl _
 | succ f ih =>
  intro i out
  simp only [walkC]
  split
  ·exact Nat.le_refl _
  ·simp only [List.length_append, List.length_cons, List.length_nil]
   have h1 : out.length ≤ (if 2 < (nA e i).kind then walkC e f (nA e i).left.toNat out else out).length := by
    split
    ·exact ih _ _
    ·exact Nat.le_refl _
   generalize (if 2 < (nA e i).kind then walkC e f (nA e i).left.toNat out else out) = o1 at *
   split
   ·have := ih (nA e i).right.toNat o1; omega
   ·omega
theorem walkC_eq {e : List TNode} {n : Nat} (hp : PartsOk e n) : ∀ (f i : Nat) (out : List Nat), i < n → i < f → (out.length + (po e i).length ≤ 17 → walkC e f i out = out ++ po e i) ∧ (17 < out.length + (po e i).length → 17 ≤ (walkC e f i out).length) := by
 intro f
 induction f with
 | zero => intro i out _ h; omega
 | succ f ih =>
  intro i out hn hf
  have hq := nodeF_parts (hp i hn)
  have hl1 := (po_len hp i i (Nat.le_refl _) hn)
  have e0 := po_eq hp hn
  simp only [walkC]
  by_cases h16 : 16 < out.length
  ·rw [if_pos h16]
   exact ⟨fun h => by omega, fun _ => by omega⟩
  ·rw [if_neg h16]
   by_cases h10 : (nA e i).kind = 10
   ·have hl := hq.1 h10
    have n2 : isTwoB (nA e i).kind = false := by rw [isTwoB, inR_not]; omega
    have i1 := ih (nA e i).left.toNat out (by omega) (by omega)
    rw [if_pos (show 2 < (nA e i).kind by omega)]
    simp only [n2, Bool.false_eq_true, if_false]
    rw [if_pos h10] at e0
    rw [e0]
    simp only [List.length_append, List.length_cons, List.length_nil]
    constructor
    ·intro h
     rw [i1.1 (by omega)]; simp
    ·intro h
     by_cases hh : out.length + (po e (nA e i).left.toNat).length ≤ 17
     ·rw [i1.1 hh]; simp; omega
     ·have := i1.2 (by omega); simp; omega
   ·by_cases h2 : isTwoB (nA e i).kind = true
    ·have hl := hq.2.1 h2
     have hk := inR_iff.1 h2
     have i1 := ih (nA e i).left.toNat out (by omega) (by omega)
     simp only [if_pos (show 2 < (nA e i).kind by omega), h10, h2, if_true, if_false] at e0 ⊢
     rw [e0]
     simp only [List.length_append, List.length_cons, List.length_nil]
     have hr1 := (po_len hp _ _ (Nat.le_refl _) (show (nA e i).right.toNat < n by omega))
     by_cases hh : out.length + (po e (nA e i).left.toNat).length ≤ 17
     ·rw [i1.1 hh]
      have i2 := ih (nA e i).right.toNat (out ++ po e (nA e i).left.toNat) (by omega) (by omega)
      simp only [List.length_append] at i2
      constructor
      ·intro h
       rw [i2.1 (by omega)]; simp
      ·intro h
       by_cases h3 : out.length + (po e (nA e i).left.toNat).length + (po e (nA e i).right.toNat).length ≤ 17
       ·rw [i2.1 h3]; simp; omega
       ·have := i2.2 (by omega); omega
     ·have h5 := i1.2 (by omega)
      have h6 := walkC_mono (e := e) f (nA e i).right.toNat (walkC e f (nA e i).left.toNat out)
      exact ⟨fun h => by omega, fun _ => by omega⟩
    ·have hk : (nA e i).kind ≤ 2 := hq.2.2.2.2.2 ⟨h10, by simpa using h2⟩
     simp only [if_neg (show ¬ 2 < (nA e i).kind by omega), h10, h2, if_false, Bool.false_eq_true] at e0 ⊢
     rw [e0]
     simp only [List.length_append, List.length_cons, List.length_nil]
     exact ⟨fun _ => trivial, fun h => by omega⟩
def wkF (e : List TNode) (i : Nat) (out : List Nat) : List Nat := walkC e (i + 1) i out
theorem wk_iff {e : List TNode} {n : Nat} (hp : PartsOk e n) (hn : 0 < n) (h16 : n ≤ 16) : wkF e (n - 1) [] = List.range n ↔ (wrongU e n = false ∧ szA e (n - 1) = n) := by
 rw [← po_iff hp hn]
 have h := walkC_eq hp (n - 1 + 1) (n - 1) [] (by omega) (Nat.lt_succ_self _)
 unfold wkF
 simp only [List.length_nil, Nat.zero_add, List.nil_append] at h
 by_cases hh : (po e (n - 1)).length ≤ 17
 ·rw [h.1 hh]
 ·constructor
  ·intro hw
   have := h.2 (by omega)
   rw [hw, List.length_range] at this; omega
  ·intro hw
   rw [hw, List.length_range] at hh; omega
def exprF (e : List TNode) : Int :=
 if inR e.length 1 16 = false then 2
 else if sc (nodeAt e) e.length 0 ≠ 0 then sc (nodeAt e) e.length 0
 else if wrongU e e.length = true ∨ szA e (e.length - 1) ≠ e.length then 1 else 0
end Go.AM
namespace Go.AM
theorem walkC_more {e : List TNode} {n : Nat} (hp : PartsOk e n) : ∀ (f g i : Nat) (out : List Nat), i < n → i < f → i < g → walkC e f i out = walkC e g i out := by
 intro f
 induction f with
 | zero => intro g i out _ h; omega
 | succ f ih =>
  intro g i out hn hf hg
  cases g with
  | zero => omega
  | succ g =>
   have hq := nodeF_parts (hp i hn)
   simp only [walkC]
   by_cases h10 : (nA e i).kind = 10
   ·have hl := hq.1 h10
    have n2 : isTwoB (nA e i).kind = false := by rw [isTwoB, inR_not]; omega
    simp only [n2, Bool.false_eq_true, if_false]
    rw [ih g (nA e i).left.toNat out (by omega) (by omega) (by omega)]
   ·by_cases h2 : isTwoB (nA e i).kind = true
    ·have hl := hq.2.1 h2
     simp only [h2]
     rw [ih g (nA e i).left.toNat _ (by omega) (by omega) (by omega), ih g (nA e i).right.toNat _ (by omega) (by omega) (by omega)]
    ·have hk : (nA e i).kind ≤ 2 := hq.2.2.2.2.2 ⟨h10, by simpa using h2⟩
     simp only [if_neg (show ¬ 2 < (nA e i).kind by omega), h2, Bool.false_eq_true, if_false]
theorem wkF_eq {e : List TNode} {n i : Nat} (hp : PartsOk e n) (hi : i < n) (out : List Nat) : wkF e i out = if 16 < out.length then out else
  (if isTwoB (nA e i).kind then wkF e (nA e i).right.toNat (if 2 < (nA e i).kind then wkF e (nA e i).left.toNat out else out) else (if 2 < (nA e i).kind then wkF e (nA e i).left.toNat out else out)) ++ [i] := by
 have hq := nodeF_parts (hp i hi)
 unfold wkF
 conv => lhs; unfold walkC
 split
 ·rfl
 ·simp only
  by_cases h10 : (nA e i).kind = 10
  ·have hl := hq.1 h10
   have n2 : isTwoB (nA e i).kind = false := by rw [isTwoB, inR_not]; omega
   simp only [n2, Bool.false_eq_true, if_false]
   rw [walkC_more hp i ((nA e i).left.toNat + 1) (nA e i).left.toNat out (by omega) (by omega) (by omega)]
  ·by_cases h2 : isTwoB (nA e i).kind = true
   ·have hl := hq.2.1 h2
    simp only [h2]
    rw [walkC_more hp i ((nA e i).left.toNat + 1) (nA e i).left.toNat _ (by omega) (by omega) (by omega), walkC_more hp i ((nA e i).right.toNat + 1) (nA e i).right.toNat _ (by omega) (by omega) (by omega)]
   ·have hk : (nA e i).kind ≤ 2 := hq.2.2.2.2.2 ⟨h10, by simpa using h2⟩
    simp only [if_neg (show ¬ 2 < (nA e i).kind by omega), h2, Bool.false_eq_true, if_false]
def ownT (k : Int) : Int := if k ≤ 6 then 1 else 2
def partT (k : Int) : Int := if k ≤ 8 then 1 else 2
def typBad (e : List TNode) (i : Nat) : Bool :=
 let n := nA e i
 (decide (2 < n.kind) && decide (ownT (nA e n.left.toNat).kind ≠ partT n.kind)) || (isTwoB n.kind && decide (ownT (nA e n.right.toNat).kind ≠ partT n.kind))
def typU (e : List TNode) (i : Nat) : Bool := (List.range i).any (typBad e)
theorem typU_step (e : List TNode) (i : Nat) : typU e (i + 1) = (typU e i || typBad e i) := by
 unfold typU; rw [List.range_succ, List.any_append]; simp
theorem typU_mono {e : List TNode} {i n : Nat} (h : i ≤ n) (hu : typU e i = true) : typU e n = true := by
 unfold typU at *
 simp only [List.any_eq_true, List.mem_range] at *
 obtain ⟨x, h1, h2⟩ := hu
 exact ⟨x, by omega, h2⟩
def typC (e : List TNode) : Int := if exprF e ≠ 0 then exprF e else if typU e e.length = true then 7 else 0
def typV (e : List TNode) : Int := if typC e ≠ 0 then 0 else ownT (nA e (e.length - 1)).kind
def typF (e : List TNode) (want : Int) : Int := if e.length = 0 then 0 else if typC e ≠ 0 then typC e else if typV e ≠ want then 7 else 0
def isLow (c : UInt8) : Bool := decide (97 ≤ (c.toNat : Int)) && decide ((c.toNat : Int) ≤ 122)
def nameF (s : List UInt8) : Int := if s.all isLow = false ∨ s.length = 0 then 5 else if 8 < s.length then 2 else 0
def ParOk (l : List Int) : Prop := ∀ k, k < l.length → -1 ≤ l.getD k 0 ∧ l.getD k 0 < k
def upF (l : List Int) : Nat → Int → Int → Bool
 | 0, _, _ => false
 | f + 1, a, par => if a < 0 then false else if a = par then true else upF l f (l.getD a.toNat 0) par
def upB (l : List Int) (a par : Int) : Bool := upF l (a + 1).toNat a par
theorem upF_more {l : List Int} (hl : ParOk l) {par : Int} : ∀ (f g : Nat) (a : Int), a < l.length → a < f → a < g → upF l f a par = upF l g a par := by
 intro f
 induction f with
 | zero =>
  intro g a _ hf _
  cases g with
  | zero => rfl
  | succ g => simp only [upF]; rw [if_pos (by omega)]
 | succ f ih =>
  intro g a hn hf hg
  cases g with
  | zero => simp only [upF]; rw [if_pos (by omega)]
  | succ g =>
   simp only [upF]
   split
   ·rfl
   ·split
    ·rfl
    ·have := hl a.toNat (by omega)
     exact ih g _ (by omega) (by omega) (by omega)
theorem upB_neg {l : List Int} {a par : Int} (h : a < 0) : upB l a par = false := by
 unfold upB
 rw [show (a + 1).toNat = 0 by omega]; rfl
theorem upB_eq {l : List Int} (hl : ParOk l) {a par : Int} (h0 : 0 ≤ a) (hn : a < l.length) : upB l a par = if a = par then true else upB l (l.getD a.toNat 0) par := by
 unfold upB
 obtain ⟨m, hm⟩ : ∃ m : Nat, a = m := ⟨a.toNat, by omega⟩
 subst hm
 rw [show ((m : Int) + 1).toNat = m + 1 by omega]
 simp only [upF]
 rw [if_neg (by omega)]
 split
 ·rfl
 ·have := hl m (by omega)
  rw [Int.toNat_natCast] at *
  exact upF_more hl m _ _ (by omega) (by omega) (by omega)
theorem upB_lt {l : List Int} (hl : ParOk l) {par : Int} : ∀ (k : Nat) (a : Int), a < k → a < l.length → a < par → upB l a par = false := by
 intro k
 induction k with
 | zero => intro a hk _ _; exact upB_neg (by omega)
 | succ k ih =>
  intro a hk hn hp
  by_cases h0 : a < 0
  ·exact upB_neg h0
  ·have := hl a.toNat (by omega)
   rw [upB_eq hl (by omega) hn, if_neg (by omega)]
   exact ih _ (by omega) (by omega) (by omega)
def parF (l : List Int) (par : Int) : Int :=
 if (l.length = 0 ∧ par ≠ -1) ∨ (0 < l.length ∧ (par < 0 ∨ (l.length : Int) ≤ par)) then 3
 else if 0 < l.length ∧ upB l ((l.length : Int) - 1) par = false then 1 else 0
theorem ParOk.snoc {l : List Int} (hl : ParOk l) {par : Int} (h1 : -1 ≤ par) (h2 : par < l.length) : ParOk (l ++ [par]) := by
 intro k hk
 rw [List.length_append, List.length_singleton] at hk
 by_cases h : k < l.length
 ·have := hl k h
  simpa [List.getD, List.getElem?_append_left h] using this
 ·obtain rfl : k = l.length := by omega
  simp [List.getD]; omega
theorem parF_ok {l : List Int} {par : Int} (h : parF l par = 0) : -1 ≤ par ∧ par < l.length ∧ (0 < l.length → 0 ≤ par) := by
 unfold parF at h
 split at h
 ·cases h
 ·omega
def depF (l : List Int) : Nat → Int → Int
 | 0, _ => 0
 | f + 1, a => if a < 0 then 0 else 1 + depF l f (l.getD a.toNat 0)
def dep (l : List Int) (a : Int) : Int := depF l (a + 1).toNat a
theorem depF_more {l : List Int} (hl : ParOk l) : ∀ (f g : Nat) (a : Int), a < l.length → a < f → a < g → depF l f a = depF l g a := by
 intro f
 induction f with
 | zero =>
  intro g a _ hf _
  cases g with
  | zero => rfl
  | succ g => simp only [depF]; rw [if_pos (by omega)]
 | succ f ih =>
  intro g a hn hf hg
  cases g with
  | zero => simp only [depF]; rw [if_pos (by omega)]
  | succ g =>
   simp only [depF]
   split
   ·rfl
   ·have := hl a.toNat (by omega)
    rw [ih g _ (by omega) (by omega) (by omega)]
theorem dep_neg {l : List Int} {a : Int} (h : a < 0) : dep l a = 0 := by
 unfold dep
 rw [show (a + 1).toNat = 0 by omega]; rfl
theorem dep_eq {l : List Int} (hl : ParOk l) {a : Int} (h0 : 0 ≤ a) (hn : a < l.length) : dep l a = 1 + dep l (l.getD a.toNat 0) := by
 unfold dep
 obtain ⟨m, hm⟩ : ∃ m : Nat, a = m := ⟨a.toNat, by omega⟩
 subst hm
 rw [show ((m : Int) + 1).toNat = m + 1 by omega]
 simp only [depF]
 rw [if_neg (by omega)]
 have := hl m (by omega)
 rw [Int.toNat_natCast] at *
 rw [depF_more hl m (l.getD m 0 + 1).toNat (l.getD m 0) (by omega) (by omega) (by omega)]
theorem dep_bd {l : List Int} (hl : ParOk l) : ∀ (k : Nat) (a : Int), a < k → a < l.length → 0 ≤ dep l a ∧ (0 ≤ a → dep l a ≤ a + 1) := by
 intro k
 induction k with
 | zero => intro a hk _; rw [dep_neg (by omega)]; omega
 | succ k ih =>
  intro a hk hn
  by_cases h0 : a < 0
  ·rw [dep_neg h0]; omega
  ·have h1 := hl a.toNat (by omega)
   rw [dep_eq hl (by omega) hn]
   have h2 := ih (l.getD a.toNat 0) (by omega) (by omega)
   by_cases h3 : 0 ≤ l.getD a.toNat 0
   ·have := h2.2 h3; omega
   ·rw [dep_neg (show l.getD a.toNat 0 < 0 by omega)]; omega
theorem getD_left {l : List Int} {x : Int} {k : Nat} (h : k < l.length) : (l ++ [x]).getD k 0 = l.getD k 0 := by simp [List.getD, List.getElem?_append_left h]
theorem dep_snoc {l : List Int} (hl : ParOk l) {x : Int} : ∀ (k : Nat) (a : Int), a < k → a < l.length → -1 ≤ x → x < l.length → dep (l ++ [x]) a = dep l a := by
 intro k
 induction k with
 | zero => intro a hk _ _ _; rw [dep_neg (by omega), dep_neg (by omega)]
 | succ k ih =>
  intro a hk hn h1 h2
  by_cases h0 : a < 0
  ·rw [dep_neg h0, dep_neg h0]
  ·have h3 := hl a.toNat (by omega)
   rw [dep_eq hl (by omega) hn, dep_eq (hl.snoc h1 h2) (by omega) (by simp; omega), getD_left (by omega), ih _ (by omega) (by omega) h1 h2]
instance : Inhabited TStep := ⟨⟨0, 0, [], 0, [], []⟩⟩
def nS (p : List TStep) (i : Nat) : TStep := p.getD i default
def pars (p : List TStep) : List Int := p.map TStep.par
def highA (k : Int) : Int := if k = 5 then 9 else if k = 6 ∨ k = 8 then 99 else if k = 7 then 3 else 0
def lowA (k : Int) : Int := if k = 6 ∨ k = 8 then 1 else 0
def alien (s : TStep) : Bool := (decide (s.name ≠ []) && decide (s.kind ≠ 2)) || (decide (s.arg ≠ 0) && decide (highA s.kind = 0)) || (decide (0 < s.expr.length) && decide (s.kind ≠ 7))
def stepF (l : List Int) (s : TStep) : Int :=
 if s.kind < 1 ∨ 8 < s.kind ∨ alien s = true then 1
 else if parF l s.par ≠ 0 then parF l s.par
 else if 7 < dep (l ++ [s.par]) l.length then 2
 else if s.kind = 2 then nameF s.name
 else if s.arg < lowA s.kind ∨ highA s.kind < s.arg then 3
 else if s.kind = 7 then exprF s.expr else 0
def oneF (p : List TStep) (i : Nat) : Int := stepF ((pars p).take i) (nS p i)
def kidU (p : List TStep) (a : Int) (i : Nat) : List Int := ((List.range i).filter fun k => decide (0 < k) && decide ((nS p k).par = a)).map fun (k : Nat) => (k : Int)
def kids (p : List TStep) (a : Int) : List Int := kidU p a p.length
theorem kidU_step (p : List TStep) (a : Int) (i : Nat) : kidU p a (i + 1) = kidU p a i ++ (if 0 < i ∧ (nS p i).par = a then [(i : Int)] else []) := by
 unfold kidU
 rw [List.range_succ, List.filter_append, List.map_append]
 congr 1
 by_cases h : 0 < i ∧ (nS p i).par = a
 ·rw [if_pos h]; simp [h]
 ·rw [if_neg h]
  rw [List.filter_cons_of_neg (by simpa using h)]; rfl
theorem kidU_len (p : List TStep) (a : Int) (i : Nat) : (kidU p a i).length ≤ i := by
 unfold kidU; rw [List.length_map]; exact Nat.le_trans (List.length_filter_le _ _) (by simp)
theorem kids_mem {p : List TStep} {a k : Int} : k ∈ kids p a ↔ ∃ m : Nat, k = m ∧ 0 < m ∧ m < p.length ∧ (nS p m).par = a := by
 unfold kids kidU
 simp only [List.mem_map, List.mem_filter, List.mem_range, Bool.and_eq_true, decide_eq_true_eq]
 constructor
 ·rintro ⟨m, ⟨h1, h2, h3⟩, rfl⟩; exact ⟨m, rfl, h2, h1, h3⟩
 ·rintro ⟨m, rfl, h2, h1, h3⟩; exact ⟨m, ⟨h1, h2, h3⟩, rfl⟩
def lastI (l : List Int) : Int := l.getD (l.length - 1) 0
def headI (l : List Int) : Int := l.getD 0 0
def kidLo (k : Int) : Int := if k = 1 then 1 else if k = 3 ∨ k = 4 ∨ k = 8 then 2 else 0
def kidHi (k : Int) : Int := if k = 1 ∨ k = 3 ∨ k = 4 then 24 else if k = 8 then 2 else 0
def wants (p : List TStep) (i : Nat) : Bool :=
 decide (i ≠ 0) && decide ((nS p (nS p i).par.toNat).kind = 3) && decide ((i : Int) ≠ lastI (kids p (nS p i).par))
def shapeF (p : List TStep) (i : Nat) : Int :=
 let s := nS p i
 if inR (kids p i).length (kidLo s.kind) (kidHi s.kind) = false then 1
 else if decide (0 < s.cond.length) ≠ wants p i then 1
 else if 0 < s.cond.length then exprF s.cond else 0
def tyF (p : List TStep) (i : Nat) : Int := if typF (nS p i).cond 2 ≠ 0 then typF (nS p i).cond 2 else typF (nS p i).expr 1
def procF (p : List TStep) : Int :=
 if inR p.length 1 24 = false then 2
 else if sc (oneF p) p.length 0 ≠ 0 then sc (oneF p) p.length 0
 else if sc (shapeF p) p.length 0 ≠ 0 then sc (shapeF p) p.length 0
 else sc (tyF p) p.length 0
theorem pars_len (p : List TStep) : (pars p).length = p.length := by simp [pars]
theorem pars_get {p : List TStep} {i : Nat} (h : i < p.length) : (pars p).getD i 0 = (nS p i).par := by
 simp [pars, nS, List.getD, List.getElem?_map, List.getElem?_eq_getElem h]
theorem pars_take {p : List TStep} {i : Nat} (h : i < p.length) : (pars p).take (i + 1) = (pars p).take i ++ [(nS p i).par] := by
 have e : (pars p)[i]? = some (nS p i).par := by simp [pars, nS, List.getD, List.getElem?_map, List.getElem?_eq_getElem h]
 rw [List.take_add_one, e]; rfl
theorem stepF_par {l : List Int} {s : TStep} (h : stepF l s = 0) : parF l s.par = 0 := by
 unfold stepF at h
 split at h
 ·cases h
 ·split at h
  ·exact absurd h (by assumption)
  ·rename_i h2; simpa using h2
theorem ones_ok {p : List TStep} : ∀ (i : Nat), i ≤ p.length → (∀ k, k < i → oneF p k = 0) → ParOk ((pars p).take i) := by
 intro i
 induction i with
 | zero => intro _ _ k hk; simp at hk
 | succ i ih =>
  intro hi h
  have h1 := ih (by omega) fun k hk => h k (by omega)
  have h2 := parF_ok (stepF_par (h i (by omega)))
  rw [pars_take (by omega)]
  exact h1.snoc h2.1 h2.2.1
end Go.AM
namespace Go.AM
def actA (c : TChart) (i : Int) : Int := c.acts.getD i.toNat 0
def dueA (c : TChart) (i : Int) : Int := c.dues.getD i.toNat 0
def stepA (p : List TStep) (i : Int) : TStep := nS p i.toNat
def cnt (c : TChart) (a : Int) (l : List Int) : Int := (l.countP fun k => decide (actA c k = a) : Nat)
theorem cnt_nil (c : TChart) (a : Int) : cnt c a [] = 0 := rfl
theorem cnt_step {c : TChart} {a : Int} {l : List Int} {i : Nat} {x : Int} (h : l[i]? = some x) : cnt c a (l.take (i + 1)) = cnt c a (l.take i) + if actA c x = a then 1 else 0 := by
 unfold cnt
 rw [List.take_add_one, h, List.countP_append]
 by_cases h0 : actA c x = a <;> simp [h0]
theorem cnt_le (c : TChart) (a : Int) (l : List Int) : 0 ≤ cnt c a l ∧ cnt c a l ≤ l.length := by
 unfold cnt
 have := List.countP_le_length (p := fun k => decide (actA c k = a)) (l := l)
 omega
theorem cnt_pos {c : TChart} {a k : Int} {l : List Int} (h : k ∈ l) (ha : actA c k = a) : 0 < cnt c a l := by
 unfold cnt
 have := List.countP_pos_iff (p := fun k => decide (actA c k = a)) (l := l) |>.2 ⟨k, h, by simpa using ha⟩
 omega
theorem cnt_zero {c : TChart} {a : Int} {l : List Int} (h : ∀ k ∈ l, actA c k ≠ a) : cnt c a l = 0 := by
 unfold cnt
 have := List.countP_eq_zero (p := fun k => decide (actA c k = a)) (l := l) |>.2 fun k hk => by simpa using h k hk
 omega
def fits (p : List TStep) (c : TChart) (at_ : Int) : Bool :=
 let s := stepA p at_
 let a := actA c at_
 let l := kids p at_
 let on := cnt c 1 l
 let ov := cnt c 2 l
 if a = 2 ∧ (at_ = 0 ∨ (stepA p s.par).kind ≠ 4) then false
 else if a ≠ 1 then decide (on + ov = 0) && decide (dueA c at_ = 0)
 else if s.kind = 1 ∨ s.kind = 3 then decide (on = 1) && decide (dueA c at_ = 0)
 else if s.kind = 4 then decide (on ≠ 0) && decide (on + ov = l.length) && decide (dueA c at_ = 0)
 else if s.kind = 8 then decide (on = 1) && (decide (actA c (headI l) = 1) == decide (dueA c at_ ≠ 0))
 else if s.kind = 6 then decide (dueA c at_ ≠ 0)
 else if s.kind = 7 then false
 else decide (dueA c at_ = 0)
def wrong9 (p : List TStep) (c : TChart) (at_ : Int) : Bool :=
 let l := kids p at_
 let on := cnt c 1 l
 let ov := cnt c 2 l
 let due := decide (dueA c at_ ≠ 0)
 if actA c at_ ≠ 1 then decide (0 < on + ov) || due
 else if (stepA p at_).kind = 1 ∨ (stepA p at_).kind = 3 then decide (on ≠ 1) || decide (0 < ov) || due
 else if (stepA p at_).kind = 4 then decide (on < 1) || decide (on + ov ≠ l.length) || due
 else if (stepA p at_).kind = 8 then decide (on ≠ 1) || decide (0 < ov) || (due != decide (actA c (headI l) = 1))
 else if (stepA p at_).kind = 6 then !due
 else if (stepA p at_).kind = 7 then true
 else due
def allFit (p : List TStep) (c : TChart) (n : Nat) : Bool := (List.range n).all fun (i : Nat) => fits p c i
def someWrong (p : List TStep) (c : TChart) (n : Nat) : Bool := (List.range n).any fun (i : Nat) => wrong9 p c i
theorem allFit_step (p : List TStep) (c : TChart) (n : Nat) : allFit p c (n + 1) = (allFit p c n && fits p c n) := by
 unfold allFit; rw [List.range_succ, List.all_append]; simp
theorem someWrong_step (p : List TStep) (c : TChart) (n : Nat) : someWrong p c (n + 1) = (someWrong p c n || wrong9 p c n) := by
 unfold someWrong; rw [List.range_succ, List.any_append]; simp
structure ProcOk (p : List TStep) : Prop where
 len : 1 ≤ p.length ∧ p.length ≤ 24
 one : ∀ i, i < p.length → oneF p i = 0
 shape : ∀ i, i < p.length → shapeF p i = 0
 ty : ∀ i, i < p.length → tyF p i = 0
theorem procOk {p : List TStep} (h : procF p = 0) : ProcOk p := by
 unfold procF at h
 split at h
 ·cases h
 rename_i h0
 split at h
 ·exact absurd h (by assumption)
 rename_i h1
 split at h
 ·exact absurd h (by assumption)
 rename_i h2
 have h0 : inR (↑p.length) 1 24 = true := by simpa using h0
 have h0 := inR_iff.1 h0
 exact ⟨by omega, sc_all (by simpa using h1), sc_all (by simpa using h2), sc_all h⟩
theorem ProcOk.par {p : List TStep} (h : ProcOk p) : ParOk (pars p) := by
 have := ones_ok p.length (Nat.le_refl _) h.one
 rwa [List.take_of_length_le (by rw [pars_len]; exact Nat.le_refl _)] at this
theorem ProcOk.par0 {p : List TStep} (h : ProcOk p) : (nS p 0).par = -1 := by
 have h1 := parF_ok (stepF_par (h.one 0 (by have := h.len; omega)))
 simp at h1; omega
theorem ProcOk.parI {p : List TStep} (h : ProcOk p) {i : Nat} (h0 : 0 < i) (hi : i < p.length) : 0 ≤ (nS p i).par ∧ (nS p i).par < i := by
 have h1 := parF_ok (stepF_par (h.one i hi))
 have hl : ((pars p).take i).length = i := by rw [List.length_take, pars_len]; omega
 rw [hl] at h1
 exact ⟨h1.2.2 h0, h1.2.1⟩
theorem ProcOk.kind {p : List TStep} (h : ProcOk p) {i : Nat} (hi : i < p.length) : 1 ≤ (nS p i).kind ∧ (nS p i).kind ≤ 8 := by
 have h1 := h.one i hi
 unfold oneF stepF at h1
 split at h1
 ·cases h1
 ·omega
theorem ProcOk.many {p : List TStep} (h : ProcOk p) {i : Nat} (hi : i < p.length) : kidLo (nS p i).kind ≤ (kids p i).length ∧ ((kids p i).length : Int) ≤ kidHi (nS p i).kind := by
 have h1 := h.shape i hi
 unfold shapeF at h1
 simp only at h1
 split at h1
 ·cases h1
 ·rename_i h2; exact inR_iff.1 (by simpa using h2)
theorem fits_iff {p : List TStep} {c : TChart} (hp : ProcOk p) : (allFit p c p.length = true ∧ actA c 0 = 1) ↔ (actA c 0 = 1 ∧ someWrong p c p.length = false) := by
 unfold allFit someWrong
 rw [Bool.eq_false_iff]
 simp only [List.all_eq_true, List.any_eq_true, List.mem_range, ne_eq, not_exists, not_and, Bool.not_eq_true]
 constructor
 ·rintro ⟨h, h0⟩
  refine ⟨h0, fun i hi => ?_⟩
  have hf := h i hi
  have hov : (stepA p i).kind ≠ 4 → cnt c 2 (kids p i) = 0 := by
   intro hk
   refine cnt_zero fun k hk' => ?_
   obtain ⟨m, rfl, h1, h2, h3⟩ := kids_mem.1 hk'
   intro ha
   have hm := h m h2
   unfold fits at hm
   simp only at hm
   rw [if_pos ⟨ha, Or.inr (by simp only [stepA, Int.toNat_natCast] at hk ⊢; rw [h3]; simpa using hk)⟩] at hm
   cases hm
  unfold fits at hf
  unfold wrong9
  simp only at hf ⊢
  split at hf
  ·cases hf
  split at hf
  ·rename_i h1
   rw [if_pos h1]
   simp at hf ⊢; omega
  ·rename_i h1
   rw [if_neg h1]
   split at hf
   ·rename_i h2
    rw [if_pos h2, hov (by omega)]
    simp at hf ⊢; omega
   ·rename_i h2
    rw [if_neg h2]
    split at hf
    ·rename_i h3
     rw [if_pos h3]
     have := (cnt_le c 1 (kids p i)).1
     simp at hf ⊢; omega
    ·rename_i h3
     rw [if_neg h3]
     split at hf
     ·rename_i h4
      rw [if_pos h4, hov (by omega)]
      simp at hf ⊢
      refine ⟨hf.1, ?_⟩
      have := hf.2
      by_cases ha : actA c (headI (kids p i)) = 1 <;> by_cases hd : dueA c i = 0 <;> simp_all
     ·rename_i h4
      rw [if_neg h4]
      split at hf
      ·rename_i h5
       rw [if_pos h5]; simp at hf ⊢; exact hf
      ·rename_i h5
       rw [if_neg h5]
       split at hf
       ·cases hf
       ·rename_i h6
        rw [if_neg h6]; simp at hf ⊢; exact hf
 ·rintro ⟨h0, h⟩
  refine ⟨fun i hi => ?_, h0⟩
  have hf := h i hi
  have hov : actA c i = 2 → i ≠ 0 ∧ (stepA p (stepA p i).par).kind = 4 := by
   intro ha
   have hi0 : i ≠ 0 := by rintro rfl; rw [show ((0 : Nat) : Int) = 0 by rfl] at ha; omega
   refine ⟨hi0, ?_⟩
   have hpi := hp.parI (by omega) hi
   obtain ⟨m, hm⟩ : ∃ m : Nat, (nS p i).par = m := ⟨_, (Int.toNat_of_nonneg hpi.1).symm⟩
   have hmi : m < p.length := by omega
   have hmem : (i : Int) ∈ kids p m := kids_mem.2 ⟨i, rfl, by omega, hi, hm⟩
   have hpos := cnt_pos hmem ha
   have hge := (cnt_le c 1 (kids p m)).1
   have hw := h m hmi
   have hmany := (hp.many hmi).2
   have hkind := hp.kind hmi
   have hlen : 1 ≤ (kids p m).length := by
    have := List.length_pos_of_mem hmem; omega
   have e1 : stepA p (stepA p i).par = nS p m := by simp only [stepA, Int.toNat_natCast]; rw [hm]; simp
   rw [e1]
   unfold wrong9 at hw
   have e2 : stepA p (m : Int) = nS p m := by simp [stepA]
   simp only [e2] at hw
   generalize (nS p m).kind = kk at *
   unfold kidHi at hmany
   split at hw
   ·simp at hw; omega
   ·split at hw
    ·simp at hw; omega
    ·split at hw
     ·assumption
     ·split at hw
      ·simp at hw; omega
      ·exfalso
       first | omega | (split at hmany <;> first | omega | (split at hmany <;> omega))
  unfold wrong9 at hf
  unfold fits
  simp only at hf ⊢
  rw [if_neg (by
   rintro ⟨h1, h2⟩
   have := hov h1
   rcases h2 with h2 | h2
   ·omega
   ·exact h2 this.2)]
  split at hf
  ·rename_i h1
   rw [if_pos h1]
   have g1 := (cnt_le c 1 (kids p i)).1
   have g2 := (cnt_le c 2 (kids p i)).1
   simp at hf ⊢; omega
  ·rename_i h1
   rw [if_neg h1]
   split at hf
   ·rename_i h2
    rw [if_pos h2]; simp at hf ⊢; omega
   ·rename_i h2
    rw [if_neg h2]
    split at hf
    ·rename_i h3
     rw [if_pos h3]; simp at hf ⊢; omega
    ·rename_i h3
     rw [if_neg h3]
     split at hf
     ·rename_i h4
      rw [if_pos h4]
      simp at hf ⊢
      refine ⟨hf.1.1, ?_⟩
      have := hf.2
      by_cases ha : actA c (headI (kids p i)) = 1 <;> by_cases hd : dueA c i = 0 <;> simp_all
     ·rename_i h4
      rw [if_neg h4]
      split at hf
      ·rename_i h5
       rw [if_pos h5]; simp at hf ⊢; exact hf
      ·rename_i h5
       rw [if_neg h5]
       split at hf
       ·cases hf
       ·rename_i h6
        rw [if_neg h6]; simp at hf ⊢; exact hf
def zeros (l : List Int) : Bool := l.all fun n => decide (n = 0)
def smallB (l : List Int) (m : Int) : Bool := l.all fun n => inR n 0 m
theorem smallB_zero (l : List Int) : smallB l 0 = zeros l := by
 unfold smallB zeros
 congr 1; funext n
 rw [Bool.eq_iff_iff, inR_iff]; simp; omega
def chartF (p : List TStep) (c : TChart) : Int :=
 if procF p ≠ 0 then procF p
 else if inR c.status 1 3 = false ∨ inR c.now 0 1000000 = false then 3
 else if varsF c.vars ≠ 0 then varsF c.vars
 else if c.acts.length ≠ p.length ∨ c.dues.length ≠ p.length then 2
 else if smallB c.acts 2 = false ∨ smallB c.dues (c.now + 99) = false then 3
 else if c.status ≠ 1 then (if zeros c.acts = true ∧ zeros c.dues = true then 0 else 1)
 else if actA c 0 = 1 ∧ someWrong p c p.length = false then 0 else 1
instance : Inhabited TProc := ⟨⟨[]⟩⟩
instance : Inhabited TChart := ⟨⟨0, 0, [], [], []⟩⟩
instance : Inhabited TInst := ⟨⟨0, default⟩⟩
instance : Inhabited TClaim := ⟨⟨0, 0, 0⟩⟩
end Go.AM
namespace Go.AM
def nlc (es : Nat) (l : List (List AV)) : AV := match l with
  | [] => .nils
  | x :: r => .osl es (x :: r)
@[go_sem high] theorem nlc_nil (es : Nat) : nlc es [] = .nils := rfl
@[go_sem high] theorem nlc_cons (es : Nat) (x : List AV) (r : List (List AV)) : nlc es (x :: r) = .osl es (x :: r) := rfl
theorem nlc_ne {es : Nat} {l : List (List AV)} (h : l ≠ []) : nlc es l = .osl es l := by cases l; exact absurd rfl h; rfl
@[go_sem high] theorem nlc_tree (es : Nat) (l : List (List AV)) : (nlc es l).tree = true := by cases l <;> rfl
@[go_sem high] theorem nlc_ids (es : Nat) (l : List (List AV)) : (nlc es l).ids = [] := by cases l <;> simp [nlc, AV.ids]
@[go_sem high] theorem nlc_ownd (es : Nat) (l : List (List AV)) : (nlc es l).ownd = owndLL l := by cases l <;> simp [nlc, AV.ownd, owndLL]
@[go_sem high] theorem nlc_le (es : Nat) (l m : List (List AV)) : leA0 (.osl es l) (nlc es m) ↔ l = m ∧ m ≠ [] := by
  cases m with
  | nil => simp [nlc, leA0]
  | cons y r => simp [nlc, leA0]
@[go_sem high] theorem nlc_lenil (es : Nat) (m : List (List AV)) : leA0 .nils (nlc es m) ↔ m = [] := by cases m <;> simp [nlc, leA0]
@[go_sem high] theorem nlc_lenlc (es : Nat) (l : List (List AV)) : leA0 (nlc es l) (nlc es l) := by cases l <;> simp [nlc, leA0]
end Go.AM
namespace Go.AM
attribute [go_sem] renS AV.ren renL
theorem sc_first {f : Nat → Int} {n : Nat} (i j : Nat) (hj : j ≤ i) (hi : i < n) (h0 : ∀ k, j ≤ k → k < i → f k = 0) (hne : f i ≠ 0) : sc f n j = f i := by
 have key : ∀ m j, i - j = m → j ≤ i → (∀ k, j ≤ k → k < i → f k = 0) → sc f n j = f i := by
  intro m
  induction m with
  | zero =>
   intro j h1 h2 _
   obtain rfl : j = i := by omega
   exact sc_hit hi hne
  | succ m ih =>
   intro j h1 h2 h3
   rw [sc_go (by omega) (h3 j (Nat.le_refl _) (by omega))]
   exact ih (j + 1) (by omega) (by omega) fun k h4 h5 => h3 k (by omega) h5
 exact key _ j rfl hj h0
theorem sc_none {f : Nat → Int} {n : Nat} (h : ∀ k, k < n → f k = 0) : sc f n 0 = 0 := by
 have key : ∀ m i, n - i = m → sc f n i = 0 := by
  intro m
  induction m with
  | zero => intro i hi; exact sc_end (by omega)
  | succ m ih => intro i hi; rw [sc_go (by omega) (h i (by omega))]; exact ih _ (by omega)
 exact key _ 0 rfl
theorem upto {f : Nat → Int} {i : Nat} (h : ∀ k, k < i → f k = 0) (h0 : f i = 0) : ∀ k, k < i + 1 → f k = 0 := by
 intro k hk
 rcases Nat.eq_or_lt_of_le (Nat.le_of_lt_succ hk) with rfl | hk
 ·exact h0
 ·exact h k hk
theorem nA_at {e : List TNode} {i : Nat} {x : TNode} (h : e[i]? = some x) : nA e i = x := by simp [nA, List.getD, h]
theorem nodeAt_at {e : List TNode} {i : Nat} {x : TNode} (h : e[i]? = some x) : nodeAt e i = nodeF x i := by rw [nodeAt, nA_at h]
theorem exprF_len {e : List TNode} (h : inR e.length 1 16 = false) : exprF e = 2 := by rw [exprF, if_pos h]
theorem exprF_len' {e : List TNode} (h : e.length < 1 ∨ 16 < e.length) : exprF e = 2 := exprF_len (inR_not.2 (by omega))
theorem exprF_node {e : List TNode} {i : Nat} (hR : inR e.length 1 16 = true) (hi : i < e.length) (h : ∀ k, k < i → nodeAt e k = 0) (hne : nodeAt e i ≠ 0) : exprF e = nodeAt e i := by
 have hs := sc_first i 0 (Nat.zero_le _) hi (fun k _ hk => h k hk) hne
 rw [exprF, if_neg (by rw [hR]; decide), hs, if_pos hne]
theorem exprF_end {e : List TNode} (hR : inR e.length 1 16 = true) (h : ∀ k, k < e.length → nodeAt e k = 0) : exprF e = if wrongU e e.length = true ∨ szA e (e.length - 1) ≠ e.length then 1 else 0 := by
 rw [exprF, if_neg (by rw [hR]; decide), sc_none h, if_neg (by decide)]
theorem sizesL_at {e : List TNode} {i j : Nat} (h : j < i) : (sizesL e i)[j]? = some (szA e j) := by
 have h1 := sizesL_get e j i h
 have h2 : j < (sizesL e i).length := by rw [sizesL_len]; exact h
 rw [List.getElem?_eq_getElem h2]
 simp only [List.getD, List.getElem?_eq_getElem h2, Option.getD_some] at h1
 rw [h1]
theorem sizesL_succ (e : List TNode) (i : Nat) : sizesL e (i + 1) = sizesL e i ++ [szA e i] := by
 rw [szA_eq]; rfl
theorem szA_at {e : List TNode} {i : Nat} {x : TNode} (h : e[i]? = some x) (hp : nodeF x i = 0) : szA e i = if x.kind = 10 then 1 + szA e x.left.toNat else if isTwoB x.kind then 1 + (szA e x.left.toNat + szA e x.right.toNat) else 1 := by
 have hq := nodeF_parts hp
 rw [szA_eq]
 unfold sizeOf1
 simp only [nA_at h]
 split
 ·rename_i h10
  rw [sizesL_get e _ i (hq.1 h10).2]
 ·split
  ·rename_i h2
   rw [sizesL_get e _ i (hq.2.1 h2).2.1, sizesL_get e _ i (hq.2.1 h2).2.2.2]; omega
  ·rfl
theorem wrongU_at {e : List TNode} {i : Nat} {x : TNode} (h : e[i]? = some x) : wrongU e (i + 1) = (wrongU e i || if x.kind = 10 then decide (x.left ≠ (i : Int) - 1)
  else if isTwoB x.kind then decide (x.right ≠ (i : Int) - 1) || decide (x.left ≠ (i : Int) - 1 - szA e x.right.toNat) else false) := by
 rw [wrongU_step]
 unfold wrong1
 simp only [nA_at h]
theorem not_two {k : Int} (h1 : ¬ isTwoB k = true) (h2 : k ≠ 10) (h3 : 1 ≤ k) (h4 : k ≤ 10) : k ≤ 2 := by
 have : isTwoB k = false := by simpa using h1
 rw [isTwoB, inR_not] at this; omega
theorem left_of {x : TNode} {i : Nat} (h : nodeF x i = 0) (h2 : 2 < x.kind) : 0 ≤ x.left ∧ x.left.toNat < i := by
 have hq := nodeF_parts h
 by_cases h10 : x.kind = 10
 ·exact hq.1 h10
 ·by_cases h3 : isTwoB x.kind = true
  ·exact ⟨(hq.2.1 h3).1, (hq.2.1 h3).2.1⟩
  ·have := not_two h3 h10 hq.2.2.1 hq.2.2.2.1; omega
theorem upto_at {l : List Nat} {i y : Nat} (h : ∀ k, k < i → l[k]? = some k) (hy : l[i]? = some y) (e : y = i) : ∀ k, k < i + 1 → l[k]? = some k := by
 intro k hk
 rcases Nat.eq_or_lt_of_le (Nat.le_of_lt_succ hk) with rfl | hk
 ·rw [hy, e]
 ·exact h k hk
def typesL (e : List TNode) (i : Nat) : List Int := (List.range i).map fun j => ownT (nA e j).kind
theorem typesL_len (e : List TNode) (i : Nat) : (typesL e i).length = i := by simp [typesL]
theorem typesL_at {e : List TNode} {i j : Nat} (h : j < i) : (typesL e i)[j]? = some (ownT (nA e j).kind) := by simp [typesL, h]
theorem typesL_succ (e : List TNode) (i : Nat) : typesL e (i + 1) = typesL e i ++ [ownT (nA e i).kind] := by simp [typesL, List.range_succ]
theorem exprF_zero {e : List TNode} (h : exprF e = 0) : inR e.length 1 16 = true ∧ PartsOk e e.length := by
 unfold exprF at h
 split at h
 ·cases h
 split at h
 ·exact absurd h (by assumption)
 ·rename_i h1 h2
  exact ⟨by simpa using h1, sc_all (by simpa using h2)⟩
theorem typC_f {e : List TNode} (h : exprF e ≠ 0) : typC e = exprF e ∧ typV e = 0 := by
 have h1 : typC e = exprF e := by rw [typC, if_pos h]
 exact ⟨h1, by rw [typV, h1, if_pos h]⟩
theorem typC_b {e : List TNode} (h : exprF e = 0) (hu : typU e e.length = true) : typC e = 7 ∧ typV e = 0 := by
 have h1 : typC e = 7 := by rw [typC, if_neg (by simp [h]), if_pos hu]
 exact ⟨h1, by rw [typV, h1, if_pos (by decide)]⟩
theorem typC_k {e : List TNode} (h : exprF e = 0) (hu : typU e e.length = false) : typC e = 0 ∧ typV e = ownT (nA e (e.length - 1)).kind := by
 have h1 : typC e = 0 := by rw [typC, if_neg (by simp [h]), if_neg (by simp [hu])]
 exact ⟨h1, by rw [typV, h1, if_neg (by decide)]⟩
theorem typU_hit {e : List TNode} {i : Nat} (hi : i < e.length) (h : typBad e i = true) : typU e e.length = true := typU_mono (show i + 1 ≤ e.length by omega) (by rw [typU_step, h]; simp)
theorem typU_go {e : List TNode} {i : Nat} (hu : typU e i = false) (h : typBad e i = false) : typU e (i + 1) = false := by rw [typU_step, hu, h]; rfl
def N1 (n : Nat) : List AV := [.int .i64 (n : Int)]
@[go_sem] theorem N1_eq (n : Nat) : N1 n = [.int .i64 (n : Int)] := rfl
@[go_sem] theorem N1_un (x : Nat) : (N1 x).map unown = N1 x := rfl
@[go_sem high] theorem N1_unL (l : List _) : unownLL (l.map N1) = l.map N1 := unownLL_map N1_un l
@[go_sem high] theorem N1_unM (l : List _) : (l.map N1).map (List.map unown) = l.map N1 := mapun N1_un l
@[go_sem] theorem N1_ownd (x) : owndL (N1 x) = true := by simp [N1, go_sem]
@[go_sem high] theorem N1_owndL (l : List _) : owndLL (l.map N1) = true := owndLL_map N1_ownd l
@[go_sem] theorem N1_ids (x) : idsL (N1 x) = [] := by simp [N1, go_sem]
@[go_sem high] theorem N1_idsL (l : List _) : (l.map N1).flatMap idsL = [] := flatids N1_ids l
theorem N1_tree (a) : ∀ x ∈ N1 a, x.tree = true := by simp [N1, go_sem]
@[go_sem high] theorem N1_treeL (l : List _) : (∀ c ∈ l.map N1, ∀ x ∈ c, AV.tree x = true) ↔ True := maptree N1_tree l
@[go_sem ↓ high] theorem tree_appE (a b : List (List AV)) : (∀ c ∈ a ++ b, ∀ x ∈ c, AV.tree x = true) ↔ (∀ c ∈ a, ∀ x ∈ c, AV.tree x = true) ∧ (∀ c ∈ b, ∀ x ∈ c, AV.tree x = true) := List.forall_mem_append
attribute [go_sem ↓ high] N1_treeL I1_treeL
theorem walkC_len {e : List TNode} : ∀ (f i : Nat) (out : List Nat), (walkC e f i out).length ≤ max out.length (17 + f) := by
 intro f
 induction f with
 | zero => intro i out; simp only [walkC]; omega
 | succ f ih =>
  intro i out
  simp only [walkC]
  split
  ·omega
  ·simp only [List.length_append, List.length_cons, List.length_nil]
   have h1 : (if 2 < (nA e i).kind then walkC e f (nA e i).left.toNat out else out).length ≤ 17 + f := by
    split
    ·have := ih (nA e i).left.toNat out; omega
    ·omega
   generalize (if 2 < (nA e i).kind then walkC e f (nA e i).left.toNat out else out) = o1 at *
   split
   ·have := ih (nA e i).right.toNat o1; omega
   ·omega
theorem wkF_len {e : List TNode} {i : Nat} {out : List Nat} (h : out.length ≤ 40) (hi : i < 17) : (wkF e i out).length ≤ 40 := by
 have := walkC_len (e := e) (i + 1) i out
 unfold wkF; omega
theorem wk_ne_len {l : List Nat} {n : Nat} (h : l.length ≠ n) : l ≠ List.range n := by rintro rfl; simp at h
theorem wk_ne_at {l : List Nat} {n i y : Nat} (h : l[i]? = some y) (hy : y ≠ i) : l ≠ List.range n := by
 rintro rfl
 obtain ⟨h1, h2⟩ := List.getElem?_eq_some_iff.1 h
 simp at h2; omega
theorem wk_eq {l : List Nat} {n : Nat} (hl : l.length = n) (h : ∀ k, k < l.length → l[k]? = some k) : l = List.range n := by
 apply List.ext_getElem?
 intro k
 by_cases hk : k < l.length
 ·rw [h k hk, List.getElem?_range (by omega)]
 ·rw [List.getElem?_eq_none (by omega), List.getElem?_eq_none (by simp; omega)]
theorem exprF_wk {e : List TNode} (hR : inR e.length 1 16 = true) (h : ∀ k, k < e.length → nodeAt e k = 0) : exprF e = if wkF e (e.length - 1) [] = List.range e.length then 0 else 1 := by
 have hl := inR_iff.1 hR
 rw [exprF_end hR h]
 have hw := wk_iff (e := e) (n := e.length) h (by omega) (by omega)
 by_cases h1 : wkF e (e.length - 1) [] = List.range e.length
 ·have h2 := hw.1 h1
  rw [if_pos h1, if_neg (by rintro (h3 | h3) <;> simp_all)]
 ·rw [if_neg h1, if_pos]
  by_cases h3 : wrongU e e.length = true
  ·exact Or.inl h3
  ·exact Or.inr fun h4 => h1 (hw.2 ⟨by simpa using h3, h4⟩)
end Go.AM
namespace Go.AM
theorem nS_at {p : List TStep} {i : Nat} {x : TStep} (h : p[i]? = some x) : nS p i = x := by simp [nS, List.getD, h]
@[go_sem high] theorem nlc_snoc (es : Nat) (l : List (List AV)) (c : List AV) : nlc es (l ++ [c]) = .osl es (l ++ [c]) := nlc_ne (by simp)
theorem nlc_map {α : Type} {f : α → List AV} {l : List α} (h : l ≠ []) (es : Nat) : nlc es (l.map f) = .osl es (l.map f) := nlc_ne (by simpa using h)
def nxtL (l : List Int) (par : Int) : List Int := if parF l par = 0 then l ++ [par] else l
def nxtD (l d : List Int) (par : Int) : List Int := if parF l par = 0 then d ++ [if 0 ≤ par then d.getD par.toNat 0 + 1 else 1] else d
def depsOf (l : List Int) : List Int := (List.range l.length).map fun (k : Nat) => dep l k
theorem depsOf_len (l : List Int) : (depsOf l).length = l.length := by simp [depsOf]
theorem depsOf_at {l : List Int} {k : Nat} (h : k < l.length) : (depsOf l)[k]? = some (dep l k) := by simp [depsOf, h]
theorem depsOf_get {l : List Int} {k : Nat} (h : k < l.length) : (depsOf l).getD k 0 = dep l k := by rw [List.getD, depsOf_at h]; rfl
theorem getD_last (l : List Int) (x : Int) : (l ++ [x]).getD l.length 0 = x := by simp [List.getD]
theorem dep_new {l : List Int} (hl : ParOk l) {par : Int} (h1 : -1 ≤ par) (h2 : par < l.length) : dep (l ++ [par]) l.length = if 0 ≤ par then dep l par + 1 else 1 := by
 rw [dep_eq (hl.snoc h1 h2) (Int.natCast_nonneg _) (by simp; omega), Int.toNat_natCast, getD_last]
 split
 ·rw [dep_snoc hl (par.toNat + 1) par (by omega) h2 h1 h2]; omega
 ·rw [dep_neg (by omega)]; rfl
theorem nxtD_deps {l : List Int} (hl : ParOk l) {par : Int} (h : parF l par = 0) : nxtD l (depsOf l) par = depsOf (l ++ [par]) := by
 obtain ⟨h1, h2, _⟩ := parF_ok h
 have hn := dep_new hl h1 h2
 rw [nxtD, if_pos h]
 conv => rhs; unfold depsOf
 rw [List.length_append, List.length_singleton, List.range_succ, List.map_append]
 congr 1
 ·unfold depsOf
  apply List.map_congr_left
  intro k hk
  rw [List.mem_range] at hk
  exact (dep_snoc hl (k + 1) k (by omega) (by omega) h1 h2).symm
 ·rw [List.map_singleton, hn]
  congr 1
  split
  ·rw [depsOf_get (by omega)]
   rw [show ((par.toNat : Nat) : Int) = par by omega]
  ·rfl
theorem nxtD_app {l : List Int} (hl : ParOk l) {par : Int} (h : parF l par = 0) : nxtD l (depsOf l) par = depsOf l ++ [dep (l ++ [par]) l.length] := by
 obtain ⟨h1, h2, _⟩ := parF_ok h
 rw [nxtD, if_pos h, dep_new hl h1 h2]
 congr 2
 split
 ·rw [depsOf_get (by omega), show ((par.toNat : Nat) : Int) = par by omega]
 ·rfl
theorem nxtL_app {l : List Int} {par : Int} (h : parF l par = 0) : nxtL l par = l ++ [par] := if_pos h
@[go_sem] theorem unownLL_append (a b : List (List AV)) : unownLL (a ++ b) = unownLL a ++ unownLL b := by simp [unownLL_eq]
theorem stepF_good {l : List Int} {s : TStep} (h1 : inR s.kind 1 8 = true) (h2 : alien s = false) (h3 : parF l s.par = 0) : stepF l s = if 7 < dep (l ++ [s.par]) l.length then 2 else if s.kind = 2 then nameF s.name else if s.arg < lowA s.kind ∨ highA s.kind < s.arg then 3 else if s.kind = 7 then exprF s.expr else 0 := by
 have := inR_iff.1 h1
 unfold stepF
 rw [if_neg (by rw [h2]; simp; omega), if_neg (by simp [h3])]
theorem dep_small {l : List Int} (hl : ParOk l) {a : Int} (h : a < l.length) : 0 ≤ dep l a ∧ dep l a ≤ l.length := by
 have := dep_bd hl (a + 1).toNat.succ a (by omega) h
 by_cases h0 : 0 ≤ a
 ·have := this.2 h0; omega
 ·rw [dep_neg (by omega)]; omega
theorem parF_not3 {l : List Int} {par : Int} (h0 : 0 < l.length) (h : ¬ parF l par = 3) : 0 ≤ par ∧ par < l.length := by
 unfold parF at h
 split at h
 ·exact absurd rfl h
 ·omega
theorem kidU_not {p : List TStep} {a : Int} {i : Nat} {x : TStep} (hx : p[i]? = some x) (h : ¬ (0 < i ∧ x.par = a)) : kidU p a (i + 1) = kidU p a i := by
 rw [kidU_step, nS_at hx, if_neg h, List.append_nil]
theorem kidU_yes {p : List TStep} {a : Int} {i : Nat} {x : TStep} (hx : p[i]? = some x) (h : 0 < i ∧ x.par = a) : kidU p a (i + 1) = kidU p a i ++ [(i : Int)] := by
 rw [kidU_step, nS_at hx, if_pos h]
theorem kids_len (p : List TStep) (a : Int) : (kids p a).length ≤ p.length := kidU_len p a p.length
theorem kids_end {p : List TStep} {a : Int} {i : Nat} (h : i = p.length) : kidU p a i = kids p a := by rw [h]; rfl
theorem last_at {l : List Int} (h : l ≠ []) : l[l.length - 1]? = some (lastI l) := by
 have : l.length - 1 < l.length := by have := List.length_pos_iff.2 h; omega
 rw [lastI, List.getD, List.getElem?_eq_getElem this]; rfl
theorem head_at {l : List Int} (h : l ≠ []) : l[0]? = some (headI l) := by
 cases l with
 | nil => exact absurd rfl h
 | cons x r => rfl
structure StepsOk (p : List TStep) : Prop where
 len : 1 ≤ p.length ∧ p.length ≤ 24
 one : ∀ i, i < p.length → oneF p i = 0
theorem StepsOk.par {p : List TStep} (h : StepsOk p) : ParOk (pars p) := by
 have := ones_ok p.length (Nat.le_refl _) h.one
 rwa [List.take_of_length_le (by rw [pars_len]; exact Nat.le_refl _)] at this
theorem StepsOk.par0 {p : List TStep} (h : StepsOk p) : (nS p 0).par = -1 := by
 have h1 := parF_ok (stepF_par (h.one 0 (by have := h.len; omega)))
 simp at h1; omega
theorem StepsOk.parI {p : List TStep} (h : StepsOk p) {i : Nat} (h0 : 0 < i) (hi : i < p.length) : 0 ≤ (nS p i).par ∧ (nS p i).par < i := by
 have h1 := parF_ok (stepF_par (h.one i hi))
 have hl : ((pars p).take i).length = i := by rw [List.length_take, pars_len]; omega
 rw [hl] at h1
 exact ⟨h1.2.2 h0, h1.2.1⟩
theorem StepsOk.kids_ne {p : List TStep} (h : StepsOk p) {i : Nat} (h0 : 0 < i) (hi : i < p.length) : kids p (nS p i).par ≠ [] := by
 intro e
 have : (i : Int) ∈ kids p (nS p i).par := kids_mem.2 ⟨i, rfl, h0, hi, rfl⟩
 rw [e] at this; cases this
theorem procF_len {p : List TStep} (h : inR p.length 1 24 = false) : procF p = 2 := by rw [procF, if_pos h]
theorem procF_len' {p : List TStep} (h : p.length < 1 ∨ 24 < p.length) : procF p = 2 := procF_len (inR_not.2 (by omega))
theorem procF_one {p : List TStep} {i : Nat} (hR : inR p.length 1 24 = true) (hi : i < p.length) (h : ∀ k, k < i → oneF p k = 0) (hne : oneF p i ≠ 0) : procF p = oneF p i := by
 have hs := sc_first i 0 (Nat.zero_le _) hi (fun k _ hk => h k hk) hne
 rw [procF, if_neg (by rw [hR]; decide), hs, if_pos hne]
theorem procF_shape {p : List TStep} {i : Nat} (hR : inR p.length 1 24 = true) (h1 : ∀ k, k < p.length → oneF p k = 0) (hi : i < p.length) (h : ∀ k, k < i → shapeF p k = 0) (hne : shapeF p i ≠ 0) : procF p = shapeF p i := by
 have hs := sc_first i 0 (Nat.zero_le _) hi (fun k _ hk => h k hk) hne
 rw [procF, if_neg (by rw [hR]; decide), sc_none h1, if_neg (by decide), hs, if_pos hne]
theorem procF_ty {p : List TStep} {i : Nat} (hR : inR p.length 1 24 = true) (h1 : ∀ k, k < p.length → oneF p k = 0) (h2 : ∀ k, k < p.length → shapeF p k = 0) (hi : i < p.length) (h : ∀ k, k < i → tyF p k = 0) (hne : tyF p i ≠ 0) : procF p = tyF p i := by
 have hs := sc_first i 0 (Nat.zero_le _) hi (fun k _ hk => h k hk) hne
 rw [procF, if_neg (by rw [hR]; decide), sc_none h1, if_neg (by decide), sc_none h2, if_neg (by decide), hs]
theorem procF_ok {p : List TStep} (hR : inR p.length 1 24 = true) (h1 : ∀ k, k < p.length → oneF p k = 0) (h2 : ∀ k, k < p.length → shapeF p k = 0) (h3 : ∀ k, k < p.length → tyF p k = 0) : procF p = 0 := by
 rw [procF, if_neg (by rw [hR]; decide), sc_none h1, if_neg (by decide), sc_none h2, if_neg (by decide), sc_none h3]
theorem shape_sc {p : List TStep} {i : Nat} (hi : i < p.length) (h : ∀ k, k < i → shapeF p k = 0) (hne : shapeF p i ≠ 0) : sc (shapeF p) p.length 0 = shapeF p i := sc_first i 0 (Nat.zero_le _) hi (fun k _ hk => h k hk) hne
theorem procF_shape' {p : List TStep} (hR : inR p.length 1 24 = true) (h1 : ∀ k, k < p.length → oneF p k = 0) (hne : sc (shapeF p) p.length 0 ≠ 0) : procF p = sc (shapeF p) p.length 0 := by
 rw [procF, if_neg (by rw [hR]; decide), sc_none h1, if_neg (by decide), if_pos hne]
theorem oneF_at {p : List TStep} {i : Nat} {x : TStep} (h : p[i]? = some x) : oneF p i = stepF ((pars p).take i) x := by rw [oneF, nS_at h]
theorem take_len {p : List TStep} {i : Nat} (h : i ≤ p.length) : ((pars p).take i).length = i := by rw [List.length_take, pars_len]; omega
theorem take_next {p : List TStep} {i : Nat} {x : TStep} (h : p[i]? = some x) : (pars p).take (i + 1) = (pars p).take i ++ [x.par] := by
 rw [pars_take (at_lt h), nS_at h]
def parsT (p : List TStep) (i : Nat) : List Int := (pars p).take i
theorem parsT_zero (p : List TStep) : parsT p 0 = [] := by simp [parsT]
theorem parsT_len {p : List TStep} {i : Nat} (h : i ≤ p.length) : (parsT p i).length = i := take_len h
theorem parsT_next {p : List TStep} {i : Nat} {x : TStep} (h : p[i]? = some x) : parsT p (i + 1) = parsT p i ++ [x.par] := take_next h
theorem oneF_T {p : List TStep} {i : Nat} {x : TStep} (h : p[i]? = some x) : oneF p i = stepF (parsT p i) x := oneF_at h
theorem ones_T {p : List TStep} {i : Nat} (hi : i ≤ p.length) (h : ∀ k, k < i → oneF p k = 0) : ParOk (parsT p i) := ones_ok i hi h
theorem tyF_at {p : List TStep} {i : Nat} {x : TStep} (h : p[i]? = some x) : tyF p i = if typF x.cond 2 ≠ 0 then typF x.cond 2 else typF x.expr 1 := by rw [tyF, nS_at h]
theorem pars_at {p : List TStep} {i : Nat} {x : TStep} (h : p[i]? = some x) {m : Nat} (hm : i < m) : ((pars p).take m).getD i 0 = x.par := by
 simp [pars, List.getD, List.getElem?_take, hm, h]
end Go.AM
namespace Go.AM
theorem actA_nat (c : TChart) (k : Nat) : actA c k = c.acts.getD k 0 := by simp [actA]
theorem dueA_nat (c : TChart) (k : Nat) : dueA c k = c.dues.getD k 0 := by simp [dueA]
theorem getD_at {l : List Int} {k : Nat} (h : k < l.length) : l[k]? = some (l.getD k 0) := by simp [List.getD, List.getElem?_eq_getElem h]
theorem actA_at {c : TChart} {k : Int} (h : k.toNat < c.acts.length) : c.acts[k.toNat]? = some (actA c k) := getD_at h
theorem actN_at {c : TChart} {k : Nat} (h : k < c.acts.length) : c.acts[k]? = some (actA c k) := by rw [actA_nat]; exact getD_at h
theorem dueN_at {c : TChart} {k : Nat} (h : k < c.dues.length) : c.dues[k]? = some (dueA c k) := by rw [dueA_nat]; exact getD_at h
theorem smallB_iff {l : List Int} {m : Int} : smallB l m = true ↔ ∀ k, k < l.length → inR (l.getD k 0) 0 m = true := by
 unfold smallB
 rw [List.all_eq_true]
 constructor
 ·intro h k hk
  have := getD_at hk
  exact h _ (List.mem_of_getElem? this)
 ·intro h x hx
  obtain ⟨k, hk⟩ := List.mem_iff_getElem?.1 hx
  have := h k (List.getElem?_eq_some_iff.1 hk).1
  rwa [List.getD, hk] at this
theorem smallB_any (l : List Int) (m : Int) : (!l.any fun n => !inR n 0 m) = smallB l m := by
 unfold smallB; rw [List.all_eq_not_any_not]
theorem stepA_nat (p : List TStep) (i : Nat) : stepA p i = nS p i := by simp [stepA]
theorem kids_bd {p : List TStep} {a k : Int} (h : k ∈ kids p a) : 0 ≤ k ∧ k.toNat < p.length := by
 obtain ⟨m, rfl, h1, h2, h3⟩ := kids_mem.1 h
 exact ⟨by omega, by omega⟩
theorem cnt_kids {p : List TStep} {c : TChart} {a b : Int} (h : 0 < cnt c a (kids p b)) : kids p b ≠ [] := by
 intro e; rw [e, cnt_nil] at h; omega
theorem fits_at {p : List TStep} {c : TChart} {i : Nat} {x : TStep} (hx : p[i]? = some x) : fits p c i =
  (if actA c i = 2 ∧ (i = 0 ∨ (nS p x.par.toNat).kind ≠ 4) then false
  else if actA c i ≠ 1 then decide (cnt c 1 (kids p i) + cnt c 2 (kids p i) = 0) && decide (dueA c i = 0)
  else if x.kind = 1 ∨ x.kind = 3 then decide (cnt c 1 (kids p i) = 1) && decide (dueA c i = 0)
  else if x.kind = 4 then decide (cnt c 1 (kids p i) ≠ 0) && decide (cnt c 1 (kids p i) + cnt c 2 (kids p i) = (kids p i).length) && decide (dueA c i = 0)
  else if x.kind = 8 then decide (cnt c 1 (kids p i) = 1) && (decide (actA c (headI (kids p i)) = 1) == decide (dueA c i ≠ 0))
  else if x.kind = 6 then decide (dueA c i ≠ 0)
  else if x.kind = 7 then false
  else decide (dueA c i = 0)) := by
 unfold fits
 simp only [stepA_nat, nS_at hx]
 have e : ((i : Int) = 0) = (i = 0) := by simp
 simp only [e, stepA]
theorem wrong9_at {p : List TStep} {c : TChart} {i : Nat} {x : TStep} (hx : p[i]? = some x) : wrong9 p c i =
  (if actA c i ≠ 1 then decide (0 < cnt c 1 (kids p i) + cnt c 2 (kids p i)) || decide (dueA c i ≠ 0)
  else if x.kind = 1 ∨ x.kind = 3 then decide (cnt c 1 (kids p i) ≠ 1) || decide (0 < cnt c 2 (kids p i)) || decide (dueA c i ≠ 0)
  else if x.kind = 4 then decide (cnt c 1 (kids p i) < 1) || decide (cnt c 1 (kids p i) + cnt c 2 (kids p i) ≠ (kids p i).length) || decide (dueA c i ≠ 0)
  else if x.kind = 8 then decide (cnt c 1 (kids p i) ≠ 1) || decide (0 < cnt c 2 (kids p i)) || (decide (dueA c i ≠ 0) != decide (actA c (headI (kids p i)) = 1))
  else if x.kind = 6 then !decide (dueA c i ≠ 0)
  else if x.kind = 7 then true
  else decide (dueA c i ≠ 0)) := by
 unfold wrong9
 simp only [stepA_nat, nS_at hx]
def someNZ (c : TChart) (i : Nat) : Bool := (List.range i).any fun (k : Nat) => decide (actA c k ≠ 0) || decide (dueA c k ≠ 0)
theorem someNZ_step (c : TChart) (i : Nat) : someNZ c (i + 1) = (someNZ c i || (decide (actA c i ≠ 0) || decide (dueA c i ≠ 0))) := by
 unfold someNZ; rw [List.range_succ, List.any_append]; simp
theorem smallB_miss {l : List Int} {m : Int} {k : Nat} (hk : k < l.length) (h : inR (l.getD k 0) 0 m = false) : smallB l m = false := by
 rw [Bool.eq_false_iff]
 intro h1
 rw [smallB_iff.1 h1 k hk] at h; cases h
theorem zeros_iff {l : List Int} : zeros l = true ↔ ∀ k, k < l.length → l.getD k 0 = 0 := by
 rw [← smallB_zero, smallB_iff]
 constructor
 ·intro h k hk; have := inR_iff.1 (h k hk); omega
 ·intro h k hk; exact inR_iff.2 (by have := h k hk; omega)
theorem someNZ_zeros {c : TChart} {n : Nat} (h1 : c.acts.length = n) (h2 : c.dues.length = n) : someNZ c n = false ↔ (zeros c.acts = true ∧ zeros c.dues = true) := by
 rw [zeros_iff, zeros_iff, h1, h2]
 unfold someNZ
 rw [Bool.eq_false_iff]
 simp only [ne_eq, List.any_eq_true, List.mem_range, Bool.or_eq_true, decide_eq_true_eq, not_exists, not_and, not_or, Decidable.not_not, actA_nat, dueA_nat]
 constructor
 ·intro h; exact ⟨fun k hk => (h k hk).1, fun k hk => (h k hk).2⟩
 ·intro h k hk; exact ⟨h.1 k hk, h.2 k hk⟩
theorem someWrong_hit {p : List TStep} {c : TChart} {i : Nat} (hi : i < p.length) (h : wrong9 p c i = true) : someWrong p c p.length = true := by
 unfold someWrong
 rw [List.any_eq_true]
 exact ⟨i, List.mem_range.2 hi, h⟩
theorem allFit_miss {p : List TStep} {c : TChart} {i : Nat} (hi : i < p.length) (h : fits p c i = false) : allFit p c p.length = false := by
 unfold allFit
 rw [List.all_eq_false]
 exact ⟨i, List.mem_range.2 hi, by simpa using h⟩
def ordB (p : List TStep) (c : TChart) : Bool := if c.status ≠ 1 then zeros c.acts && zeros c.dues else allFit p c p.length && decide (actA c 0 = 1)
def chart1 (p : List TStep) (c : TChart) : Int :=
 if procF p ≠ 0 then procF p
 else if inR c.status 1 3 = false ∨ inR c.now 0 1000000 = false then 3
 else if varsF c.vars ≠ 0 then varsF c.vars
 else if c.acts.length ≠ p.length ∨ c.dues.length ≠ p.length then 2 else 0
theorem chart1_ok {p : List TStep} {c : TChart} (h : chart1 p c = 0) : procF p = 0 ∧ inR c.status 1 3 = true ∧ inR c.now 0 1000000 = true ∧ varsF c.vars = 0 ∧ c.acts.length = p.length ∧ c.dues.length = p.length := by
 unfold chart1 at h
 split at h
 ·exact absurd h (by assumption)
 split at h
 ·cases h
 split at h
 ·exact absurd h (by assumption)
 split at h
 ·cases h
 ·rename_i h1 h2 h3 h4
  simp at h1 h2 h3 h4
  exact ⟨h1, h2.1, h2.2, h3, h4.1, h4.2⟩
theorem chartF_1 {p : List TStep} {c : TChart} (h : chart1 p c ≠ 0) : chartF p c = chart1 p c := by
 unfold chartF chart1 at *
 split
 ·rfl
 ·rename_i h1
  rw [if_neg h1] at h
  split
  ·rfl
  ·rename_i h2
   rw [if_neg h2] at h
   split
   ·rfl
   ·rename_i h3
    rw [if_neg h3] at h
    split
    ·rfl
    ·rename_i h4
     rw [if_neg h4] at h
     exact absurd rfl h
theorem chartF_2 {p : List TStep} {c : TChart} (h : chart1 p c = 0) : chartF p c = if smallB c.acts 2 = false ∨ smallB c.dues (c.now + 99) = false then 3
 else if c.status ≠ 1 then (if zeros c.acts = true ∧ zeros c.dues = true then 0 else 1)
 else if actA c 0 = 1 ∧ someWrong p c p.length = false then 0 else 1 := by
 obtain ⟨h1, h2, h3, h4, h5, h6⟩ := chart1_ok h
 unfold chartF
 rw [if_neg (by simp [h1]), if_neg (by simp [h2, h3]), if_neg (by simp [h4]), if_neg (by simp [h5, h6])]
theorem ProcOk.steps {p : List TStep} (h : ProcOk p) : StepsOk p := ⟨h.len, h.one⟩
theorem chartF_3 {p : List TStep} {c : TChart} (h : chart1 p c = 0) (hs : ¬ (smallB c.acts 2 = false ∨ smallB c.dues (c.now + 99) = false)) : chartF p c = if ordB p c = true then 0 else 1 := by
 have hp := procOk (chart1_ok h).1
 rw [chartF_2 h, if_neg hs]
 unfold ordB
 split
 ·simp only [Bool.and_eq_true]
 ·have := fits_iff (c := c) hp
  simp only [Bool.and_eq_true, decide_eq_true_eq]
  by_cases h9 : allFit p c p.length = true ∧ actA c 0 = 1
  ·rw [if_pos h9, if_pos (this.1 h9)]
  ·rw [if_neg h9, if_neg (fun h8 => h9 (this.2 h8))]
end Go.AM
namespace Go.AM
def PreOk (l : List Int) : Prop := ParOk l ∧ ∀ k : Nat, 0 < k → k < l.length → 0 ≤ l.getD k 0 ∧ upB l ((k : Int) - 1) (l.getD k 0) = true
theorem upF_take {l : List Int} (m : Nat) : ∀ (f : Nat) (a par : Int), a < m → (∀ k, k < m → l.getD k 0 < (k : Int)) → upF (l.take m) f a par = upF l f a par := by
 intro f
 induction f with
 | zero => intro a par _ _; rfl
 | succ f ih =>
  intro a par ha hk
  simp only [upF]
  split
  ·rfl
  ·rename_i h0
   split
   ·rfl
   ·have e : (l.take m).getD a.toNat 0 = l.getD a.toNat 0 := by
     simp only [List.getD, List.getElem?_take]
     rw [if_pos (by omega)]
    rw [e]
    exact ih _ _ (by have := hk a.toNat (by omega); omega) hk
theorem StepsOk.pre {p : List TStep} (h : StepsOk p) : PreOk (pars p) := by
 refine ⟨h.par, fun k h0 hk => ?_⟩
 rw [pars_len] at hk
 have h1 := stepF_par (h.one k hk)
 have h2 := h.par
 rw [pars_get hk]
 have hl : ((pars p).take k).length = k := by rw [List.length_take, pars_len]; omega
 unfold parF at h1
 rw [hl] at h1
 split at h1
 ·cases h1
 ·rename_i h3
  split at h1
  ·cases h1
  ·rename_i h4
   have h5 := h.parI h0 hk
   refine ⟨h5.1, ?_⟩
   have h6 : upB ((pars p).take k) ((k : Int) - 1) (nS p k).par = true := by
    cases h7 : upB ((pars p).take k) ((k : Int) - 1) (nS p k).par with
    | true => rfl
    | false => exact absurd ⟨h0, h7⟩ h4
   unfold upB at h6 ⊢
   rwa [upF_take k _ _ _ (by omega) (fun j hj => (h2 j (by rw [pars_len]; omega)).2)] at h6
theorem up_gone {l : List Int} (hl : PreOk l) {a s : Nat} (has : a < s) (hs : s < l.length) (hp : l.getD s 0 = l.getD a 0) :
  ∀ (m j : Nat), j ≤ m → s ≤ j → j < l.length → ∀ x : Nat, a ≤ x → x < s → upB l j x = false := by
 intro m
 induction m with
 | zero => intro j hj h1 h2 x _ _; omega
 | succ m ih =>
  intro j hj h1 h2 x hx1 hx2
  have hpj := hl.1 j h2
  rw [upB_eq hl.1 (by omega) (by omega), if_neg (by omega), Int.toNat_natCast]
  rcases Nat.lt_or_ge s j with h3 | h3
  ·-- a later one
   have h4 := hl.2 j (by omega) h2
   rcases Int.lt_or_le (l.getD j 0) s with h5 | h5
   ·rcases Int.lt_or_le (l.getD j 0) a with h6 | h6
    ·exact upB_lt hl.1 (x + 1) _ (by omega) (by omega) (by omega)
    ·exfalso
     have h7 := ih (j - 1) (by omega) (by omega) (by omega) (l.getD j 0).toNat (by omega) (by omega)
     have e1 : ((j - 1 : Nat) : Int) = (j : Int) - 1 := by omega
     have e2 : (((l.getD j 0).toNat : Nat) : Int) = l.getD j 0 := by omega
     rw [e1, e2, h4.2] at h7; cases h7
   ·have e2 : (((l.getD j 0).toNat : Nat) : Int) = l.getD j 0 := by omega
    have := ih (l.getD j 0).toNat (by omega) (by omega) (by omega) x hx1 hx2
    rwa [e2] at this
  ·have : j = s := by omega
   subst this
   rw [hp]
   have ha := hl.1 a (by omega)
   exact upB_lt hl.1 (x + 1) _ (by omega) (by omega) (by omega)
def sibF (l : List Int) (par : Int) : Nat → Nat → Int
 | 0, _ => -1
 | f + 1, k => if k < l.length then (if l.getD k 0 = par then (k : Int) else sibF l par f (k + 1)) else -1
def sib (l : List Int) (at_ : Nat) : Int := sibF l (l.getD at_ 0) l.length (at_ + 1)
theorem sibF_ok {l : List Int} {par : Int} : ∀ (f k : Nat), l.length ≤ k + f → (sibF l par f k = -1 ∧ ∀ j, k ≤ j → j < l.length → l.getD j 0 ≠ par) ∨ ∃ s : Nat, sibF l par f k = s ∧ k ≤ s ∧ s < l.length ∧ l.getD s 0 = par ∧ ∀ j, k ≤ j → j < s → l.getD j 0 ≠ par := by
 intro f
 induction f with
 | zero => intro k hk; exact Or.inl ⟨rfl, fun j h1 h2 => by omega⟩
 | succ f ih =>
  intro k hk
  simp only [sibF]
  split
  ·rename_i h1
   split
   ·rename_i h2
    exact Or.inr ⟨k, rfl, Nat.le_refl _, h1, h2, fun j h3 h4 => by omega⟩
   ·rename_i h2
    rcases ih (k + 1) (by omega) with ⟨h3, h4⟩ | ⟨s, h3, h4, h5, h6, h7⟩
    ·refine Or.inl ⟨h3, fun j h5 h6 => ?_⟩
     rcases Nat.lt_or_ge k j with h8 | h8
     ·exact h4 j h8 h6
     ·have : j = k := by omega
      subst this; exact h2
    ·refine Or.inr ⟨s, h3, by omega, h5, h6, fun j h8 h9 => ?_⟩
     rcases Nat.lt_or_ge k j with h10 | h10
     ·exact h7 j h10 h9
     ·have : j = k := by omega
      subst this; exact h2
  ·exact Or.inl ⟨rfl, fun j h1 h2 => by omega⟩
theorem sib_ok (l : List Int) (a : Nat) : (sib l a = -1 ∧ ∀ j, a < j → j < l.length → l.getD j 0 ≠ l.getD a 0) ∨ ∃ s : Nat, sib l a = s ∧ a < s ∧ s < l.length ∧ l.getD s 0 = l.getD a 0 ∧ ∀ j, a < j → j < s → l.getD j 0 ≠ l.getD a 0 := sibF_ok l.length (a + 1) (by omega)
def enF (l : List Int) : Nat → Nat → Nat
 | 0, _ => l.length
 | f + 1, a => if 0 ≤ sib l a then (sib l a).toNat else if l.getD a 0 < 0 then l.length else enF l f (l.getD a 0).toNat
def en (l : List Int) (a : Nat) : Nat := enF l (a + 1) a
theorem enF_more {l : List Int} (hl : ParOk l) : ∀ (f g a : Nat), a < l.length → a < f → a < g → enF l f a = enF l g a := by
 intro f
 induction f with
 | zero => intro g a _ h; omega
 | succ f ih =>
  intro g a ha hf hg
  obtain ⟨g, rfl⟩ : ∃ g', g = g' + 1 := ⟨g - 1, by omega⟩
  simp only [enF]
  have := hl a ha
  split
  ·rfl
  ·split
   ·rfl
   ·exact ih g _ (by omega) (by omega) (by omega)
theorem en_sib {l : List Int} {a s : Nat} (h : sib l a = s) : en l a = s := by
 unfold en; simp only [enF]; rw [h, if_pos (by omega)]; rfl
theorem en_top {l : List Int} {a : Nat} (h : sib l a = -1) (h2 : l.getD a 0 < 0) : en l a = l.length := by
 unfold en; simp only [enF]; rw [h, if_neg (by omega), if_pos h2]
theorem en_up {l : List Int} (hl : ParOk l) {a : Nat} (ha : a < l.length) (h : sib l a = -1) (h2 : 0 ≤ l.getD a 0) : en l a = en l (l.getD a 0).toNat := by
 have := hl a ha
 have e : en l a = enF l a (l.getD a 0).toNat := by
  unfold en
  rw [enF, h, if_neg (by omega), if_neg (by omega)]
 rw [e]
 exact enF_more hl a ((l.getD a 0).toNat + 1) _ (by omega) (by omega) (by omega)
theorem up_en {l : List Int} (hl : PreOk l) : ∀ (m q : Nat), q ≤ m → q < l.length → ∀ k : Nat, k < l.length → upB l k q = true → k < en l q := by
 intro m
 induction m with
 | zero =>
  intro q hq hql k hk hu
  have hq0 : q = 0 := by omega
  subst hq0
  rcases sib_ok l 0 with ⟨h1, h2⟩ | ⟨s, h1, h2, h3, h4, h5⟩
  ·have hp := hl.1 0 hql
   rw [en_top h1 (by have : ((0 : Nat) : Int) = 0 := rfl; omega)]; exact hk
  ·exfalso
   have hp := hl.1 0 hql
   have := (hl.2 s h2 h3).1
   rw [h4] at this
   have e0 : ((0 : Nat) : Int) = 0 := rfl
   omega
 | succ m ih =>
  intro q hq hql k hk hu
  have hp := hl.1 q hql
  rcases sib_ok l q with ⟨h1, h2⟩ | ⟨s, h1, h2, h3, h4, h5⟩
  ·rcases Int.lt_or_le (l.getD q 0) 0 with h6 | h6
   ·rw [en_top h1 h6]; exact hk
   ·rw [en_up hl.1 hql h1 h6]
    refine ih _ (by omega) (by omega) k hk ?_
    have key : ∀ (n k : Nat), k ≤ n → k < l.length → upB l k q = true → upB l k (l.getD q 0) = true := by
     intro n
     induction n with
     | zero =>
      intro k hkn hk hu
      have : k = 0 := by omega
      subst this
      rw [upB_eq hl.1 (by omega) (by omega)] at hu
      split at hu
      ·rename_i e; have : q = 0 := by omega
       subst this; exfalso; have e0 : ((0 : Nat) : Int) = 0 := rfl; omega
      ·have h0 := hl.1 0 hk
       rw [Int.toNat_natCast] at hu
       rw [upB_neg (by have e0 : ((0 : Nat) : Int) = 0 := rfl; omega)] at hu; cases hu
     | succ n ihn =>
      intro k hkn hk hu
      have hpk := hl.1 k hk
      rw [upB_eq hl.1 (by omega) (by omega)] at hu
      rw [upB_eq hl.1 (by omega) (by omega)]
      split
      ·rfl
      ·split at hu
       ·rename_i e
        have : k = q := by omega
        subst this
        rw [Int.toNat_natCast]
        have e2 : (((l.getD k 0).toNat : Nat) : Int) = l.getD k 0 := by omega
        rw [← e2, upB_eq hl.1 (by omega) (by omega), if_pos rfl]
       ·rw [Int.toNat_natCast] at hu ⊢
        rcases Int.lt_or_le (l.getD k 0) 0 with h7 | h7
        ·rw [upB_neg h7] at hu; cases hu
        ·have e2 : (((l.getD k 0).toNat : Nat) : Int) = l.getD k 0 := by omega
         have := ihn (l.getD k 0).toNat (by omega) (by omega) (by rw [e2]; exact hu)
         rwa [e2] at this
    have := key k k (Nat.le_refl _) hk hu
    have e2 : (((l.getD q 0).toNat : Nat) : Int) = l.getD q 0 := by omega
    rwa [e2]
  ·rw [en_sib h1]
   rcases Nat.lt_or_ge k s with h6 | h6
   ·exact h6
   ·rw [up_gone hl h2 h3 h4 k k (Nat.le_refl _) h6 hk q (Nat.le_refl _) h2] at hu; cases hu
theorem en_self {l : List Int} (hl : PreOk l) {q : Nat} (hq : q < l.length) : q < en l q := up_en hl q q (Nat.le_refl _) hq q hq (by rw [upB_eq hl.1 (by omega) (by omega), if_pos rfl])
theorem en_le {l : List Int} (hl : ParOk l) : ∀ (m a : Nat), a ≤ m → a < l.length → en l a ≤ l.length := by
 intro m
 induction m with
 | zero =>
  intro a ha hal
  rcases sib_ok l a with ⟨h1, _⟩ | ⟨s, h1, _, h3, _, _⟩
  ·have := hl a hal
   rw [en_top h1 (by omega)]; exact Nat.le_refl _
  ·rw [en_sib h1]; omega
 | succ m ih =>
  intro a ha hal
  rcases sib_ok l a with ⟨h1, _⟩ | ⟨s, h1, _, h3, _, _⟩
  ·have := hl a hal
   rcases Int.lt_or_le (l.getD a 0) 0 with h6 | h6
   ·rw [en_top h1 h6]; exact Nat.le_refl _
   ·rw [en_up hl hal h1 h6]; exact ih _ (by omega) (by omega)
  ·rw [en_sib h1]; omega
theorem en_par {l : List Int} (hl : PreOk l) {a q : Nat} (ha : a < l.length) (hq : l.getD a 0 = (q : Int)) : en l a ≤ en l q := by
 have hp := hl.1 a ha
 rcases sib_ok l a with ⟨h1, _⟩ | ⟨s, h1, h2, h3, h4, _⟩
 ·rw [en_up hl.1 ha h1 (by omega), hq, Int.toNat_natCast]; exact Nat.le_refl _
 ·rw [en_sib h1]
  have hps := hl.1 s h3
  refine Nat.le_of_lt (up_en hl q q (Nat.le_refl _) (by omega) s h3 ?_)
  rw [upB_eq hl.1 (by omega) (by omega)]
  split
  ·rfl
  ·rw [Int.toNat_natCast, h4, hq, upB_eq hl.1 (by omega) (by omega), if_pos rfl]
def mO (l : List Int) (a : Nat) : Nat := 30 * (l.length - en l a) + a + 1
def mE (l : List Int) (a : Nat) : Nat := 30 * (l.length - a)
theorem mE_kid {l : List Int} {a k : Nat} (h : a < k) (hk : k < l.length) : mE l k < mE l a := by unfold mE; omega
theorem mO_next {l : List Int} {a s : Nat} (h : sib l a = s) : mE l s < mO l a := by unfold mE mO; rw [en_sib h]; omega
theorem mO_up {l : List Int} (hl : PreOk l) {a q : Nat} (ha : a < l.length) (hq : l.getD a 0 = (q : Int)) : mO l q < mO l a := by
 have h1 := en_par hl ha hq
 have h2 := hl.1 a ha
 have h3 := en_le hl.1 q q (Nat.le_refl _) (by omega)
 unfold mO; omega
theorem mE_over {l : List Int} (hl : PreOk l) {a : Nat} (ha : a < l.length) (h24 : l.length ≤ 24) : mO l a < mE l a := by
 have h1 := en_self hl ha
 have h3 := en_le hl.1 a a (Nat.le_refl _) ha
 unfold mO mE; omega
theorem mO_bd {l : List Int} {a : Nat} (ha : a < l.length) (h24 : l.length ≤ 24) : mO l a ≤ 800 := by unfold mO; omega
end Go.AM
namespace Go.AM
def reckV (k a b : Int) : Int := if k = 3 then a + b else if k = 4 then a - b else if k = 5 then a * b else if k = 6 then a.tdiv b else if k = 7 then (if a < b then 1 else 0) else if k = 8 then (if a = b then 1 else 0) else a * b
def gI (l : List Int) (i : Int) : Int := l.getD i.toNat 0
def evV (n : TNode) (vars out : List Int) : Int :=
  if n.kind = 2 then gI vars n.val else if n.kind = 10 then 1 - gI out n.left else if isTwoB n.kind then reckV n.kind (gI out n.left) (gI out n.right) else n.val
def evBad (n : TNode) (vars out : List Int) : Bool := (decide (n.kind = 6) && decide (gI out n.right = 0)) || !small (evV n vars out)
def evL (e : List TNode) (vars : List Int) : Nat → List Int
  | 0 => []
  | i + 1 => evL e vars i ++ [evV (nA e i) vars (evL e vars i)]
def evOk (e : List TNode) (vars : List Int) : Nat → Bool
  | 0 => true
  | i + 1 => evOk e vars i && !evBad (nA e i) vars (evL e vars i)
def evalB (e : List TNode) (vars : List Int) : Bool := evOk e vars e.length
def evalI (e : List TNode) (vars : List Int) : Int := lastI (evL e vars e.length)
theorem evL_len (e : List TNode) (vars : List Int) (i : Nat) : (evL e vars i).length = i := by
  induction i with
  | zero => rfl
  | succ i ih => simp [evL, ih]
theorem evL_get {e : List TNode} {vars : List Int} {i n : Nat} (h : i < n) : (evL e vars n).getD i 0 = evV (nA e i) vars (evL e vars i) := by
  induction n with
  | zero => omega
  | succ n ih =>
    simp only [evL]
    rcases Nat.lt_or_ge i n with h1 | h1
    · rw [getD_left (by rw [evL_len]; exact h1)]; exact ih h1
    · have : i = n := by omega
      subst this
      have := getD_last (evL e vars i) (evV (nA e i) vars (evL e vars i))
      rwa [evL_len] at this
theorem evOk_le {e : List TNode} {vars : List Int} {i n : Nat} (h : i ≤ n) (ho : evOk e vars n = true) : evOk e vars i = true := by
  induction n with
  | zero => have : i = 0 := by omega
            subst this; rfl
  | succ n ih =>
    rcases Nat.lt_or_ge n i with h1 | h1
    · have : i = n + 1 := by omega
      subst this; exact ho
    · simp only [evOk, Bool.and_eq_true] at ho
      exact ih h1 ho.1
theorem evOk_small {e : List TNode} {vars : List Int} {i n : Nat} (h : i < n) (ho : evOk e vars n = true) : small ((evL e vars n).getD i 0) = true := by
  have h1 := evOk_le (i := i + 1) h ho
  simp only [evOk, Bool.and_eq_true, evBad, Bool.not_eq_true', Bool.or_eq_false_iff] at h1
  rw [evL_get h]
  simpa using h1.2.2
theorem small_iff {n : Int} : small n = true ↔ -1000000 ≤ n ∧ n ≤ 1000000 := inR_iff
theorem ev_bool {e : List TNode} {vars : List Int} (hp : PartsOk e e.length) (ht : typU e e.length = false) : ∀ (m i n : Nat), i ≤ m → i < n → n ≤ e.length → 6 < (nA e i).kind → (evL e vars n).getD i 0 = 0 ∨ (evL e vars n).getD i 0 = 1 := by
  intro m
  induction m with
  | zero =>
    intro i n hi hn hle hk
    have : i = 0 := by omega
    subst this
    have h1 := nodeF_parts (hp 0 (by omega))
    have h2 := hp 0 (by omega)
    exfalso
    by_cases hk10 : (nA e 0).kind = 10
    · have := h1.1 hk10; omega
    · by_cases h9 : isTwoB (nA e 0).kind = true
      · have := h1.2.1 h9; omega
      · have h3 : ¬ (3 ≤ (nA e 0).kind ∧ (nA e 0).kind ≤ 9) := fun h => h9 (inR_iff.2 h)
        unfold nodeAt nodeF at h2
        split at h2
        · cases h2
        · omega
  | succ m ih =>
    intro i n hi hn hle hk
    have h1 := nodeF_parts (hp i (by omega))
    have h2 := hp i (by omega)
    have hbad : typBad e i = false := by
      cases h3 : typBad e i with
      | false => rfl
      | true => rw [typU_hit (by omega) h3] at ht; cases ht
    have h10 : (nA e i).kind ≤ 10 := by
      unfold nodeAt nodeF at h2
      split at h2
      · cases h2
      · omega
    rw [evL_get hn]
    unfold evV
    rw [if_neg (by omega)]
    unfold typBad at hbad
    simp only [Bool.or_eq_false_iff, Bool.and_eq_false_imp, decide_eq_true_eq, decide_eq_false_iff_not, Classical.not_not] at hbad
    split
    · rename_i hk10
      have h4 := h1.1 hk10
      have h5 := hbad.1 (by omega)
      have h6 : 6 < (nA e (nA e i).left.toNat).kind := by
        unfold ownT partT at h5; rw [if_neg (show ¬ (nA e i).kind ≤ 8 by omega)] at h5
        split at h5
        · cases h5
        · omega
      have := ih (nA e i).left.toNat i (by omega) (by omega) (by omega) h6
      unfold gI
      rcases this with h7 | h7 <;> rw [h7] <;> omega
    · rename_i hk10
      have h9 : isTwoB (nA e i).kind = true := inR_iff.2 (by omega)
      rw [if_pos h9]
      have h4 := h1.2.1 h9
      unfold reckV
      rw [if_neg (by omega), if_neg (by omega), if_neg (by omega), if_neg (by omega)]
      split
      · split <;> simp
      · split
        · split <;> simp
        · have h5 := hbad.1 (by omega)
          have h6 := hbad.2 h9
          have q : ∀ x : Int, ownT x = partT (nA e i).kind → 6 < x := by
            intro x hx
            unfold ownT partT at hx
            rw [if_neg (show ¬ (nA e i).kind ≤ 8 by omega)] at hx
            split at hx
            · cases hx
            · omega
          have a1 := ih (nA e i).left.toNat i (by omega) (by omega) (by omega) (q _ h5)
          have a2 := ih (nA e i).right.toNat i (by omega) (by omega) (by omega) (q _ h6)
          unfold gI
          rcases a1 with a1 | a1 <;> rcases a2 with a2 | a2 <;> rw [a1, a2] <;> simp
def setA (c : TChart) (k v : Int) : TChart := { c with acts := c.acts.set k.toNat v }
def setD (c : TChart) (k v : Int) : TChart := { c with dues := c.dues.set k.toNat v }
def setV (c : TChart) (k v : Int) : TChart := { c with vars := c.vars.set k.toNat v }
def endF (n : Nat) (st : Int) (c : TChart) : TChart := ⟨st, c.now, c.vars, List.replicate n 0, List.replicate n 0⟩
def undL (p : List TStep) (top i : Nat) : List Int := ((List.range i).filter fun k => decide (top ≤ k) && upB (pars p) k top).map fun (k : Nat) => (k : Int)
def idle1 (c : TChart) (k : Int) : TChart := setD (setA c k 0) k 0
def idleF (p : List TStep) (at_ : Nat) (c : TChart) : TChart := (undL p at_ p.length).foldl idle1 c
def chF (p : List TStep) (vars : List Int) : List Int → Int
  | [] => -1
  | k :: r => if (nS p k.toNat).cond.length = 0 then k else if evalB (nS p k.toNat).cond vars = false then -1 else if evalI (nS p k.toNat).cond vars = 1 then k else chF p vars r
def goF (p : List TStep) : Nat → Bool → Nat → TChart → TChart
  | 0, _, _, c => c
  | f + 1, true, a, c =>
    if c.status ≠ 1 then c
    else
      let s := nS p a
      let c1 := setA c a 1
      let ks := kids p a
      if s.kind = 1 then goF p f true (headI ks).toNat c1
      else if s.kind = 4 then ks.foldl (fun c k => goF p f true k.toNat c) c1
      else if s.kind = 3 then (if chF p c1.vars ks < 0 then endF p.length 3 c1 else goF p f true (chF p c1.vars ks).toNat c1)
      else if s.kind = 8 then goF p f true (headI ks).toNat (setD c1 a (c1.now + s.arg))
      else if s.kind = 6 then setD c1 a (c1.now + s.arg)
      else if s.kind = 7 then (if evalB s.expr c1.vars = false then endF p.length 3 c1 else goF p f false a (setV c1 s.arg (evalI s.expr c1.vars)))
      else c1
  | f + 1, false, a, c =>
    let c1 := idleF p a c
    if a = 0 then endF p.length 2 c1
    else
      let q := (nS p a).par.toNat
      if (nS p q).kind = 1 ∧ 0 ≤ sib (pars p) a then goF p f true (sib (pars p) a).toNat c1
      else if (nS p q).kind = 4 then
        (if (kids p q).all (fun k => decide (actA (setA c1 a 2) k = 2)) then goF p f false q (setA c1 a 2) else setA c1 a 2)
      else goF p f false q c1
structure WfC (p : List TStep) (c : TChart) : Prop where
  acts : c.acts.length = p.length
  dues : c.dues.length = p.length
  vars : c.vars.length = 4
  small : ∀ v ∈ c.vars, small v = true
  now : inR c.now 0 1000000 = true
theorem WfC.setA {p : List TStep} {c : TChart} (h : WfC p c) (k v : Int) : WfC p (setA c k v) := ⟨by simp [Go.AM.setA, h.acts], h.dues, h.vars, h.small, h.now⟩
theorem WfC.setD {p : List TStep} {c : TChart} (h : WfC p c) (k v : Int) : WfC p (setD c k v) := ⟨h.acts, by simp [Go.AM.setD, h.dues], h.vars, h.small, h.now⟩
theorem WfC.setV {p : List TStep} {c : TChart} (h : WfC p c) (k v : Int) (hv : Go.AM.small v = true) : WfC p (setV c k v) := ⟨h.acts, h.dues, by simp [Go.AM.setV, h.vars], fun u hu => by
  rcases List.mem_or_eq_of_mem_set hu with h1 | h1
  · exact h.small u h1
  · rw [h1]; exact hv, h.now⟩
theorem WfC.endF {p : List TStep} {c : TChart} (h : WfC p c) (st : Int) : WfC p (endF p.length st c) := ⟨by simp [Go.AM.endF], by simp [Go.AM.endF], h.vars, h.small, h.now⟩
theorem WfC.idles {p : List TStep} : ∀ (l : List Int) (c : TChart), WfC p c → WfC p (l.foldl idle1 c)
  | [], c, h => h
  | k :: r, c, h => WfC.idles r _ ((h.setA k 0).setD k 0)
theorem WfC.idle {p : List TStep} {c : TChart} (h : WfC p c) (a : Nat) : WfC p (idleF p a c) := WfC.idles _ c h
theorem evalI_small {e : List TNode} {vars : List Int} (hn : 0 < e.length) (h : evalB e vars = true) : small (evalI e vars) = true := by
  unfold evalI lastI
  rw [evL_len]
  exact evOk_small (by omega) h
theorem WfC.go {p : List TStep} (hex : ∀ a, a < p.length → (nS p a).kind = 7 → 0 < (nS p a).expr.length) : ∀ (f : Nat) (b : Bool) (a : Nat) (c : TChart), (∀ m, f = m → True) → WfC p c → WfC p (goF p f b a c) := by
  intro f
  induction f with
  | zero => intro b a c _ h; cases b <;> exact h
  | succ f ih =>
    intro b a c _ h
    have ih' : ∀ (b : Bool) (a : Nat) (c : TChart), WfC p c → WfC p (goF p f b a c) := fun b a c h => ih b a c (fun _ _ => True.intro) h
    cases b with
    | true =>
      simp only [goF]
      split
      · exact h
      · have h1 := h.setA (a : Int) 1
        split
        · exact ih' _ _ _ h1
        · split
          · have key : ∀ (l : List Int) (c : TChart), WfC p c → WfC p (l.foldl (fun c k => goF p f true k.toNat c) c) := by
              intro l
              induction l with
              | nil => intro c h; exact h
              | cons k r ihl => intro c h; exact ihl _ (ih' _ _ _ h)
            exact key _ _ h1
          · split
            · split
              · exact h1.endF 3
              · exact ih' _ _ _ h1
            · split
              · exact ih' _ _ _ (h1.setD _ _)
              · split
                · exact h1.setD _ _
                · split
                  · rename_i hk7
                    split
                    · exact h1.endF 3
                    · rename_i he
                      refine ih' _ _ _ (h1.setV _ _ (evalI_small ?_ (by simpa using he)))
                      rcases Nat.lt_or_ge a p.length with ha | ha
                      · exact hex a ha hk7
                      · exfalso
                        have : nS p a = default := by simp [nS, List.getD, List.getElem?_eq_none ha]
                        rw [this] at hk7; cases hk7
                  · exact h1
    | false =>
      simp only [goF]
      have h1 := h.idle a
      split
      · exact h1.endF 2
      · split
        · exact ih' _ _ _ h1
        · split
          · split
            · exact ih' _ _ _ (h1.setA _ _)
            · exact h1.setA _ _
          · exact ih' _ _ _ h1
end Go.AM
namespace Go.AM
theorem up_self {l : List Int} (hl : ParOk l) {a : Nat} (ha : a < l.length) : upB l a a = true := by rw [upB_eq hl (by omega) (by omega), if_pos rfl]
theorem up_par {l : List Int} (hl : ParOk l) {j x : Nat} (hj : j < l.length) (hne : j ≠ x) : upB l j x = upB l (l.getD j 0) x := by
 rw [upB_eq hl (by omega) (by omega), if_neg (by omega), Int.toNat_natCast]
theorem up_le {l : List Int} (hl : ParOk l) {j x : Nat} (hj : j < l.length) (h : upB l j x = true) : x ≤ j := by
 rcases Nat.lt_or_ge j x with h1 | h1
 ·rw [upB_lt hl (j + 1) j (by omega) (by omega) (by omega)] at h; cases h
 ·exact h1
theorem up_cmp {l : List Int} (hl : ParOk l) : ∀ (m j : Nat), j ≤ m → j < l.length → ∀ x y : Nat, x ≤ y → upB l j x = true → upB l j y = true → upB l y x = true := by
 intro m
 induction m with
 | zero =>
  intro j hj hjl x y hxy hx hy
  have h1 := up_le hl hjl hy
  have : y = j := by omega
  subst this; exact hx
 | succ m ih =>
  intro j hj hjl x y hxy hx hy
  by_cases h : j = y
  ·subst h; exact hx
  ·have h1 := up_le hl hjl hy
   rw [up_par hl hjl h] at hy
   rw [up_par hl hjl (by omega)] at hx
   have hp := hl j hjl
   rcases Int.lt_or_le (l.getD j 0) 0 with h2 | h2
   ·rw [upB_neg h2] at hx; cases hx
   ·obtain ⟨q, hq⟩ : ∃ q : Nat, l.getD j 0 = q := ⟨_, (Int.toNat_of_nonneg h2).symm⟩
    rw [hq] at hx hy
    exact ih q (by omega) (by omega) x y hxy hx hy
theorem en_anc {l : List Int} (hl : PreOk l) : ∀ (m a : Nat), a ≤ m → a < l.length → ∀ b : Nat, upB l a b = true → en l a ≤ en l b := by
 intro m
 induction m with
 | zero =>
  intro a ha hal b hb
  have := up_le hl.1 hal hb
  have : b = a := by omega
  subst this; exact Nat.le_refl _
 | succ m ih =>
  intro a ha hal b hb
  by_cases h : a = b
  ·subst h; exact Nat.le_refl _
  ·rw [up_par hl.1 hal h] at hb
   have hp := hl.1 a hal
   rcases Int.lt_or_le (l.getD a 0) 0 with h3 | h3
   ·rw [upB_neg h3] at hb; cases hb
   ·obtain ⟨q, hq⟩ : ∃ q : Nat, l.getD a 0 = q := ⟨_, (Int.toNat_of_nonneg h3).symm⟩
    rw [hq] at hb
    exact Nat.le_trans (en_par hl hal hq) (ih q (by omega) (by omega) b hb)
theorem up_child {l : List Int} (hl : ParOk l) : ∀ (m a : Nat), a ≤ m → a < l.length → ∀ x : Nat, x < a → upB l a x = true → ∃ b : Nat, upB l a b = true ∧ l.getD b 0 = x ∧ b < l.length := by
 intro m
 induction m with
 | zero => intro a ha hal x hx _; omega
 | succ m ih =>
  intro a ha hal x hx hu
  rw [up_par hl hal (by omega)] at hu
  have hp := hl a hal
  rcases Int.lt_or_le (l.getD a 0) 0 with h3 | h3
  ·rw [upB_neg h3] at hu; cases hu
  ·obtain ⟨q, hq⟩ : ∃ q : Nat, l.getD a 0 = q := ⟨_, (Int.toNat_of_nonneg h3).symm⟩
   rw [hq] at hu
   rcases Nat.lt_or_ge x q with h4 | h4
   ·obtain ⟨b, h5, h6, h7⟩ := ih q (by omega) (by omega) x h4 hu
    refine ⟨b, ?_, h6, h7⟩
    have hbq := up_le hl (show q < l.length by omega) h5
    rw [up_par hl hal (by omega), hq]; exact h5
   ·have h5 := up_le hl (show q < l.length by omega) hu
    have : q = x := by omega
    subst this
    exact ⟨a, up_self hl hal, hq, hal⟩
theorem sib_le {l : List Int} {b k : Nat} (hbk : b < k) (hk : k < l.length) (he : l.getD k 0 = l.getD b 0) : ∃ s : Nat, sib l b = s ∧ s ≤ k := by
 rcases sib_ok l b with ⟨h1, h2⟩ | ⟨s, h1, h2, h3, h4, h5⟩
 ·exact absurd he (h2 k hbk hk)
 ·refine ⟨s, h1, ?_⟩
  rcases Nat.lt_or_ge k s with h6 | h6
  ·exact absurd he (h5 k hbk h6)
  ·exact h6
theorem up_between {l : List Int} (hl : PreOk l) {a : Nat} (ha : a < l.length) : ∀ (m k : Nat), k ≤ m → a ≤ k → k < en l a → k < l.length → upB l k a = true := by
 intro m
 induction m with
 | zero =>
  intro k hk h1 h2 h3
  have : k = a := by omega
  subst this; exact up_self hl.1 h3
 | succ m ih =>
  intro k hk h1 h2 h3
  rcases Nat.lt_or_ge a k with h4 | h4
  ·have h5 := ih (k - 1) (by omega) (by omega) (by omega) (by omega)
   have h6 := hl.2 k (by omega) h3
   have hp := hl.1 k h3
   obtain ⟨q, hq⟩ : ∃ q : Nat, l.getD k 0 = q := ⟨_, (Int.toNat_of_nonneg h6.1).symm⟩
   have e1 : ((k - 1 : Nat) : Int) = (k : Int) - 1 := by omega
   have h7 : upB l ((k - 1 : Nat) : Int) q = true := by rw [e1, ← hq]; exact h6.2
   rcases Nat.lt_or_ge q a with h8 | h8
   ·exfalso
    have h9 := up_cmp hl.1 (k - 1) (k - 1) (Nat.le_refl _) (by omega) q a (by omega) h7 h5
    obtain ⟨b, hb1, hb2, hb3⟩ := up_child hl.1 a a (Nat.le_refl _) ha q h8 h9
    have hba := up_le hl.1 ha hb1
    obtain ⟨s, hs1, hs2⟩ := sib_le (l := l) (b := b) (k := k) (by omega) h3 (by rw [hq, hb2])
    have h10 := en_anc hl a a (Nat.le_refl _) ha b hb1
    rw [en_sib hs1] at h10
    omega
   ·have h9 := up_cmp hl.1 (k - 1) (k - 1) (Nat.le_refl _) (by omega) a q h8 h5 h7
    rw [up_par hl.1 h3 (by omega), hq]; exact h9
  ·have : k = a := by omega
   subst this; exact up_self hl.1 h3
theorem dep_up {l : List Int} (hl : ParOk l) : ∀ (m k : Nat), k ≤ m → k < l.length → ∀ a : Nat, a < k → upB l k a = true → dep l a < dep l k := by
 intro m
 induction m with
 | zero => intro k hk _ a ha _; omega
 | succ m ih =>
  intro k hk hkl a ha hu
  rw [up_par hl hkl (by omega)] at hu
  have hp := hl k hkl
  rcases Int.lt_or_le (l.getD k 0) 0 with h3 | h3
  ·rw [upB_neg h3] at hu; cases hu
  ·obtain ⟨q, hq⟩ : ∃ q : Nat, l.getD k 0 = q := ⟨_, (Int.toNat_of_nonneg h3).symm⟩
   rw [hq] at hu
   rw [dep_eq hl (a := (k : Int)) (by omega) (by omega), Int.toNat_natCast, hq]
   have h4 := up_le hl (show q < l.length by omega) hu
   rcases Nat.lt_or_ge a q with h5 | h5
   ·have := ih q (by omega) (by omega) a h5 hu; omega
   ·have : a = q := by omega
    subst this; omega
theorem dep_same {l : List Int} (hl : ParOk l) {b s : Nat} (hb : b < l.length) (hs : s < l.length) (h : l.getD s 0 = l.getD b 0) : dep l s = dep l b := by
 rw [dep_eq hl (a := (s : Int)) (by omega) (by omega), dep_eq hl (a := (b : Int)) (by omega) (by omega), Int.toNat_natCast, Int.toNat_natCast, h]
theorem dep_en {l : List Int} (hl : PreOk l) : ∀ (m a : Nat), a ≤ m → a < l.length → en l a < l.length → dep l (en l a) ≤ dep l a := by
 intro m
 induction m with
 | zero =>
  intro a ha hal he
  rcases sib_ok l a with ⟨h1, _⟩ | ⟨s, h1, h2, h3, h4, _⟩
  ·have := hl.1 a hal
   rw [en_top h1 (by omega)] at he; omega
  ·rw [en_sib h1, dep_same hl.1 hal h3 h4]; omega
 | succ m ih =>
  intro a ha hal he
  rcases sib_ok l a with ⟨h1, _⟩ | ⟨s, h1, h2, h3, h4, _⟩
  ·have hp := hl.1 a hal
   rcases Int.lt_or_le (l.getD a 0) 0 with h6 | h6
   ·rw [en_top h1 h6] at he; omega
   ·obtain ⟨q, hq⟩ : ∃ q : Nat, l.getD a 0 = q := ⟨_, (Int.toNat_of_nonneg h6).symm⟩
    rw [en_up hl.1 hal h1 h6] at he ⊢
    rw [hq, Int.toNat_natCast] at he ⊢
    have h7 := ih q (by omega) (by omega) he
    rw [dep_eq hl.1 (a := (a : Int)) (by omega) (by omega), Int.toNat_natCast, hq]
    omega
  ·rw [en_sib h1, dep_same hl.1 hal h3 h4]; omega
theorem deep_iff {l : List Int} (hl : PreOk l) {a k : Nat} (ha : a < l.length) (hk : k < l.length) (h1 : a < k) (h2 : k ≤ en l a) : dep l a < dep l k ↔ k < en l a := by
 constructor
 ·intro h
  rcases Nat.lt_or_ge k (en l a) with h3 | h3
  ·exact h3
  ·have : k = en l a := by omega
   subst this
   have := dep_en hl a a (Nat.le_refl _) ha hk
   omega
 ·intro h
  exact dep_up hl.1 k k (Nat.le_refl _) hk a h1 (up_between hl ha k k (Nat.le_refl _) (by omega) h hk)
theorem undL_step (p : List TStep) (a i : Nat) : undL p a (i + 1) = undL p a i ++ (if a ≤ i ∧ upB (pars p) i a = true then [(i : Int)] else []) := by
 unfold undL
 rw [List.range_succ, List.filter_append, List.map_append]
 congr 1
 by_cases h : a ≤ i ∧ upB (pars p) i a = true
 ·simp [h.1, h.2]
 ·rw [if_neg h]
  have : (decide (a ≤ i) && upB (pars p) i a) = false := by
   rw [Bool.and_eq_false_imp]; intro h1
   have h1 := of_decide_eq_true h1
   cases h2 : upB (pars p) i a with
   | false => rfl
   | true => exact absurd ⟨h1, h2⟩ h
  simp [this]
theorem undL_low (p : List TStep) (a : Nat) : ∀ i, i ≤ a → undL p a i = [] := by
 intro i
 induction i with
 | zero => intro _; rfl
 | succ i ih => intro h; rw [undL_step, ih (by omega), if_neg (by omega)]; rfl
theorem undL_one {p : List TStep} (hl : PreOk (pars p)) {a : Nat} (ha : a < p.length) : undL p a (a + 1) = [(a : Int)] := by
 rw [undL_step, undL_low p a a (Nat.le_refl _), if_pos ⟨Nat.le_refl _, up_self hl.1 (by rw [pars_len]; exact ha)⟩]; rfl
theorem undL_yes {p : List TStep} (hl : PreOk (pars p)) {a i : Nat} (ha : a < p.length) (hi : i < p.length) (h1 : a ≤ i) (h2 : i < en (pars p) a) : undL p a (i + 1) = undL p a i ++ [(i : Int)] := by
 rw [undL_step, if_pos ⟨h1, up_between hl (by rw [pars_len]; exact ha) i i (Nat.le_refl _) h1 h2 (by rw [pars_len]; exact hi)⟩]
theorem undL_far {p : List TStep} (hl : PreOk (pars p)) {a i : Nat} (ha : a < p.length) (h1 : en (pars p) a ≤ i) : ∀ m, i ≤ m → m ≤ p.length → undL p a m = undL p a i := by
 intro m hm
 obtain ⟨k, rfl⟩ : ∃ k, m = i + k := ⟨m - i, by omega⟩
 clear hm
 induction k with
 | zero => intro _; rfl
 | succ k ih =>
  intro h
  rw [← Nat.add_assoc, undL_step, ih (by omega), if_neg]
  ·simp
  ·rintro ⟨_, h2⟩
   have := up_en hl a a (Nat.le_refl _) (by rw [pars_len]; exact ha) (i + k) (by rw [pars_len]; omega) h2
   omega
theorem undL_len (p : List TStep) (a i : Nat) : (undL p a i).length ≤ i := by
 unfold undL; rw [List.length_map]; exact Nat.le_trans (List.length_filter_le _ _) (by simp)
theorem undL_mem {p : List TStep} {a i : Nat} {k : Int} (h : k ∈ undL p a i) : 0 ≤ k ∧ k.toNat < i := by
 unfold undL at h
 obtain ⟨m, hm, rfl⟩ := List.mem_map.1 h
 have := List.mem_range.1 (List.mem_filter.1 hm).1
 omega
theorem kids_pw (p : List TStep) (a : Int) : (kids p a).Pairwise (· < ·) := by
 unfold kids kidU
 rw [List.pairwise_map]
 refine List.Pairwise.imp (fun h => by omega) (List.Pairwise.filter _ List.pairwise_lt_range)
theorem kids_lt {p : List TStep} {a x y : Int} {i j : Nat} (hij : i < j) (hx : (kids p a)[i]? = some x) (hy : (kids p a)[j]? = some y) : x < y := by
 obtain ⟨h1, rfl⟩ := List.getElem?_eq_some_iff.1 hx
 obtain ⟨h2, rfl⟩ := List.getElem?_eq_some_iff.1 hy
 exact List.pairwise_iff_getElem.1 (kids_pw p a) i j h1 h2 hij
theorem kids_has {p : List TStep} {a : Int} {m : Nat} (h0 : 0 < m) (hm : m < p.length) (ha : (pars p).getD m 0 = a) : ∃ j : Nat, (kids p a)[j]? = some (m : Int) := by
 rw [pars_get hm] at ha
 exact List.mem_iff_getElem?.1 (kids_mem.2 ⟨m, rfl, h0, hm, ha⟩)
theorem kids_at {p : List TStep} {a x : Int} {i : Nat} (h : (kids p a)[i]? = some x) : ∃ m : Nat, x = m ∧ 0 < m ∧ m < p.length ∧ (pars p).getD m 0 = a := by
 obtain ⟨m, h1, h2, h3, h4⟩ := kids_mem.1 (List.mem_of_getElem? h)
 exact ⟨m, h1, h2, h3, by rw [pars_get h3]; exact h4⟩
theorem kids_next {p : List TStep} {q : Int} {a i : Nat} (h : (kids p q)[i]? = some (a : Int)) {s : Int} (hs : (kids p q)[i + 1]? = some s) : sib (pars p) a = s := by
 obtain ⟨m, h1, h2, h3, h4⟩ := kids_at h
 have : m = a := by omega
 subst this
 obtain ⟨s, rfl, k2, k3, k4⟩ := kids_at hs
 have hlt := kids_lt (Nat.lt_succ_self i) h hs
 rcases sib_ok (pars p) m with ⟨g1, g2⟩ | ⟨r, g1, g2, g3, g4, g5⟩
 ·exact absurd (k4.trans h4.symm) (g2 s (by omega) (by rw [pars_len]; exact k3))
 ·rw [g1]
  rw [pars_len] at g3
  obtain ⟨j, hj⟩ := kids_has (a := q) (show 0 < r by omega) g3 (g4.trans h4)
  rcases Nat.lt_or_ge s r with h5 | h5
  ·exact absurd (k4.trans h4.symm) (g5 s (by omega) h5)
  ·rcases Nat.lt_or_ge r s with h6 | h6
   ·exfalso
    have hij : i < j := by
     rcases Nat.lt_or_ge i j with h7 | h7
     ·exact h7
     ·rcases Nat.lt_or_ge j i with h8 | h8
      ·have := kids_lt h8 hj h; omega
      ·have : j = i := by omega
       subst this; rw [h] at hj; have := Option.some.inj hj; omega
    have hji : j < i + 1 := by
     rcases Nat.lt_or_ge j (i + 1) with h7 | h7
     ·exact h7
     ·rcases Nat.lt_or_ge (i + 1) j with h8 | h8
      ·have := kids_lt h8 hs hj; omega
      ·have : j = i + 1 := by omega
       subst this; rw [hs] at hj; have := Option.some.inj hj; omega
    omega
   ·have : r = s := by omega
    rw [this]
theorem kids_last {p : List TStep} {q : Int} {a i : Nat} (h : (kids p q)[i]? = some (a : Int)) (hs : (kids p q).length ≤ i + 1) : sib (pars p) a = -1 := by
 obtain ⟨m, h1, h2, h3, h4⟩ := kids_at h
 have : m = a := by omega
 subst this
 rcases sib_ok (pars p) m with ⟨g1, g2⟩ | ⟨r, g1, g2, g3, g4, g5⟩
 ·exact g1
 ·exfalso
  rw [pars_len] at g3
  obtain ⟨j, hj⟩ := kids_has (a := q) (show 0 < r by omega) g3 (g4.trans h4)
  have hjl := at_lt hj
  rcases Nat.lt_or_ge j i with h8 | h8
  ·have := kids_lt h8 hj h; omega
  ·have : j = i := by omega
   subst this; rw [h] at hj; have := Option.some.inj hj; omega
theorem chF_ok {p : List TStep} {vars : List Int} : ∀ (l : List Int), (∀ x, l.getLast? = some x → (nS p x.toNat).cond.length = 0) → l ≠ [] → ∀ k, chF p vars l = k → 0 ≤ k → k ∈ l := by
 intro l
 induction l with
 | nil => intro _ h; exact absurd rfl h
 | cons x r ih =>
  intro hl _ k hk h0
  unfold chF at hk
  split at hk
  ·subst hk; exact List.mem_cons_self
  ·split at hk
   ·omega
   ·split at hk
    ·subst hk; exact List.mem_cons_self
    ·cases r with
     | nil =>
      exact absurd (hl x rfl) (by assumption)
     | cons y r => exact List.mem_cons_of_mem _ (ih (fun z hz => hl z (by rw [List.getLast?_cons_cons]; exact hz)) (by simp) k hk h0)
theorem up_dec {l : List Int} (hl : ParOk l) {i : Int} {t : Nat} (h0 : -1 ≤ i) (hi : i < l.length) (h : i ≤ t) : upB l i t = decide (i = (t : Int)) := by
 rcases Int.lt_or_le i t with h1 | h1
 ·rw [upB_lt hl (t + 1) i (by omega) hi h1]; simp; omega
 ·have : i = t := by omega
  subst this
  rw [upB_eq hl (by omega) hi, if_pos rfl]; simp
theorem undL_y {p : List TStep} {a i : Nat} (h1 : a ≤ i) (h : upB (pars p) i a = true) : undL p a (i + 1) = undL p a i ++ [(i : Int)] := by rw [undL_step, if_pos ⟨h1, h⟩]
theorem undL_n {p : List TStep} {a i : Nat} (h : ¬ upB (pars p) i a = true) : undL p a (i + 1) = undL p a i := by rw [undL_step, if_neg (fun h2 => h h2.2), List.append_nil]
end Go.AM
namespace Go.AM
def TChartResult.gok (x : TChartResult) : Prop := x.chart.gok
@[go_sem ↓ high] theorem encB_B1 (s : List UInt8) : encB s = s.map B1 := rfl
theorem byteOfCell_B1 (b : UInt8) : byteOfCell [.int .u8 b.toNat] = some b := by
 have := b.toNat_lt
 simp [byteOfCell]; omega
theorem decB_B1 (s : List UInt8) : decB (s.map B1) = some s := decB_encB s
attribute [go_sem ↓ high] decB_B1 byteOfCell_B1
def b8 (n : Int) : UInt8 := UInt8.ofNat (n % 256).toNat
@[go_sem] theorem wrap_u8 (n : Int) : IntKind.wrap .u8 n = ((b8 n).toNat : Int) := by
 have h : (UInt8.ofNat (n % 256).toNat).toNat = (n % 256).toNat := by rw [UInt8.toNat_ofNat']; omega
 simp only [b8, h, IntKind.wrap, IntKind.bits, IntKind.signed]
 simp
 omega
def digs : Nat → Int → List UInt8 → List UInt8
 | 0, _, acc => acc
 | n + 1, k, acc => if 0 < k then digs n (k / 10) (b8 (48 + k % 10) :: acc) else acc
def mt (k : Int) : List UInt8 := if k ≤ 0 then [109, 48] else 109 :: digs k.toNat k []
theorem digs_more : ∀ (n m : Nat) (k : Int) (acc : List UInt8), k.toNat ≤ n → k.toNat ≤ m → digs n k acc = digs m k acc := by
 intro n
 induction n with
 | zero =>
  intro m k acc h _
  have : ¬ 0 < k := by omega
  cases m with
  | zero => rfl
  | succ m => simp [digs, this]
 | succ n ih =>
  intro m k acc h h2
  cases m with
  | zero =>
   have : ¬ 0 < k := by omega
   simp [digs, this]
  | succ m =>
   simp only [digs]
   split
   ·exact ih m _ _ (by omega) (by omega)
   ·rfl
theorem digs_zero {n : Nat} {k : Int} {acc : List UInt8} (h : k ≤ 0) : digs n k acc = acc := by
 cases n with
 | zero => rfl
 | succ n => simp only [digs]; rw [if_neg (by omega)]
theorem digs_step {k : Int} {acc : List UInt8} (h : 0 < k) : digs k.toNat k acc = digs (k / 10).toNat (k / 10) (b8 (48 + k % 10) :: acc) := by
 obtain ⟨n, hn⟩ : ∃ n, k.toNat = n + 1 := ⟨k.toNat - 1, by omega⟩
 rw [hn]
 simp only [digs]
 rw [if_pos h]
 exact digs_more _ _ _ _ (by omega) (by omega)
theorem mt_big {k : Int} {n : Nat} (h : 0 < k) (h2 : k * 10 ^ n ≤ 4611686018427387904) : k ≤ 4611686018427387904 := by
 have h10 : (1 : Int) ≤ 10 ^ n := by have : (0 : Int) < 10 ^ n := Int.pow_pos (by omega); omega
 have := Int.mul_le_mul_of_nonneg_left h10 (show 0 ≤ k by omega)
 omega
theorem mt_step {k : Int} {n : Nat} (h : 0 < k) (h2 : k * 10 ^ n ≤ 4611686018427387904) : n ≤ 18 ∧ (k / 10) * 10 ^ (n + 1) ≤ 4611686018427387904 := by
 have h10 : (0 : Int) ≤ 10 ^ n := Int.pow_nonneg (by omega)
 refine ⟨?_, ?_⟩
 ·rcases Nat.lt_or_ge 18 n with hn | hn
  ·exfalso
   have e : (10 : Int) ^ n = 10 ^ 19 * 10 ^ (n - 19) := by rw [← Int.pow_add]; congr 1; omega
   have h1 : (1 : Int) ≤ 10 ^ (n - 19) := by have : (0 : Int) < 10 ^ (n - 19) := Int.pow_pos (by omega); omega
   have h3 : (10 : Int) ^ 19 * 1 ≤ 10 ^ 19 * 10 ^ (n - 19) := Int.mul_le_mul_of_nonneg_left h1 (by decide)
   have h4 : 1 * (10 : Int) ^ n ≤ k * 10 ^ n := Int.mul_le_mul_of_nonneg_right (by omega) h10
   have h5 : (10 : Int) ^ 19 * 1 = 10000000000000000000 := by decide
   omega
  ·exact hn
 ·have e : (k / 10) * 10 ^ (n + 1) = (k / 10 * 10) * 10 ^ n := by rw [Int.pow_succ]; rw [Int.mul_comm (10 ^ n) 10, ← Int.mul_assoc]
  rw [e]
  have : (k / 10 * 10) * 10 ^ n ≤ k * 10 ^ n := Int.mul_le_mul_of_nonneg_right (by omega) h10
  omega
def mkP {α : Type} (f : Int → α) (l : List α) (k : Int) (i : Nat) : List α := (List.range i).map (fun (j : Nat) => f (k + j)) ++ l.drop i
def mkL {α : Type} (f : Int → α) (n : Nat) (k : Int) : List α := (List.range n).map fun (j : Nat) => f (k + j)
theorem mkL_len {α : Type} {f : Int → α} {n : Nat} {k : Int} : (mkL f n k).length = n := by simp [mkL]
theorem mkL_at {α : Type} {f : Int → α} {n : Nat} {k : Int} {i : Nat} (h : i < n) : (mkL f n k)[i]? = some (f (k + i)) := by simp [mkL, h]
theorem mkP_len {α : Type} {f : Int → α} {l : List α} {k : Int} {i : Nat} (h : i ≤ l.length) : (mkP f l k i).length = l.length := by simp [mkP]; omega
theorem mkP_zero {α : Type} (f : Int → α) (l : List α) (k : Int) : mkP f l k 0 = l := by simp [mkP]
theorem mkP_end {α : Type} {f : Int → α} {l : List α} {k : Int} {i : Nat} (h : i = l.length) : mkP f l k i = mkL f l.length k := by subst h; simp [mkP, mkL]
theorem mkP_set {α : Type} {f : Int → α} {l : List α} {k : Int} {i : Nat} (h : i < l.length) : (mkP f l k i).set i (f (k + i)) = mkP f l k (i + 1) := by
 unfold mkP
 rw [List.set_append, if_neg (by simp), List.range_succ, List.map_append]
 have e2 : i - ((List.range i).map fun (j : Nat) => f (k + j)).length = 0 := by simp
 rw [e2, List.drop_eq_getElem_cons h, List.set_cons_zero, List.append_assoc]
 rfl
theorem mkP_at {α : Type} {f : Int → α} {l : List α} {k : Int} {i : Nat} {x : α} (h : l[i]? = some x) : (mkP f l k i)[i]? = some x := by
 have hi := at_lt h
 unfold mkP
 rw [List.getElem?_append_right (by simp)]
 simp [h]
end Go.AM
namespace Go.AM
def crow (c : TChart) : List AV := [.int .i64 c.status, .int .i64 c.now, .osl 1 (c.vars.map I1), .osl 1 (c.acts.map I1), .osl 1 (c.dues.map I1)]
def brow (p : List TStep) (c : TChart) : List AV := .isl 6 (p.map TStep.ro) :: crow c
@[go_sem] theorem crow_eq (c : TChart) : crow c = [.int .i64 c.status, .int .i64 c.now, .osl 1 (c.vars.map I1), .osl 1 (c.acts.map I1), .osl 1 (c.dues.map I1)] := rfl
@[go_sem] theorem brow_eq (p : List TStep) (c : TChart) : brow p c = [.isl 6 (p.map TStep.ro), .int .i64 c.status, .int .i64 c.now, .osl 1 (c.vars.map I1), .osl 1 (c.acts.map I1), .osl 1 (c.dues.map I1)] := rfl
theorem foldl_take {α β : Type} {f : β → α → β} {c : β} {l : List α} {i : Nat} {x : α} (h : l[i]? = some x) : (l.take (i + 1)).foldl f c = f ((l.take i).foldl f c) x := by
 rw [List.take_add_one, h, List.foldl_append]; rfl
theorem foldl_end {α β : Type} {f : β → α → β} {c : β} {l : List α} {i : Nat} (h : l.length ≤ i) : (l.take i).foldl f c = l.foldl f c := by rw [List.take_of_length_le h]
def idleN (c : TChart) (l : List Int) (i : Nat) : TChart := (l.take i).foldl idle1 c
theorem idleN_zero (c : TChart) (l : List Int) : idleN c l 0 = c := by simp [idleN]
theorem idleN_end {p : List TStep} {a i : Nat} {c : TChart} (h : (undL p a p.length).length ≤ i) : idleN c (undL p a p.length) i = idleF p a c := foldl_end h
theorem idleN_wf {p : List TStep} {c : TChart} (h : WfC p c) (l : List Int) (i : Nat) : WfC p (idleN c l i) := WfC.idles _ c h
theorem idleN_step {c : TChart} {l : List Int} {i : Nat} {x : Int} (h : l[i]? = some x) : idleN c l (i + 1) = ⟨(idleN c l i).status, (idleN c l i).now, (idleN c l i).vars, (idleN c l i).acts.set x.toNat 0, (idleN c l i).dues.set x.toNat 0⟩ := foldl_take h
theorem tset {l : List Int} {i : Nat} {v : Int} : ∀ c ∈ (l.map I1).set i [AV.int .i64 v], ∀ x ∈ c, AV.tree x = true := by
 intro c hc x hx
 rcases List.mem_or_eq_of_mem_set hc with h | h
 ·exact (I1_treeL l).2 True.intro c h x hx
 ·subst h; rw [List.mem_singleton] at hx; subst hx; rfl
@[go_sem ↓ high] theorem tset_iff {l : List Int} {i : Nat} {v : Int} : (∀ c ∈ (l.map I1).set i [AV.int .i64 v], ∀ x ∈ c, AV.tree x = true) ↔ True := ⟨fun _ => True.intro, fun _ => tset⟩
@[go_sem] theorem rep_ids (n : Nat) (k : IntKind) (v : Int) : (List.replicate n [AV.int k v]).flatMap idsL = [] := by
 rw [List.flatMap_eq_nil_iff]; intro x hx; rw [List.eq_of_mem_replicate hx]; rfl
def z0 : Int → Int := fun _ => 0
def endN (c : TChart) (st : Int) (i : Nat) : TChart := ⟨st, c.now, c.vars, mkP z0 c.acts 0 i, mkP z0 c.dues 0 i⟩
theorem mkL_zero (n : Nat) : mkL z0 n 0 = List.replicate n 0 := by
 unfold mkL z0
 rw [List.map_const', List.length_range]
theorem endN_end {p : List TStep} {c : TChart} (h : WfC p c) (st : Int) : endN c st p.length = endF p.length st c := by
 unfold endN endF
 rw [mkP_end h.acts.symm, mkP_end h.dues.symm, h.acts, h.dues, mkL_zero]
theorem endN_step {c : TChart} {st : Int} {i : Nat} (h1 : i < c.acts.length) (h2 : i < c.dues.length) : endN c st (i + 1) = ⟨st, c.now, c.vars, (mkP z0 c.acts 0 i).set i 0, (mkP z0 c.dues 0 i).set i 0⟩ := by
 unfold endN
 rw [← mkP_set (f := z0) (k := 0) h1, ← mkP_set (f := z0) (k := 0) h2]; rfl
theorem small_mul {a b : Int} (ha : small a = true) (hb : small b = true) : -1000000000000 ≤ a * b ∧ a * b ≤ 1000000000000 := by
 have h1 := small_iff.1 ha
 have h2 := small_iff.1 hb
 have h3 : (a * b).natAbs ≤ 1000000 * 1000000 := by rw [Int.natAbs_mul]; exact Nat.mul_le_mul (by omega) (by omega)
 omega
theorem small_div {a b : Int} (ha : small a = true) : -1000000 ≤ a.tdiv b ∧ a.tdiv b ≤ 1000000 := by
 have h1 := small_iff.1 ha
 have h3 : (a.tdiv b).natAbs ≤ a.natAbs := by rw [Int.natAbs_tdiv]; exact Nat.div_le_self _ _
 omega
end Go.AM
namespace Go.AM
theorem evL_succ {e : List TNode} {vars : List Int} {i : Nat} {x : TNode} (hx : e[i]? = some x) : evL e vars (i + 1) = evL e vars i ++ [evV x vars (evL e vars i)] := by
 simp only [evL]; rw [nA_at hx]
theorem ev_next {e : List TNode} {vars : List Int} {i : Nat} {x : TNode} (hx : e[i]? = some x) (ho : evOk e vars i = true) (hb : evBad x vars (evL e vars i) = false) : evOk e vars (i + 1) = true := by
 simp only [evOk]; rw [nA_at hx, ho, hb]; rfl
theorem ev_bad {e : List TNode} {vars : List Int} {i : Nat} {x : TNode} (hi : i < e.length) (hx : e[i]? = some x) (hb : evBad x vars (evL e vars i) = true) : evalB e vars = false := by
 cases h : evalB e vars with
 | false => rfl
 | true =>
  have h2 := evOk_le (i := i + 1) (by omega) h
  simp only [evOk] at h2
  rw [nA_at hx, hb] at h2
  simp at h2
theorem gI_small {e : List TNode} {vars : List Int} {i : Nat} {k : Int} (ho : evOk e vars i = true) (h0 : 0 ≤ k) (hk : k.toNat < i) : small (gI (evL e vars i) k) = true := evOk_small hk ho
theorem gI_at {l : List Int} {k : Int} (hk : k.toNat < l.length) : l[k.toNat]? = some (gI l k) := getD_at hk
theorem ev_facts {e : List TNode} {vars : List Int} {i : Nat} {x : TNode} (hp : PartsOk e e.length) (ht : typU e e.length = false) (hv : vars.length = 4) (hs : ∀ v ∈ vars, small v = true) (hx : e[i]? = some x) (ho : evOk e vars i = true) :
  (x.kind = 1 → small x.val = true) ∧ (x.kind = 2 → ∃ u, vars[x.val.toNat]? = some u ∧ (0 ≤ x.val ∧ gI vars x.val = u ∧ small u = true)) ∧
  (x.kind = 10 → ∃ u, (evL e vars i)[x.left.toNat]? = some u ∧ (0 ≤ x.left ∧ x.left.toNat < i ∧ gI (evL e vars i) x.left = u ∧ small u = true)) ∧
  (isTwoB x.kind = true → (3 ≤ x.kind ∧ x.kind ≤ 9) ∧ small (gI (evL e vars i) x.left) = true ∧ small (gI (evL e vars i) x.right) = true ∧ (x.kind = 9 → (gI (evL e vars i) x.left = 0 ∨ gI (evL e vars i) x.left = 1) ∧ (gI (evL e vars i) x.right = 0 ∨ gI (evL e vars i) x.right = 1))) := by
 have hi := at_lt hx
 have h1 := hp i hi
 rw [nodeAt_at hx] at h1
 have h2 := nodeF_parts h1
 have hl := evL_len e vars i
 refine ⟨fun h => ?_, fun h => ?_, fun h => ?_, fun h => ?_⟩
 ·have h3 : 0 ≤ x.val ∧ x.val ≤ 9999 := by unfold nodeF at h1; grind
  exact small_iff.2 (by omega)
 ·have h3 : 0 ≤ x.val ∧ x.val ≤ 3 := by unfold nodeF at h1; grind
  have hk : x.val.toNat < vars.length := by omega
  exact ⟨_, gI_at hk, by omega, rfl, hs _ (List.mem_of_getElem? (gI_at hk))⟩
 ·have h3 := h2.1 h
  exact ⟨_, gI_at (by rw [hl]; exact h3.2), h3.1, h3.2, rfl, gI_small ho h3.1 h3.2⟩
 ·have h3 := h2.2.1 h
  refine ⟨inR_iff.1 h, gI_small ho h3.1 h3.2.1, gI_small ho h3.2.2.1 h3.2.2.2, fun h9 => ?_⟩
  have hb : typBad e i = false := by
   cases h4 : typBad e i with
   | false => rfl
   | true => rw [typU_hit hi h4] at ht; cases ht
  unfold typBad at hb
  simp only [nA_at hx, Bool.or_eq_false_iff, Bool.and_eq_false_imp, decide_eq_true_eq, decide_eq_false_iff_not, Classical.not_not] at hb
  have q : ∀ y : Int, ownT y = partT x.kind → 6 < y := by
   intro y hy
   unfold ownT partT at hy
   rw [if_neg (show ¬ x.kind ≤ 8 by omega)] at hy
   split at hy
   ·cases hy
   ·omega
  exact ⟨ev_bool hp ht _ _ _ (Nat.le_refl _) h3.2.1 (by omega) (q _ (hb.1 (by omega))), ev_bool hp ht _ _ _ (Nat.le_refl _) h3.2.2.2 (by omega) (q _ (hb.2 h))⟩
theorem ev_one {x : TNode} {vars out : List Int} (h : x.kind = 1) (hs : small x.val = true) : evV x vars out = x.val ∧ evBad x vars out = false := by
 have e : evV x vars out = x.val := by
  unfold evV isTwoB; rw [if_neg (by omega), if_neg (by omega), if_neg (by rw [inR_iff]; omega)]
 refine ⟨e, ?_⟩
 unfold evBad; rw [e, hs, h]; rfl
theorem ev_two {x : TNode} {vars out : List Int} {u : Int} (h : x.kind = 2) (hu : gI vars x.val = u) (hs : small u = true) : evV x vars out = u ∧ evBad x vars out = false := by
 have e : evV x vars out = u := by unfold evV; rw [if_pos h, hu]
 refine ⟨e, ?_⟩
 unfold evBad; rw [e, hs, h]; rfl
theorem ev_more {x : TNode} {vars out : List Int} {u v : Int} (h : 3 ≤ x.kind ∧ x.kind ≤ 10) (hu : gI out x.left = u) (hv : gI out x.right = v) :
  evV x vars out = (if x.kind = 10 then 1 - u else reckV x.kind u v) ∧ evBad x vars out = ((decide (x.kind = 6) && decide (v = 0)) || !small (if x.kind = 10 then 1 - u else reckV x.kind u v)) := by
 have e : evV x vars out = (if x.kind = 10 then 1 - u else reckV x.kind u v) := by
  unfold evV isTwoB
  rw [if_neg (by omega)]
  split
  ·rw [hu]
  ·rw [if_pos (inR_iff.2 (by omega)), hu, hv]
 refine ⟨e, ?_⟩
 unfold evBad; rw [e, hv]
end Go.AM
namespace Go.AM
structure EGood (e : List TNode) : Prop where
 len : 1 ≤ e.length ∧ e.length ≤ 16
 parts : PartsOk e e.length
 ty : typU e e.length = false
theorem eGood {e : List TNode} {w : Int} (h0 : 0 < e.length) (h : typF e w = 0) : EGood e := by
 unfold typF at h
 rw [if_neg (by omega)] at h
 split at h
 ·exact absurd h (by assumption)
 rename_i h1
 have h1 : typC e = 0 := by simpa using h1
 unfold typC at h1
 split at h1
 ·exact absurd h1 (by assumption)
 rename_i h2
 have h2 : exprF e = 0 := by simpa using h2
 have ht : typU e e.length = false := by
  cases h3 : typU e e.length with
  | false => rfl
  | true => rw [h3] at h1; simp at h1
 unfold exprF at h2
 split at h2
 ·cases h2
 rename_i h3
 have h4 := inR_iff.1 (show inR e.length 1 16 = true by simpa using h3)
 split at h2
 ·exact absurd h2 (by assumption)
 rename_i h5
 exact ⟨by omega, sc_all (by simpa using h5), ht⟩
theorem ProcOk.cond {p : List TStep} (h : ProcOk p) {a : Nat} (ha : a < p.length) (h0 : 0 < (nS p a).cond.length) : EGood (nS p a).cond := by
 have h1 := h.ty a ha
 unfold tyF at h1
 split at h1
 ·exact absurd h1 (by assumption)
 ·rename_i h2
  exact eGood h0 (by simpa using h2)
theorem ProcOk.expr {p : List TStep} (h : ProcOk p) {a : Nat} (ha : a < p.length) (h7 : (nS p a).kind = 7) : EGood (nS p a).expr := by
 have h1 := h.ty a ha
 unfold tyF at h1
 split at h1
 ·exact absurd h1 (by assumption)
 ·refine eGood ?_ h1
  have h2 := h.one a ha
  unfold oneF stepF at h2
  rw [h7] at h2
  repeat' split at h2
  all_goals first | (cases h2; done) | contradiction | skip
  all_goals (unfold exprF at h2; split at h2; · cases h2)
  all_goals (rename_i h3; have h4 := inR_iff.1 (show inR (nS p a).expr.length 1 16 = true by simpa using h3); omega)
theorem ProcOk.arg {p : List TStep} (h : ProcOk p) {a : Nat} (ha : a < p.length) (h2 : (nS p a).kind ≠ 2) : lowA (nS p a).kind ≤ (nS p a).arg ∧ (nS p a).arg ≤ highA (nS p a).kind := by
 have h1 := h.one a ha
 unfold oneF stepF at h1
 rw [if_neg h2] at h1
 split at h1
 ·cases h1
 ·split at h1
  ·exact absurd h1 (by assumption)
  ·split at h1
   ·cases h1
   ·split at h1
    ·cases h1
    ·omega
theorem ProcOk.steps' {p : List TStep} (h : ProcOk p) : StepsOk p := ⟨h.len, h.one⟩
theorem ProcOk.pre {p : List TStep} (h : ProcOk p) : PreOk (pars p) := h.steps'.pre
theorem ProcOk.kid {p : List TStep} (h : ProcOk p) {a : Nat} {k : Int} (hk : k ∈ kids p (a : Int)) : ∃ m : Nat, k = m ∧ a < m ∧ m < p.length ∧ (nS p m).par = a ∧ mE (pars p) m < mE (pars p) a := by
 obtain ⟨m, rfl, h1, h2, h3⟩ := kids_mem.1 hk
 have h4 := h.parI h1 h2
 exact ⟨m, rfl, by omega, h2, h3, mE_kid (by omega) (by rw [pars_len]; exact h2)⟩
theorem ProcOk.last {p : List TStep} (h : ProcOk p) {a : Nat} (h3 : (nS p a).kind = 3) {k : Int} (hk : k ∈ kids p (a : Int)) : (nS p k.toNat).cond.length = 0 ↔ k = lastI (kids p (a : Int)) := by
 obtain ⟨m, rfl, h1, h2, h4, _⟩ := h.kid hk
 have h5 := h.shape m h2
 unfold shapeF at h5
 simp only at h5
 split at h5
 ·cases h5
 split at h5
 ·cases h5
 rename_i h6
 have h6 : decide (0 < (nS p m).cond.length) = wants p m := by simpa using h6
 unfold wants at h6
 rw [h4] at h6
 rw [Int.toNat_natCast] at h6 ⊢
 have h7 : decide (m ≠ 0) = true := by simp; omega
 rw [h7, h3] at h6
 simp only [Bool.true_and, decide_true, decide_eq_decide] at h6
 constructor
 ·intro h8
  by_cases h9 : (m : Int) = lastI (kids p (a : Int))
  ·exact h9
  ·have := h6.2 h9; omega
 ·intro h8
  rcases Nat.eq_zero_or_pos (nS p m).cond.length with h9 | h9
  ·exact h9
  ·exact absurd h8 (h6.1 h9)
theorem ProcOk.chF {p : List TStep} (h : ProcOk p) {a : Nat} (h3 : (nS p a).kind = 3) (vars : List Int) (h0 : 0 ≤ chF p vars (kids p (a : Int))) : chF p vars (kids p (a : Int)) ∈ kids p (a : Int) := by
 have hne : kids p (a : Int) ≠ [] := by
  intro e; rw [e] at h0; simp [Go.AM.chF] at h0
 refine chF_ok _ ?_ hne _ rfl h0
 intro x hx
 have hm : x ∈ kids p (a : Int) := List.mem_of_getLast? hx
 refine (h.last h3 hm).2 ?_
 have := last_at hne
 rw [List.getLast?_eq_getElem?, this] at hx
 exact (Option.some.inj hx).symm
theorem chF_step {p : List TStep} {vars : List Int} {l : List Int} {i : Nat} {k : Int} (h : l[i]? = some k) : chF p vars (l.drop i) = if (nS p k.toNat).cond.length = 0 then k else if evalB (nS p k.toNat).cond vars = false then -1 else if evalI (nS p k.toNat).cond vars = 1 then k else chF p vars (l.drop (i + 1)) := by
 have hi := at_lt h
 rw [List.drop_eq_getElem_cons hi]
 have : l[i] = k := by rw [List.getElem?_eq_getElem hi] at h; exact Option.some.inj h
 rw [this, chF]
theorem foldl_wf {p : List TStep} {f : Nat} (hex : ∀ a, a < p.length → (nS p a).kind = 7 → 0 < (nS p a).expr.length) : ∀ (l : List Int) (c : TChart), WfC p c → WfC p (l.foldl (fun c k => goF p f true k.toNat c) c)
 | [], c, h => h
 | k :: r, c, h => foldl_wf hex r _ (WfC.go hex f true k.toNat c (fun _ _ => True.intro) h)
def goN (p : List TStep) (f : Nat) (l : List Int) (c : TChart) (i : Nat) : TChart := (l.take i).foldl (fun c k => goF p f true k.toNat c) c
theorem goN_zero (p : List TStep) (f : Nat) (l : List Int) (c : TChart) : goN p f l c 0 = c := by simp [goN]
theorem goN_step {p : List TStep} {f : Nat} {l : List Int} {c : TChart} {i : Nat} {k : Int} (h : l[i]? = some k) : goN p f l c (i + 1) = goF p f true k.toNat (goN p f l c i) := foldl_take h
theorem goN_end {p : List TStep} {f : Nat} {l : List Int} {c : TChart} {i : Nat} (h : l.length ≤ i) : goN p f l c i = l.foldl (fun c k => goF p f true k.toNat c) c := foldl_end h
theorem goN_wf {p : List TStep} {f : Nat} (h : ProcOk p) {l : List Int} {c : TChart} {i : Nat} (hw : WfC p c) : WfC p (goN p f l c i) := foldl_wf (fun a ha h7 => by have := (h.expr ha h7).len; omega) _ c hw
theorem ProcOk.wf {p : List TStep} (h : ProcOk p) {f : Nat} {b : Bool} {a : Nat} {c : TChart} (hw : WfC p c) : WfC p (goF p f b a c) := WfC.go (fun a ha h7 => by have := (h.expr ha h7).len; omega) f b a c (fun _ _ => True.intro) hw
theorem go_off {p : List TStep} {f a : Nat} {c : TChart} (h : c.status ≠ 1) : goF p (f + 1) true a c = c := by simp [goF, h]
theorem go_seq {p : List TStep} {f a : Nat} {c : TChart} (h : c.status = 1) (hk : (nS p a).kind = 1) : goF p (f + 1) true a c = goF p f true (headI (kids p a)).toNat (setA c a 1) := by simp [goF, h, hk]
theorem go_and {p : List TStep} {f a : Nat} {c : TChart} (h : c.status = 1) (hk : (nS p a).kind = 4) : goF p (f + 1) true a c = (kids p a).foldl (fun c k => goF p f true k.toNat c) (setA c a 1) := by simp [goF, h, hk]
theorem go_xor {p : List TStep} {f a : Nat} {c : TChart} (h : c.status = 1) (hk : (nS p a).kind = 3) : goF p (f + 1) true a c = if chF p c.vars (kids p a) < 0 then endF p.length 3 (setA c a 1) else goF p f true (chF p c.vars (kids p a)).toNat (setA c a 1) := by simp [goF, h, hk]; rfl
theorem go_guard {p : List TStep} {f a : Nat} {c : TChart} (h : c.status = 1) (hk : (nS p a).kind = 8) : goF p (f + 1) true a c = goF p f true (headI (kids p a)).toNat (setD (setA c a 1) a (c.now + (nS p a).arg)) := by simp [goF, h, hk]; rfl
theorem go_timer {p : List TStep} {f a : Nat} {c : TChart} (h : c.status = 1) (hk : (nS p a).kind = 6) : goF p (f + 1) true a c = setD (setA c a 1) a (c.now + (nS p a).arg) := by simp [goF, h, hk]; rfl
theorem go_set {p : List TStep} {f a : Nat} {c : TChart} (h : c.status = 1) (hk : (nS p a).kind = 7) : goF p (f + 1) true a c = if evalB (nS p a).expr c.vars = false then endF p.length 3 (setA c a 1) else goF p f false a (setV (setA c a 1) (nS p a).arg (evalI (nS p a).expr c.vars)) := by simp [goF, h, hk]; rfl
theorem go_rest {p : List TStep} {f a : Nat} {c : TChart} (h : c.status = 1) (h1 : (nS p a).kind ≠ 1) (h4 : (nS p a).kind ≠ 4) (h3 : (nS p a).kind ≠ 3) (h8 : (nS p a).kind ≠ 8) (h6 : (nS p a).kind ≠ 6) (h7 : (nS p a).kind ≠ 7) : goF p (f + 1) true a c = setA c a 1 := by simp [goF, h, h1, h4, h3, h8, h6, h7]
theorem ov_top {p : List TStep} {f : Nat} {c : TChart} : goF p (f + 1) false 0 c = endF p.length 2 (idleF p 0 c) := by simp [goF]
theorem ov_next {p : List TStep} {f a : Nat} {c : TChart} (h0 : a ≠ 0) (hk : (nS p (nS p a).par.toNat).kind = 1) (hs : 0 ≤ sib (pars p) a) : goF p (f + 1) false a c = goF p f true (sib (pars p) a).toNat (idleF p a c) := by simp [goF, h0, hk, hs]
theorem ov_seq {p : List TStep} {f a : Nat} {c : TChart} (h0 : a ≠ 0) (hk : (nS p (nS p a).par.toNat).kind = 1) (hs : sib (pars p) a < 0) : goF p (f + 1) false a c = goF p f false (nS p a).par.toNat (idleF p a c) := by
 have : ¬ 0 ≤ sib (pars p) a := by omega
 simp [goF, h0, hk, this]
theorem ov_and {p : List TStep} {f a : Nat} {c : TChart} (h0 : a ≠ 0) (hk : (nS p (nS p a).par.toNat).kind = 4) : goF p (f + 1) false a c = if (kids p (nS p a).par.toNat).all (fun k => decide (actA (setA (idleF p a c) a 2) k = 2)) then goF p f false (nS p a).par.toNat (setA (idleF p a c) a 2) else setA (idleF p a c) a 2 := by simp [goF, h0, hk]
theorem ov_rest {p : List TStep} {f a : Nat} {c : TChart} (h0 : a ≠ 0) (h1 : (nS p (nS p a).par.toNat).kind ≠ 1) (h4 : (nS p (nS p a).par.toNat).kind ≠ 4) : goF p (f + 1) false a c = goF p f false (nS p a).par.toNat (idleF p a c) := by simp [goF, h0, h1, h4]
theorem set_I1 {l : List Int} {i : Nat} {v : Int} : (l.map I1).set i [AV.int .i64 v] = (l.set i v).map I1 := by rw [List.map_set]; rfl
theorem set_I1b {l : List Int} {i : Nat} {v : Int} : (l.map I1).set i (AV.int .i64 v :: ((Option.map I1 l[i]?).getD []).tail) = (l.set i v).map I1 := by
 rw [List.map_set]
 cases h : l[i]? with
 | none => rfl
 | some u => rfl
theorem setA_vars (c : TChart) (k v : Int) : (setA c k v).vars = c.vars := rfl
theorem any_not_all {c : TChart} {l : List Int} : (!(l.any fun k => decide (actA c k ≠ 2))) = (l.all fun k => decide (actA c k = 2)) := by
 induction l with
 | nil => rfl
 | cons k r ih =>
  rw [List.any_cons, List.all_cons, ← ih]
  by_cases h : actA c k = 2 <;> simp [h]
end Go.AM
namespace Go.AM
def DueK (p : List TStep) (c : TChart) : Prop := ∀ i : Nat, c.dues.getD i 0 ≠ 0 → i < p.length ∧ ((nS p i).kind = 6 ∨ (nS p i).kind = 8)
def DueLe (c d : TChart) : Prop := d.now = c.now ∧ ∀ i : Nat, d.dues.getD i 0 = c.dues.getD i 0 ∨ d.dues.getD i 0 = 0 ∨ c.now < d.dues.getD i 0
theorem DueLe.refl (c : TChart) : DueLe c c := ⟨rfl, fun i => Or.inl rfl⟩
theorem DueLe.trans {a b c : TChart} (h : DueLe a b) (h2 : DueLe b c) : DueLe a c := by
 refine ⟨by rw [h2.1, h.1], fun i => ?_⟩
 have h3 := h.2 i
 have h4 := h2.2 i
 have h5 := h.1
 omega
theorem getD_set {l : List Int} {k i : Nat} {v : Int} : (l.set k v).getD i 0 = if k = i ∧ i < l.length then v else l.getD i 0 := by
 rw [List.getD, List.getElem?_set, List.getD]
 by_cases h : k = i
 ·subst h
  by_cases h2 : k < l.length
  ·simp [h2]
  ·simp [h2, List.getElem?_eq_none (Nat.not_lt.1 h2)]
 ·simp [h]
theorem getD_rep {n i : Nat} : (List.replicate n (0 : Int)).getD i 0 = 0 := by
 rw [List.getD, List.getElem?_replicate]; split <;> rfl
theorem idles_dues : ∀ (l : List Int) (c : TChart) (i : Nat), (l.foldl idle1 c).dues.getD i 0 = 0 ∨ (l.foldl idle1 c).dues.getD i 0 = c.dues.getD i 0 ∧ (i : Int) ∉ l
 | [], c, i => Or.inr ⟨rfl, by simp⟩
 | k :: r, c, i => by
  rcases idles_dues r (idle1 c k) i with h | ⟨h, h2⟩
  ·exact Or.inl h
  ·rw [List.foldl_cons, h]
   show (c.dues.set k.toNat 0).getD i 0 = 0 ∨ (c.dues.set k.toNat 0).getD i 0 = c.dues.getD i 0 ∧ _
   rw [getD_set]
   by_cases h3 : k.toNat = i ∧ i < c.dues.length
   ·rw [if_pos h3]; exact Or.inl rfl
   ·rw [if_neg h3]
    by_cases h4 : i < c.dues.length
    ·refine Or.inr ⟨rfl, ?_⟩
     intro hm
     rcases List.mem_cons.1 hm with e | e
     ·exact h3 ⟨by omega, h4⟩
     ·exact h2 e
    ·left
     rw [List.getD, List.getElem?_eq_none (by omega)]; rfl
theorem dueK_of {p : List TStep} {c d : TChart} (h : DueK p c) (h2 : ∀ i : Nat, d.dues.getD i 0 = c.dues.getD i 0 ∨ d.dues.getD i 0 = 0) : DueK p d := by
 intro i hi
 rcases h2 i with h3 | h3
 ·exact h i (by rw [← h3]; exact hi)
 ·exact absurd h3 hi
theorem DueK.idle {p : List TStep} {c : TChart} (h : DueK p c) (a : Nat) : DueK p (idleF p a c) := dueK_of h fun i => by
 rcases idles_dues (undL p a p.length) c i with h | ⟨h, _⟩
 ·exact Or.inr h
 ·exact Or.inl h
theorem DueK.endF {p : List TStep} {c : TChart} (n : Nat) (st : Int) : DueK p (endF n st c) := fun i hi => absurd getD_rep hi
structure TickI (p : List TStep) (now : Int) (c : TChart) : Prop where
 wf : WfC p c
 dk : DueK p c
 now : c.now = now
theorem wfC_of {p : List TStep} {c : TChart} (h : chart1 p c = 0) : WfC p c := by
 obtain ⟨h1, h2, h3, h4, h5, h6⟩ := chart1_ok h
 unfold varsF at h4
 split at h4
 ·cases h4
 ·rename_i h7
  split at h4
  ·rename_i h8
   exact ⟨h5, h6, by simpa using h7, fun v hv => by rw [List.all_eq_true] at h8; exact h8 v hv, h3⟩
  ·cases h4
theorem chart1_of {p : List TStep} {c : TChart} (h : chartF p c = 0) : chart1 p c = 0 := by
 by_cases h1 : chart1 p c = 0
 ·exact h1
 ·rw [chartF_1 h1] at h; exact absurd h h1
theorem varsOk {l : List Int} (h : varsF l = 0) : l.length = 4 ∧ ∀ v ∈ l, small v = true := by
 unfold varsF at h
 split at h
 ·cases h
 ·rename_i h7
  split at h
  ·rename_i h8
   exact ⟨by simpa using h7, fun v hv => by rw [List.all_eq_true] at h8; exact h8 v hv⟩
  ·cases h
end Go.AM
namespace Go.AM
open Go.Proofs
theorem dc_slices_Clone_int64_int64_c (x : Int) (r : List Int) (hb : r.length + 1 ≤ 4194304) : DC Tryz.prog 48 [.isl 1 ((x :: r).map I1)] (.osl 1 ((x :: r).map I1)) [] := by
 refine DC.intro tiOk Tryz.func48 rfl rfl rfl rfl rfl rfl rfl rfl [1000] ?_
 refine rgA [0] ?_
 refine AW.seq ?_
 refine rgA [0,4] ?_
 refine AW.cond rfl ?_ ?_
 ·intro hc; try simp at hc
  all_goals try (exfalso; simp at hc; done)
  all_goals (
   refine rgA [2] ?_
   refine rt ?_
   simp [go_sem, Tryz.results48])
 ·intro hc; try simp at hc
  all_goals try (exfalso; simp at hc; done)
  all_goals (
   refine AW.skipN (fun _ h => h) ?_
   refine rgA [2] ?_
   refine rt ?_
   simp [go_sem, Tryz.results48])
theorem dc_CloneI (l : List Int) (h : l ≠ []) (hb : l.length ≤ 4194304) : DC Tryz.prog 48 [.isl 1 (l.map I1)] (.osl 1 (l.map I1)) [] := by
  cases l with
  | nil => exact absurd rfl h
  | cons x r => exact dc_slices_Clone_int64_int64_c x r hb
theorem dc_spec_l8Ints_c (x : Int) (r : List Int) (hb : r.length + 1 ≤ 4194304) : DC Tryz.prog 45 [.isl 1 ((x :: r).map I1)] (.osl 1 ((x :: r).map I1)) [] := by
 refine DC.intro tiOk Tryz.func45 rfl rfl rfl rfl rfl rfl rfl rfl [1000] ?_
 refine rgA [0] ?_
 refine rgA [2] ?_
 refine rt ?_
 simp [go_sem, Tryz.results45]
theorem dc_l8I (l : List Int) (h : l ≠ []) (hb : l.length ≤ 4194304) : DC Tryz.prog 45 [.isl 1 (l.map I1)] (.osl 1 (l.map I1)) [] := by
  cases l with
  | nil => exact absurd rfl h
  | cons x r => exact dc_spec_l8Ints_c x r hb
end Go.AM
namespace Go.AM
open Go.Proofs
theorem dc_impl_Chart_clone (p : List TStep) (hP : ProcOk p) (c : TChart) (hw : WfC p c) : DC Tryz.prog 38 [.agg c.ro] (.agg (crow c)) [] := by
 have hv := hw.vars
 have ha := hw.acts
 have hd := hw.dues
 have hl := hP.len
 have nv : c.vars ≠ [] := by intro e; rw [e] at hv; simp at hv
 have na : c.acts ≠ [] := by intro e; rw [e] at ha; simp at ha; omega
 have nd : c.dues ≠ [] := by intro e; rw [e] at hd; simp at hd; omega
 refine DC.intro tiOk Tryz.func38 rfl rfl rfl rfl rfl rfl rfl rfl [1000] ?_
 refine rgA [1,2] ?_
 refine rg [1,2] ?_
 intro k hk; simp -dsimp (maxSteps := 2000000) [go_sem, -decide_eq_true_eq, -decide_eq_false_iff_not]
 repeat' first | (refine Chk.keys ?_; simp only [go_sem, List.map_cons, List.map_nil, List.flatMap_cons, List.flatMap_nil, List.flatMap_append, List.append_nil, List.nil_append, List.cons_append]; decide +kernel) | apply And.intro | refine hk _ ?_ | intro hg | ((first | refine CallK.intro (dc_CloneI c.vars nv (by omega)) ?_ | refine CallK.intro (dc_CloneI c.acts na (by omega)) ?_ | refine CallK.intro (dc_CloneI c.dues nd (by omega)) ?_); simp -dsimp (maxSteps := 2000000) [go_sem, -decide_eq_true_eq, -decide_eq_false_iff_not]) | omega | exact True.intro
 all_goals clear hk k
 refine rgA [2] ?_
 refine rt ?_
 simp [go_sem, Tryz.results38]
theorem dc_spec_l9Copy (p : List TStep) (hP : ProcOk p) (c : TChart) (hw : WfC p c) : DC Tryz.prog 31 [.agg c.ro] (.agg (crow c)) [] := by
 have hv := hw.vars
 have ha := hw.acts
 have hd := hw.dues
 have hl := hP.len
 have nv : c.vars ≠ [] := by intro e; rw [e] at hv; simp at hv
 have na : c.acts ≠ [] := by intro e; rw [e] at ha; simp at ha; omega
 have nd : c.dues ≠ [] := by intro e; rw [e] at hd; simp at hd; omega
 refine DC.intro tiOk Tryz.func31 rfl rfl rfl rfl rfl rfl rfl rfl [1000] ?_
 refine rgA [1,2] ?_
 refine rg [2] ?_
 intro k hk; simp -dsimp (maxSteps := 2000000) [go_sem, -decide_eq_true_eq, -decide_eq_false_iff_not]
 repeat' first | (refine Chk.keys ?_; simp only [go_sem, List.map_cons, List.map_nil, List.flatMap_cons, List.flatMap_nil, List.flatMap_append, List.append_nil, List.nil_append, List.cons_append]; decide +kernel) | apply And.intro | refine hk _ ?_ | intro hg | ((first | refine CallK.intro (dc_l8I c.vars nv (by omega)) ?_ | refine CallK.intro (dc_l8I c.acts na (by omega)) ?_ | refine CallK.intro (dc_l8I c.dues nd (by omega)) ?_); simp -dsimp (maxSteps := 2000000) [go_sem, -decide_eq_true_eq, -decide_eq_false_iff_not]) | omega | exact True.intro
 all_goals clear hk k
 refine rt ?_
 simp [go_sem, Tryz.results31]
end Go.AM
