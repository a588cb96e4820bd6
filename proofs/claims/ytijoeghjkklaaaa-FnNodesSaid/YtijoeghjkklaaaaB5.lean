/- Joined texts: Ty Rd Pv Pw Pj Pk Pl Am24 Am27 Pd Px Py Pdr Pds T1 T2 S1 W6 Da. -/
import Derived.Test.YtijoeghjkklaaaaB1
import Derived.Test.YtijoeghjkklaaaaB2
import Derived.Test.YtijoeghjkklaaaaB3
import Derived.Test.YtijoeghjkklaaaaB4
import Derived.Test.YtijoeghjkklaaaaProg
set_option linter.unusedVariables false
set_option linter.unusedSimpArgs false
namespace Go.AM
open Go.Proofs
def i2 : TInfo := ⟨(.int .i64), 1, 8, some [.int .i64 0], false⟩
theorem tyok2 : TOk1 Try.prog 2 i2 := tok1 Try.typeInfo2 rfl rfl (tz1 _ rfl rfl rfl rfl) Try.underlying2 (fun h => absurd h (by decide))
def i3 : TInfo := ⟨(.int .i64), 1, 8, some [.int .i64 0], false⟩
theorem tyok3 : TOk1 Try.prog 3 i3 := tok1 Try.typeInfo3 rfl rfl (tz1 _ rfl rfl rfl rfl) Try.underlying3 (fun h => absurd h (by decide))
def i4 : TInfo := ⟨.bool, 1, 1, some [.bool false], false⟩
theorem tyok4 : TOk1 Try.prog 4 i4 := tok1 Try.typeInfo4 rfl rfl (tz1 _ rfl rfl rfl rfl) Try.underlying4 (fun h => absurd h (by decide))
def i5 : TInfo := ⟨(.int .u8), 1, 1, some [.int .u8 0], false⟩
theorem tyok5 : TOk1 Try.prog 5 i5 := tok1 Try.typeInfo5 rfl rfl (tz1 _ rfl rfl rfl rfl) Try.underlying5 (fun h => absurd h (by decide))
def i9 : TInfo := ⟨.str, 1, 16, some [.str []], false⟩
theorem tyok9 : TOk1 Try.prog 9 i9 := tok1 Try.typeInfo9 rfl rfl (tz1 _ rfl rfl rfl rfl) Try.underlying9 (fun h => absurd h (by decide))
def i21 : TInfo := ⟨(.int .i32), 1, 4, some [.int .i32 0], false⟩
theorem tyok21 : TOk1 Try.prog 21 i21 := tok1 Try.typeInfo21 rfl rfl (tz1 _ rfl rfl rfl rfl) Try.underlying21 (fun h => absurd h (by decide))
def i22 : TInfo := ⟨(.slice 5), 1, 24, some [.nils], false⟩
theorem tyok22 : TOk1 Try.prog 22 i22 := tok1 Try.typeInfo22 rfl rfl (tz1 _ rfl rfl rfl rfl) Try.underlying22 (fun h => absurd h (by decide))
def i24 : TInfo := ⟨(.slice 41), 1, 24, some [.nils], false⟩
theorem tyok24 : TOk1 Try.prog 24 i24 := tok1 Try.typeInfo24 rfl rfl (tz1 _ rfl rfl rfl rfl) Try.underlying24 (fun h => absurd h (by decide))
def i28 : TInfo := ⟨(.struct [(0, 2), (1, 2)]), 2, 16, some [.int .i64 0, .int .i64 0], true⟩
theorem tyok28 : TOk1 Try.prog 28 i28 := tok1 Try.typeInfo28 rfl rfl (tz1 _ rfl rfl rfl rfl) (kstruct Try.underlying28 rfl) (fun _ => flatEq (fs := [{ name := "Code", type := 2, offset := 0, embedded := false, tag := "", pkgPath := "", byteOffset := 0 }, { name := "Value", type := 2, offset := 1, embedded := false, tag := "", pkgPath := "", byteOffset := 8 }]) (by kernel_rfl) (by kernel_rfl) (by kernel_rfl) (by kernel_rfl) rfl (by intro j f h; match j, h with | 0, h => (cases h; exact ⟨rfl, by decide, Try.underlying2⟩) | 1, h => (cases h; exact ⟨rfl, by decide, Try.underlying2⟩) | (n + 2), h => simp at h))
def i30 : TInfo := ⟨(.slice 39), 1, 24, some [.nils], false⟩
theorem tyok30 : TOk1 Try.prog 30 i30 := tok1 Try.typeInfo30 rfl rfl (tz1 _ rfl rfl rfl rfl) Try.underlying30 (fun h => absurd h (by decide))
def i31 : TInfo := ⟨(.slice 78), 1, 24, some [.nils], false⟩
theorem tyok31 : TOk1 Try.prog 31 i31 := tok1 Try.typeInfo31 rfl rfl (tz1 _ rfl rfl rfl rfl) Try.underlying31 (fun h => absurd h (by decide))
def i33 : TInfo := ⟨(.struct [(0, 30), (1, 31)]), 2, 48, some [.nils, .nils], false⟩
theorem tyok33 : TOk1 Try.prog 33 i33 := tok1 Try.typeInfo33 rfl rfl (tz1 _ rfl rfl rfl rfl) (kstruct Try.underlying33 rfl) (fun h => absurd h (by decide))
def i35 : TInfo := ⟨(.struct [(0, 2), (1, 33)]), 3, 56, some [.int .i64 0, .nils, .nils], false⟩
theorem tyok35 : TOk1 Try.prog 35 i35 := tok1 Try.typeInfo35 rfl rfl (tz1 _ rfl rfl rfl rfl) (kstruct Try.underlying35 rfl) (fun h => absurd h (by decide))
def i37 : TInfo := ⟨(.slice 84), 1, 24, some [.nils], false⟩
theorem tyok37 : TOk1 Try.prog 37 i37 := tok1 Try.typeInfo37 rfl rfl (tz1 _ rfl rfl rfl rfl) Try.underlying37 (fun h => absurd h (by decide))
def i39 : TInfo := ⟨(.struct [(0, 2), (1, 2), (2, 9), (3, 2), (4, 37)]), 5, 64, some [.int .i64 0, .int .i64 0, .str [], .int .i64 0, .nils], false⟩
theorem tyok39 : TOk1 Try.prog 39 i39 := tok1 Try.typeInfo39 rfl rfl (tz1 _ rfl rfl rfl rfl) (kstruct Try.underlying39 rfl) (fun h => absurd h (by decide))
def i41 : TInfo := ⟨(.struct [(0, 2), (1, 2), (2, 9), (3, 2), (4, 37), (5, 37)]), 6, 88, some [.int .i64 0, .int .i64 0, .str [], .int .i64 0, .nils, .nils], false⟩
theorem tyok41 : TOk1 Try.prog 41 i41 := tok1 Try.typeInfo41 rfl rfl (tz1 _ rfl rfl rfl rfl) (kstruct Try.underlying41 rfl) (fun h => absurd h (by decide))
def i42 : TInfo := ⟨(.pointer 56), 1, 8, some [.nilp], false⟩
theorem tyok42 : TOk1 Try.prog 42 i42 := tok1 Try.typeInfo42 rfl rfl (tz1 _ rfl rfl rfl rfl) Try.underlying42 (fun h => absurd h (by decide))
def i54 : TInfo := ⟨(.pointer 33), 1, 8, some [.nilp], false⟩
theorem tyok54 : TOk1 Try.prog 54 i54 := tok1 Try.typeInfo54 rfl rfl (tz1 _ rfl rfl rfl rfl) Try.underlying54 (fun h => absurd h (by decide))
def i56 : TInfo := ⟨(.struct [(0, 22), (1, 2)]), 2, 32, some [.nils, .int .i64 0], false⟩
theorem tyok56 : TOk1 Try.prog 56 i56 := tok1 Try.typeInfo56 rfl rfl (tz1 _ rfl rfl rfl rfl) (kstruct Try.underlying56 rfl) (fun h => absurd h (by decide))
def i59 : TInfo := ⟨(.slice 9), 1, 24, some [.nils], false⟩
theorem tyok59 : TOk1 Try.prog 59 i59 := tok1 Try.typeInfo59 rfl rfl (tz1 _ rfl rfl rfl rfl) Try.underlying59 (fun h => absurd h (by decide))
def i60 : TInfo := ⟨(.slice 2), 1, 24, some [.nils], false⟩
theorem tyok60 : TOk1 Try.prog 60 i60 := tok1 Try.typeInfo60 rfl rfl (tz1 _ rfl rfl rfl rfl) Try.underlying60 (fun h => absurd h (by decide))
def i61 : TInfo := ⟨(.pointer 63), 1, 8, some [.nilp], false⟩
theorem tyok61 : TOk1 Try.prog 61 i61 := tok1 Try.typeInfo61 rfl rfl (tz1 _ rfl rfl rfl rfl) Try.underlying61 (fun h => absurd h (by decide))
def i63 : TInfo := ⟨(.struct [(0, 60), (1, 60)]), 2, 48, some [.nils, .nils], false⟩
theorem tyok63 : TOk1 Try.prog 63 i63 := tok1 Try.typeInfo63 rfl rfl (tz1 _ rfl rfl rfl rfl) (kstruct Try.underlying63 rfl) (fun h => absurd h (by decide))
def i69 : TInfo := ⟨(.pointer 71), 1, 8, some [.nilp], false⟩
theorem tyok69 : TOk1 Try.prog 69 i69 := tok1 Try.typeInfo69 rfl rfl (tz1 _ rfl rfl rfl rfl) Try.underlying69 (fun h => absurd h (by decide))
def i71 : TInfo := ⟨(.struct [(0, 24), (1, 33)]), 3, 72, some [.nils, .nils, .nils], false⟩
theorem tyok71 : TOk1 Try.prog 71 i71 := tok1 Try.typeInfo71 rfl rfl (tz1 _ rfl rfl rfl rfl) (kstruct Try.underlying71 rfl) (fun h => absurd h (by decide))
def i78 : TInfo := ⟨(.struct [(0, 2), (1, 2), (2, 37)]), 3, 40, some [.int .i64 0, .int .i64 0, .nils], false⟩
theorem tyok78 : TOk1 Try.prog 78 i78 := tok1 Try.typeInfo78 rfl rfl (tz1 _ rfl rfl rfl rfl) (kstruct Try.underlying78 rfl) (fun h => absurd h (by decide))
def i84 : TInfo := ⟨(.struct [(0, 2), (1, 2), (2, 2), (3, 2)]), 4, 32, some [.int .i64 0, .int .i64 0, .int .i64 0, .int .i64 0], true⟩
theorem tyok84 : TOk1 Try.prog 84 i84 := tok1 Try.typeInfo84 rfl rfl (tz1 _ rfl rfl rfl rfl) (kstruct Try.underlying84 rfl) (fun _ => flatEq (fs := [{ name := "Kind", type := 2, offset := 0, embedded := false, tag := "", pkgPath := "", byteOffset := 0 }, { name := "Value", type := 2, offset := 1, embedded := false, tag := "", pkgPath := "", byteOffset := 8 }, { name := "Left", type := 2, offset := 2, embedded := false, tag := "", pkgPath := "", byteOffset := 16 }, { name := "Right", type := 2, offset := 3, embedded := false, tag := "", pkgPath := "", byteOffset := 24 }]) (by kernel_rfl) (by kernel_rfl) (by kernel_rfl) (by kernel_rfl) rfl (by intro j f h; match j, h with | 0, h => (cases h; exact ⟨rfl, by decide, Try.underlying2⟩) | 1, h => (cases h; exact ⟨rfl, by decide, Try.underlying2⟩) | 2, h => (cases h; exact ⟨rfl, by decide, Try.underlying2⟩) | 3, h => (cases h; exact ⟨rfl, by decide, Try.underlying2⟩) | (n + 4), h => simp at h))
def i108 : TInfo := ⟨(.pointer 41), 1, 8, some [.nilp], false⟩
theorem tyok108 : TOk1 Try.prog 108 i108 := tok1 Try.typeInfo108 rfl rfl (tz1 _ rfl rfl rfl rfl) Try.underlying108 (fun h => absurd h (by decide))
def i115 : TInfo := ⟨(.int .u64), 1, 8, some [.int .u64 0], false⟩
theorem tyok115 : TOk1 Try.prog 115 i115 := tok1 Try.typeInfo115 rfl rfl (tz1 _ rfl rfl rfl rfl) Try.underlying115 (fun h => absurd h (by decide))
def i117 : TInfo := ⟨(.pointer 84), 1, 8, some [.nilp], false⟩
theorem tyok117 : TOk1 Try.prog 117 i117 := tok1 Try.typeInfo117 rfl rfl (tz1 _ rfl rfl rfl rfl) Try.underlying117 (fun h => absurd h (by decide))
def i128 : TInfo := ⟨(.int .u32), 1, 4, some [.int .u32 0], false⟩
theorem tyok128 : TOk1 Try.prog 128 i128 := tok1 Try.typeInfo128 rfl rfl (tz1 _ rfl rfl rfl rfl) Try.underlying128 (fun h => absurd h (by decide))
def i132 : TInfo := ⟨(.pointer 5), 1, 8, some [.nilp], false⟩
theorem tyok132 : TOk1 Try.prog 132 i132 := tok1 Try.typeInfo132 rfl rfl (tz1 _ rfl rfl rfl rfl) Try.underlying132 (fun h => absurd h (by decide))
def ti : TI := tiAdd 2 i2 (tiAdd 3 i3 (tiAdd 4 i4 (tiAdd 5 i5 (tiAdd 9 i9 (tiAdd 21 i21 (tiAdd 22 i22 (tiAdd 24 i24 (tiAdd 28 i28 (tiAdd 30 i30 (tiAdd 31 i31 (tiAdd 33 i33 (tiAdd 35 i35 (tiAdd 37 i37 (tiAdd 39 i39 (tiAdd 41 i41 (tiAdd 42 i42 (tiAdd 54 i54 (tiAdd 56 i56 (tiAdd 59 i59 (tiAdd 60 i60 (tiAdd 61 i61 (tiAdd 63 i63 (tiAdd 69 i69 (tiAdd 71 i71 (tiAdd 78 i78 (tiAdd 84 i84 (tiAdd 108 i108 (tiAdd 115 i115 (tiAdd 117 i117 (tiAdd 128 i128 (tiAdd 132 i132 (fun _ => none))))))))))))))))))))))))))))))))
theorem tiOk : TOk Try.prog ti := tok_add tyok2 (tok_add tyok3 (tok_add tyok4 (tok_add tyok5 (tok_add tyok9 (tok_add tyok21 (tok_add tyok22 (tok_add tyok24 (tok_add tyok28 (tok_add tyok30 (tok_add tyok31 (tok_add tyok33 (tok_add tyok35 (tok_add tyok37 (tok_add tyok39 (tok_add tyok41 (tok_add tyok42 (tok_add tyok54 (tok_add tyok56 (tok_add tyok59 (tok_add tyok60 (tok_add tyok61 (tok_add tyok63 (tok_add tyok69 (tok_add tyok71 (tok_add tyok78 (tok_add tyok84 (tok_add tyok108 (tok_add tyok115 (tok_add tyok117 (tok_add tyok128 (tok_add tyok132 (tok_nil))))))))))))))))))))))))))))))))
@[go_sem] theorem ti_2 : ti 2 = some ⟨(.int .i64), 1, 8, some [.int .i64 0], false⟩ := rfl
@[go_sem] theorem ti_3 : ti 3 = some ⟨(.int .i64), 1, 8, some [.int .i64 0], false⟩ := rfl
@[go_sem] theorem ti_4 : ti 4 = some ⟨.bool, 1, 1, some [.bool false], false⟩ := rfl
@[go_sem] theorem ti_5 : ti 5 = some ⟨(.int .u8), 1, 1, some [.int .u8 0], false⟩ := rfl
@[go_sem] theorem ti_9 : ti 9 = some ⟨.str, 1, 16, some [.str []], false⟩ := rfl
@[go_sem] theorem ti_21 : ti 21 = some ⟨(.int .i32), 1, 4, some [.int .i32 0], false⟩ := rfl
@[go_sem] theorem ti_22 : ti 22 = some ⟨(.slice 5), 1, 24, some [.nils], false⟩ := rfl
@[go_sem] theorem ti_24 : ti 24 = some ⟨(.slice 41), 1, 24, some [.nils], false⟩ := rfl
@[go_sem] theorem ti_28 : ti 28 = some ⟨(.struct [(0, 2), (1, 2)]), 2, 16, some [.int .i64 0, .int .i64 0], true⟩ := rfl
@[go_sem] theorem ti_30 : ti 30 = some ⟨(.slice 39), 1, 24, some [.nils], false⟩ := rfl
@[go_sem] theorem ti_31 : ti 31 = some ⟨(.slice 78), 1, 24, some [.nils], false⟩ := rfl
@[go_sem] theorem ti_33 : ti 33 = some ⟨(.struct [(0, 30), (1, 31)]), 2, 48, some [.nils, .nils], false⟩ := rfl
@[go_sem] theorem ti_35 : ti 35 = some ⟨(.struct [(0, 2), (1, 33)]), 3, 56, some [.int .i64 0, .nils, .nils], false⟩ := rfl
@[go_sem] theorem ti_37 : ti 37 = some ⟨(.slice 84), 1, 24, some [.nils], false⟩ := rfl
@[go_sem] theorem ti_39 : ti 39 = some ⟨(.struct [(0, 2), (1, 2), (2, 9), (3, 2), (4, 37)]), 5, 64, some [.int .i64 0, .int .i64 0, .str [], .int .i64 0, .nils], false⟩ := rfl
@[go_sem] theorem ti_41 : ti 41 = some ⟨(.struct [(0, 2), (1, 2), (2, 9), (3, 2), (4, 37), (5, 37)]), 6, 88, some [.int .i64 0, .int .i64 0, .str [], .int .i64 0, .nils, .nils], false⟩ := rfl
@[go_sem] theorem ti_42 : ti 42 = some ⟨(.pointer 56), 1, 8, some [.nilp], false⟩ := rfl
@[go_sem] theorem ti_54 : ti 54 = some ⟨(.pointer 33), 1, 8, some [.nilp], false⟩ := rfl
@[go_sem] theorem ti_56 : ti 56 = some ⟨(.struct [(0, 22), (1, 2)]), 2, 32, some [.nils, .int .i64 0], false⟩ := rfl
@[go_sem] theorem ti_59 : ti 59 = some ⟨(.slice 9), 1, 24, some [.nils], false⟩ := rfl
@[go_sem] theorem ti_60 : ti 60 = some ⟨(.slice 2), 1, 24, some [.nils], false⟩ := rfl
@[go_sem] theorem ti_61 : ti 61 = some ⟨(.pointer 63), 1, 8, some [.nilp], false⟩ := rfl
@[go_sem] theorem ti_63 : ti 63 = some ⟨(.struct [(0, 60), (1, 60)]), 2, 48, some [.nils, .nils], false⟩ := rfl
@[go_sem] theorem ti_69 : ti 69 = some ⟨(.pointer 71), 1, 8, some [.nilp], false⟩ := rfl
@[go_sem] theorem ti_71 : ti 71 = some ⟨(.struct [(0, 24), (1, 33)]), 3, 72, some [.nils, .nils, .nils], false⟩ := rfl
@[go_sem] theorem ti_78 : ti 78 = some ⟨(.struct [(0, 2), (1, 2), (2, 37)]), 3, 40, some [.int .i64 0, .int .i64 0, .nils], false⟩ := rfl
@[go_sem] theorem ti_84 : ti 84 = some ⟨(.struct [(0, 2), (1, 2), (2, 2), (3, 2)]), 4, 32, some [.int .i64 0, .int .i64 0, .int .i64 0, .int .i64 0], true⟩ := rfl
@[go_sem] theorem ti_108 : ti 108 = some ⟨(.pointer 41), 1, 8, some [.nilp], false⟩ := rfl
@[go_sem] theorem ti_115 : ti 115 = some ⟨(.int .u64), 1, 8, some [.int .u64 0], false⟩ := rfl
@[go_sem] theorem ti_117 : ti 117 = some ⟨(.pointer 84), 1, 8, some [.nilp], false⟩ := rfl
@[go_sem] theorem ti_128 : ti 128 = some ⟨(.int .u32), 1, 4, some [.int .u32 0], false⟩ := rfl
@[go_sem] theorem ti_132 : ti 132 = some ⟨(.pointer 5), 1, 8, some [.nilp], false⟩ := rfl
section
variable {st : St} {K : Exit → St → Prop} {id : Nat} {ops : Array Oper} {draw : Bool} {y : Code} {K' : Exit → St → Prop}
theorem rg (ks : List Nat) (h : ∀ k : St → Prop, (∀ s, AW Try.prog y s K → k s) → opsGo Try.prog ti (fun _ => []) ops 0 ops.toList st (fun es s => Chk draw ops es ∧ k (s.keep ks)) .mk) : AW Try.prog (.seq (.region id ops draw) y) st K := AW.reg tiOk _ ks h
theorem rgN (ks : List Nat) (hK : ∀ s, AW Try.prog y s K' → K .normal s) (h : ∀ k : St → Prop, (∀ s, AW Try.prog y s K' → k s) → opsGo Try.prog ti (fun _ => []) ops 0 ops.toList st (fun es s => Chk draw ops es ∧ k (s.keep ks)) .mk) : AW Try.prog (.region id ops draw) st K := AW.regN tiOk _ ks hK h
theorem rg0 (ks : List Nat) (h : ∀ k : St → Prop, (∀ s, AW Try.prog y s K → k s) → opsGo Try.prog ti (fun _ => []) ops 0 ops.toList st (fun es s => Chk draw ops es ∧ k (s.keep0 ks)) .mk) : AW Try.prog (.seq (.region id ops draw) y) st K := AW.reg0 tiOk _ ks h
theorem rgK (h : ∀ k : St → Prop, (∀ s, K .normal s → k s) → opsGo Try.prog ti (fun _ => []) ops 0 ops.toList st (fun es s => Chk draw ops es ∧ k s) .mk) : AW Try.prog (.region id ops draw) st K := AW.regK tiOk _ h
theorem rgA (ks : List Nat) {st' : St} (h : AW Try.prog y st' K) (h2 : ∀ k : St → Prop, k st' → opsGo Try.prog ti (fun _ => []) ops 0 ops.toList st (fun es s => Chk draw ops es ∧ k (s.keep ks)) .mk := by (intro k hk; simp -dsimp (maxSteps := 2000000) [go_sem, -decide_eq_true_eq, -decide_eq_false_iff_not]; repeat' first | apply And.intro | exact hk | intro hg | omega | exact True.intro)) : AW Try.prog (.seq (.region id ops draw) y) st K := AW.reg tiOk _ ks fun k hk => h2 k (hk _ h)
theorem rgNA (ks : List Nat) {st' : St} (hK : ∀ s, AW Try.prog y s K' → K .normal s) (h : AW Try.prog y st' K') (h2 : ∀ k : St → Prop, k st' → opsGo Try.prog ti (fun _ => []) ops 0 ops.toList st (fun es s => Chk draw ops es ∧ k (s.keep ks)) .mk := by (intro k hk; simp -dsimp (maxSteps := 2000000) [go_sem, -decide_eq_true_eq, -decide_eq_false_iff_not]; repeat' first | apply And.intro | exact hk | intro hg | omega | exact True.intro)) : AW Try.prog (.region id ops draw) st K := AW.regN tiOk _ ks hK fun k hk => h2 k (hk _ h)
theorem rgKA {st' : St} (h : K .normal st') (h2 : ∀ k : St → Prop, k st' → opsGo Try.prog ti (fun _ => []) ops 0 ops.toList st (fun es s => Chk draw ops es ∧ k s) .mk := by (intro k hk; simp -dsimp (maxSteps := 2000000) [go_sem, -decide_eq_true_eq, -decide_eq_false_iff_not]; repeat' first | apply And.intro | exact hk | intro hg | omega | exact True.intro)) : AW Try.prog (.region id ops draw) st K := AW.regK tiOk _ fun k hk => h2 k (hk _ h)
theorem rgE (ow : Nat → List Nat) (h : ∀ k : St → Prop, (∀ s, (∃ _ : True, K .normal s) → k s) → opsGo Try.prog ti ow ops 0 ops.toList st (fun es s => Chk draw ops es ∧ k s) .mk) : AW Try.prog (.region id ops draw) st K := AW.regK tiOk ow fun k hk => h k fun s hs => hs.elim fun _ h => hk s h
theorem rt {rs : List ResultVar} {ow : List Nat} {muts : List (Nat × AV)} {res : AV} (h : (muts.all fun q => match st.slot q.1 with | some x => !isFn x | none => true) = true ∧ finOk ti rs ow muts st res)
    (hk : (muts.all fun q => match st.slot q.1 with | some x => !isFn x | none => true) = true ∧ finOk ti rs ow muts st res → K .ret st := by exact fun h => And.intro (.inr rfl) h) : AW Try.prog .ret st K := AW.retF h hk
end
end Go.AM
namespace Go.AM
open Go.Proofs
open Go.ChangeShapes Go.WideShapes Go.RowKit
abbrev rd_5 := Rd.byte (t := 5) (cellsOf_of tiOk ti_5) Try.underlying5
abbrev rd_22 := Rd.slice (t := 22) rd_5 (by decide) (cellsOf_of tiOk ti_22) Try.underlying22
end Go.AM
namespace Go.AM
def inR (n lo hi : Int) : Bool := decide (lo ≤ n) && decide (n ≤ hi)
theorem inR_iff {n lo hi : Int} : inR n lo hi = true ↔ lo ≤ n ∧ n ≤ hi := by simp [inR]
theorem inR_not {n lo hi : Int} : inR n lo hi = false ↔ ¬ (lo ≤ n ∧ n ≤ hi) := by rw [← inR_iff]; simp
def isP (c : UInt8) : Bool := decide (32 ≤ (c.toNat : Int)) && decide ((c.toNat : Int) ≤ 126)
theorem all_take {α : Type} {s : List α} {p : α → Bool} {i : Nat} {x : α} (hx : s[i]? = some x) (h : (s.take i).all p = true) : (s.take (i + 1)).all p = p x := by
 rw [List.take_add_one, List.all_append, h, hx]; simp
theorem all_not {α : Type} {s : List α} {p : α → Bool} {i : Nat} {x : α} (hx : s[i]? = some x) (h : p x = false) : s.all p = false := by
 rw [List.all_eq_false]; exact ⟨x, List.mem_of_getElem? hx, by simp [h]⟩
theorem all_end {α : Type} {s : List α} {p : α → Bool} {i : Nat} (hi : s.length ≤ i) (h : (s.take i).all p = true) : s.all p = true := by rwa [List.take_of_length_le hi] at h
def firstC (l : List Int) : Int := (l.find? (fun n => decide (n ≠ 0))).getD 0
theorem firstC_step {l : List Int} {i : Nat} {x : Int} (h : l[i]? = some x) : firstC (l.drop i) = if x = 0 then firstC (l.drop (i + 1)) else x := by
 obtain ⟨hi, hx⟩ := List.getElem?_eq_some_iff.1 h
 rw [List.drop_eq_getElem_cons hi, hx]
 unfold firstC
 by_cases h0 : x = 0
 ·simp [h0]
 ·simp [h0]
theorem firstC_end {l : List Int} {i : Nat} (h : l.length ≤ i) : firstC (l.drop i) = 0 := by
 rw [List.drop_eq_nil_of_le h]; rfl
theorem firstC_nil : firstC [] = 0 := rfl
theorem firstC_cons (x : Int) (l : List Int) : firstC (x :: l) = if x = 0 then firstC l else x := by
 unfold firstC
 by_cases h0 : x = 0
 ·simp [h0]
 ·simp [h0]
def lineF (s : List UInt8) : Int := if s.length < 1 ∨ 40 < s.length then 2 else if s.all isP then 0 else 5
def idxF {α : Type} (p : α → Bool) : List α → Nat → Int
 | [], _ => -1
 | x :: r, i => if p x then i else idxF p r (i + 1)
theorem idxF_step {α : Type} {p : α → Bool} {l : List α} {i : Nat} {x : α} (h : l[i]? = some x) : idxF p (l.drop i) i = if p x then (i : Int) else idxF p (l.drop (i + 1)) (i + 1) := by
 obtain ⟨hi, hx⟩ := List.getElem?_eq_some_iff.1 h
 rw [List.drop_eq_getElem_cons hi, hx]; rfl
theorem idxF_end {α : Type} {p : α → Bool} {l : List α} {i : Nat} (h : l.length ≤ i) : idxF p (l.drop i) i = -1 := by rw [List.drop_eq_nil_of_le h]; rfl
def small (n : Int) : Bool := inR n (-1000000) 1000000
end Go.AM
namespace Go.AM
@[go_sem ↓ high] theorem encB_B1 (s : List UInt8) : encB s = s.map B1 := rfl
theorem byteOfCell_B1 (b : UInt8) : byteOfCell [.int .u8 b.toNat] = some b := by
 have := b.toNat_lt
 simp [byteOfCell]; omega
theorem decB_B1 (s : List UInt8) : decB (s.map B1) = some s := decB_encB s
attribute [go_sem ↓ high] decB_B1 byteOfCell_B1
def b8 (n : Int) : UInt8 := UInt8.ofNat (n % 256).toNat
@[go_sem] theorem wrap_u8 (n : Int) : IntKind.wrap .u8 n = ((b8 n).toNat : Int) := by
 have h : (UInt8.ofNat (n % 256).toNat).toNat = (n % 256).toNat := by rw [UInt8.toNat_ofNat']; omega
 simp only [b8, h, IntKind.wrap, IntKind.bits, IntKind.signed]
 simp
 omega
def mkL {α : Type} (f : Int → α) (n : Nat) (k : Int) : List α := (List.range n).map fun (j : Nat) => f (k + j)
theorem mkL_len {α : Type} {f : Int → α} {n : Nat} {k : Int} : (mkL f n k).length = n := by simp [mkL]
end Go.AM
namespace Go.AM
attribute [go_sem] renS AV.ren renL
@[go_sem ↓ high] theorem tree_app (a b : List (List AV)) : (∀ c ∈ a ++ b, ∀ x ∈ c, AV.tree x = true) ↔ (∀ c ∈ a, ∀ x ∈ c, AV.tree x = true) ∧ (∀ c ∈ b, ∀ x ∈ c, AV.tree x = true) := List.forall_mem_append
attribute [go_sem ↓ high] I1_treeL B1_treeL S1_treeL
theorem tree_sub {α : Type} {f : α → List AV} {l : List α} (h : (∀ c ∈ l.map f, ∀ x ∈ c, AV.tree x = true) ↔ True) {m : List (List AV)} (hm : ∀ c ∈ m, c ∈ l.map f) : (∀ c ∈ m, ∀ x ∈ c, AV.tree x = true) ↔ True :=
 ⟨fun _ => trivial, fun _ c hc => h.2 trivial c (hm c hc)⟩
@[go_sem ↓ high] theorem B1_treeT (l : List UInt8) (n : Nat) : (∀ c ∈ List.take n (l.map B1), ∀ x ∈ c, AV.tree x = true) ↔ True := tree_sub (B1_treeL l) fun _ => List.mem_of_mem_take
@[go_sem ↓ high] theorem I1_treeT (l : List Int) (n : Nat) : (∀ c ∈ List.take n (l.map I1), ∀ x ∈ c, AV.tree x = true) ↔ True := tree_sub (I1_treeL l) fun _ => List.mem_of_mem_take
@[go_sem ↓ high] theorem S1_treeT (l : List (List UInt8)) (n : Nat) : (∀ c ∈ List.take n (l.map S1), ∀ x ∈ c, AV.tree x = true) ↔ True := tree_sub (S1_treeL l) fun _ => List.mem_of_mem_take
@[go_sem high] theorem B1_comp : (fun x => List.map unown x) ∘ B1 = B1 := rfl
@[go_sem high] theorem I1_comp : (fun x => List.map unown x) ∘ I1 = I1 := rfl
@[go_sem high] theorem S1_comp : (fun x => List.map unown x) ∘ S1 = S1 := rfl
attribute [go_sem] mkL_len
@[go_sem] theorem take_dropl {α β : Type} (f : α → β) (l : List α) (k : Nat) : List.take (l.length - k) (List.drop k (l.map f)) = List.drop k (l.map f) := List.take_of_length_le (by simp)
@[go_sem] theorem take_mkL {α : Type} (g : α → List AV) (f : Int → α) (n : Nat) (k : Int) : List.take n ((mkL f n k).map g) = (mkL f n k).map g := List.take_of_length_le (by simp [mkL])
@[go_sem ↓ high] theorem decB_td (s : List UInt8) (a b : Nat) : decB (List.take a (List.drop b (s.map B1))) = some (List.take a (List.drop b s)) := by rw [← List.map_drop, ← List.map_take]; exact decB_B1 _
@[go_sem ↓ high] theorem decB_dt (s : List UInt8) (a b : Nat) : decB (List.drop a (List.take b (s.map B1))) = some (List.drop a (List.take b s)) := by rw [← List.map_take, ← List.map_drop]; exact decB_B1 _
@[go_sem ↓ high] theorem decB_t (s : List UInt8) (a : Nat) : decB (List.take a (s.map B1)) = some (List.take a s) := by rw [← List.map_take]; exact decB_B1 _
@[go_sem ↓ high] theorem decB_d (s : List UInt8) (a : Nat) : decB (List.drop a (s.map B1)) = some (List.drop a s) := by rw [← List.map_drop]; exact decB_B1 _
@[go_sem] theorem wrap_i64_byte (b : UInt8) : IntKind.wrap .i64 (b.toNat : Int) = (b.toNat : Int) := by have := b.toNat_lt; exact wrap64 (by omega) (by omega)
def sumB (l : List UInt8) (s : Int) : Int := l.foldl (fun s b => (s * 251 + b.toNat) % 65521) s
def pkH (s : List UInt8) : List UInt8 := b8 s.length :: s
def pk (s : List UInt8) : List UInt8 := pkH s ++ [b8 (sumB (pkH s) 1 / 256), b8 (sumB (pkH s) 1)]
def n0 (d : List UInt8) : Nat := (d.headD 0).toNat
def lnT (d : List UInt8) : List UInt8 := (d.take (n0 d + 1)).drop 1
def isL (d : List UInt8) : Bool := decide (n0 d + 3 ≤ d.length) && decide (lineF (lnT d) = 0) && decide (d.take (n0 d + 3) = pk (lnT d))
def rdL : Nat → List UInt8 → List (List UInt8) × Nat
 | 0, _ => ([], 0)
 | f + 1, d => if isL d = true then (lnT d :: (rdL f (d.drop (n0 d + 3))).1, n0 d + 3 + (rdL f (d.drop (n0 d + 3))).2) else ([], 0)
def rd (d : List UInt8) : List (List UInt8) × Nat := rdL d.length d
def whole (d : List UInt8) : Bool := decide ((rd d).2 = d.length)
def jouF (j : TJournal) : Int := if 2400 < j.sure.length + j.loose.length then 2 else if whole j.sure && whole j.loose then 0 else 5
@[go_sem] theorem mapM_B1 (s : List UInt8) : List.mapM byteOfCell (s.map B1) = some s := decB_B1 s
@[go_sem] theorem mapM_B1_t (s : List UInt8) (a : Nat) : List.mapM byteOfCell (List.take a (s.map B1)) = some (List.take a s) := decB_t s a
@[go_sem] theorem mapM_B1_d (s : List UInt8) (a : Nat) : List.mapM byteOfCell (List.drop a (s.map B1)) = some (List.drop a s) := decB_d s a
@[go_sem high] theorem mapM_comp (s : List UInt8) : List.mapM (byteOfCell ∘ B1) s = some s := by rw [← List.mapM_map]; exact decB_B1 s
def brk (e : List UInt8) (i : Nat) : Bool := (List.range i).any fun k => decide (1 ≤ k) && isL (e.drop k)
end Go.AM
namespace Go.AM
end Go.AM
namespace Go.AM
def LB (x : List UInt8) : List AV := [.isl 1 (x.map B1)]
@[go_sem] theorem LB_eq (x : List UInt8) : LB x = [.isl 1 (x.map B1)] := rfl
theorem LB_tree (a) : ∀ x ∈ LB a, x.tree = true := by simp [LB, go_sem]
@[go_sem ↓ high] theorem LB_treeL (l : List (List UInt8)) : (∀ c ∈ l.map LB, ∀ x ∈ c, AV.tree x = true) ↔ True := maptree LB_tree l
@[go_sem] theorem len_replicate {α : Type} (n : Nat) (x : α) : (List.replicate n x).length = n := List.length_replicate
def cat (l : List (List UInt8)) : List UInt8 := l.flatten
@[go_sem] theorem cat_nil : cat [] = [] := rfl
@[go_sem] theorem cat_r (a : List UInt8) : cat [a, []] = a := by simp [cat]
@[go_sem] theorem cat_l (a : List UInt8) : cat [[], a] = a := by simp [cat]
end Go.AM
namespace Go.AM
section
variable {P : Program} {st : St} {K : Exit → St → Prop}
theorem RepL.shrink {w0 : World} {lab0 : Labs} {a : Act} {w : World} {lab : Labs} {loc : Locs} {id : Nat} {nd : Node} (m : Nat) (hR : RepL w0 lab0 st a w lab loc) (h1 : st.obj id = some nd) :
  RepL w0 lab0 ⟨st.n, st.slots, (id, some ⟨nd.es, nd.l.take m⟩) :: st.objs⟩ a w lab loc := by
 refine ⟨hR.size, hR.defers, hR.slots, ?_, ?_, hR.fresh, hR.ext⟩
 ·intro k nk hk
  simp only [St.obj, look] at hk
  split at hk
  ·rename_i e; subst e
   simp at hk; subst hk
   obtain ⟨b, base, hl, ho⟩ := hR.objs k nd h1
   refine ⟨b, base, hl, ho.hlab, ho.blk.le ?_, ?_, ?_⟩
   ·have : (nd.l.take m).length ≤ nd.l.length := by rw [List.length_take]; omega
    have := Nat.mul_le_mul_right nd.es this
    simp only; omega
   ·intro z hz
    exact ho.es z (List.mem_of_mem_take hz)
   ·intro i2 c2 j2 z hi hj
    have hi' : nd.l[i2]? = some c2 := by
     simp only [List.getElem?_take] at hi
     split at hi
     ·exact hi
     ·cases hi
    exact ho.cells i2 c2 j2 z hi' hj
  ·exact hR.objs k nk hk
 ·intro k hk
  simp only [St.obj, look] at hk
  split at hk
  ·simp at hk
  ·exact hR.dead k hk
theorem AW.shrink {code : Code} (id m : Nat) {nd : Node} (h1 : st.obj id = some nd)
  (h : AW P code ⟨st.n, st.slots, (id, some ⟨nd.es, nd.l.take m⟩) :: st.objs⟩ K) : AW P code st K :=
 AW.ghost (fun _ _ _ _ ⟨lab, loc, hR⟩ => ⟨lab, loc, hR.shrink m h1⟩) h
end
end Go.AM
namespace Go.AM
def labRes (lab : Labs) : Labs := fun b => match lab b with
 | some (.res, _) => none
 | l => l
theorem labRes_res {lab : Labs} {b : Nat} {q : List (Nat × Nat)} (h : lab b = some (.res, q)) : labRes lab b = none := by simp [labRes, h]
theorem labRes_none {lab : Labs} {b : Nat} (h : lab b = none) : labRes lab b = none := by simp [labRes, h]
theorem labRes_still {lab : Labs} {b : Nat} (h : still (lab b)) : labRes lab b = lab b := by
 unfold labRes
 split
 ·rename_i h2; rw [h2] at h; exact h.elim
 ·rfl
theorem DC.frz {P : Program} {f : FuncId} {args : List AV} {res : AV} (h : DC P f args res []) : DC P f args (unown res) [] := by
 refine ⟨h.body, ?_⟩
 intro w lab vals hl hv hf
 refine (h.calls w lab vals hl hv hf).mono fun e w' he => ?_
 obtain ⟨v, lab', rfl, hT, _, hE, hfr⟩ := he
 refine ⟨v, labRes lab', rfl, .imm _ _ _ (hT.unown (fun b hb => labRes_none hb) (fun b q hb => labRes_res hb)), by simp, ?_, ?_⟩
 ·refine ⟨hE.size, hE.os, hE.out, ?_, hE.blk⟩
  intro b hb hs
  obtain ⟨h1, h2⟩ := hE.kept b hb hs
  refine ⟨?_, h2⟩
  have : labRes lab' b = lab' b := labRes_still (by rw [h1]; exact hs)
  rw [this, h1]
 ·intro b hb
  apply hfr
  intro hn
  exact hb (labRes_none hn)
end Go.AM
namespace Go.AM
end Go.AM
namespace Go.AM
theorem DC.eqR {P : Program} {f : FuncId} {args : List AV} {res res' : AV} {muts : List (Nat × AV)} (h : DC P f args res muts) (e : res = res') : DC P f args res' muts := e ▸ h
theorem DC.lns {P : Program} {f : FuncId} {args : List AV} {es : Nat} {l : List (List AV)} {muts : List (Nat × AV)} (h : DC P f args (.isl es l) muts) : DC P f args (.lns l.length) muts := by
 refine ⟨h.body, ?_⟩
 intro w lab vals hlen hv hf
 refine (h.calls w lab vals hlen hv hf).mono fun e w' he => ?_
 obtain ⟨v, lab', rfl, hT, hM, hE, hfr⟩ := he
 refine ⟨v, lab', rfl, ?_, hM, hE, hfr⟩
 cases hT with
 | imm _ _ _ hI =>
  cases hI with
  | nsl => exact .imm _ _ _ (.lns _ _ _)
  | esl => exact .imm _ _ _ (.lns _ _ _)
  | isl => exact .imm _ _ _ (.lns _ _ _)
end Go.AM
namespace Go.AM
def appC (j : TJournal) (s : List UInt8) : Int := if jouF j ≠ 0 then jouF j else if lineF s ≠ 0 then lineF s else if 2400 < j.sure.length + (cat [j.loose, pk s]).length then 2 else 0
def appJ (j : TJournal) (s : List UInt8) : TJournal := if appC j s = 0 then ⟨j.sure, cat [j.loose, pk s]⟩ else ⟨[], []⟩
def appN (j : TJournal) (s : List UInt8) : Int := if appC j s = 0 then ((rd (cat [j.sure, cat [j.loose, pk s]])).1.length : Int) else 0
def synJ (j : TJournal) : TJournal := if jouF j = 0 then ⟨cat [j.sure, j.loose], []⟩ else ⟨[], []⟩
def synN (j : TJournal) : Int := if jouF j = 0 then ((rd (cat [j.sure, j.loose])).1.length : Int) else 0
def crD (j : TJournal) (n : Int) : List UInt8 := cat [j.sure, j.loose.take n.toNat]
def crC (j : TJournal) (n : Int) : Int := if jouF j ≠ 0 then jouF j else if inR n 0 (j.loose.length : Int) = false then 3 else 0
def crS (j : TJournal) (n : Int) : List UInt8 := if crC j n = 0 then (crD j n).take (rd (crD j n)).2 else []
def crN (j : TJournal) (n : Int) : Int := if crC j n = 0 then ((rd (crS j n)).1.length : Int) else 0
def nx (c : List UInt8) (a n : Int) : Int :=
 if n < 1 then 0
 else if (c.length : Int) = 0 then (a * 7).tmod n
 else if 200 < n then ((((c.getD (a.tmod c.length).toNat 0).toNat : Int) + a.tdiv c.length * 37) * 251 + ((c.getD ((a + 1).tmod c.length).toNat 0).toNat : Int) * 13 + a).tmod n
 else (((c.getD (a.tmod c.length).toNat 0).toNat : Int) + a.tdiv c.length * 37).tmod n
theorem nx_bd (c : List UInt8) {a n : Int} (ha : 0 ≤ a) : 0 ≤ nx c a n ∧ (1 ≤ n → nx c a n < n) := by
 have hd := Int.tdiv_nonneg ha (show (0 : Int) ≤ (c.length : Int) by omega)
 have key : ∀ v : Int, 0 ≤ v → 1 ≤ n → 0 ≤ v.tmod n ∧ v.tmod n < n := fun v hv hn => ⟨Int.tmod_nonneg _ hv, Int.tmod_lt_of_pos _ (by omega)⟩
 unfold nx
 split
 ·exact ⟨by omega, by omega⟩
 ·rename_i hn
  split
  ·have := key (a * 7) (by omega) (by omega); exact ⟨this.1, fun _ => this.2⟩
  ·split
   ·have := key ((((c.getD (a.tmod c.length).toNat 0).toNat : Int) + a.tdiv c.length * 37) * 251 + ((c.getD ((a + 1).tmod c.length).toNat 0).toNat : Int) * 13 + a) (by omega) (by omega)
    exact ⟨this.1, fun _ => this.2⟩
   ·have := key (((c.getD (a.tmod c.length).toNat 0).toNat : Int) + a.tdiv c.length * 37) (by omega) (by omega)
    exact ⟨this.1, fun _ => this.2⟩
def AR (j : TJournal) (s : List UInt8) : AV := .agg [.int .i64 (appC j s), .int .i64 (appN j s), .isl 1 ((appJ j s).sure.map B1), .isl 1 ((appJ j s).loose.map B1)]
def SR (j : TJournal) : AV := .agg [.int .i64 (jouF j), .int .i64 (synN j), .isl 1 ((synJ j).sure.map B1), .isl 1 []]
def CR (j : TJournal) (n : Int) : AV := .agg [.int .i64 (crC j n), .int .i64 (crN j n), .isl 1 ((crS j n).map B1), .isl 1 []]
def JR (j : TJournal) : AV := .agg [.isl 1 (j.sure.map B1), .isl 1 (j.loose.map B1)]
@[go_sem] theorem AR_eq (j : TJournal) (s : List UInt8) : AR j s = .agg [.int .i64 (appC j s), .int .i64 (appN j s), .isl 1 ((appJ j s).sure.map B1), .isl 1 ((appJ j s).loose.map B1)] := rfl
@[go_sem] theorem SR_eq (j : TJournal) : SR j = .agg [.int .i64 (jouF j), .int .i64 (synN j), .isl 1 ((synJ j).sure.map B1), .isl 1 []] := rfl
@[go_sem] theorem CR_eq (j : TJournal) (n : Int) : CR j n = .agg [.int .i64 (crC j n), .int .i64 (crN j n), .isl 1 ((crS j n).map B1), .isl 1 []] := rfl
@[go_sem] theorem JR_eq (j : TJournal) : JR j = .agg [.isl 1 (j.sure.map B1), .isl 1 (j.loose.map B1)] := rfl
end Go.AM
namespace Go.AM
def scN (f : Nat → Int) : Nat → Nat → Int
 | 0, _ => 0
 | m + 1, i => if f i = 0 then scN f m (i + 1) else f i
def sc (f : Nat → Int) (n i : Nat) : Int := scN f (n - i) i
theorem sc_step {f : Nat → Int} {n i : Nat} (h : i < n) : sc f n i = if f i = 0 then sc f n (i + 1) else f i := by
 unfold sc
 rw [show n - i = (n - (i + 1)) + 1 by omega]; rfl
theorem sc_end {f : Nat → Int} {n i : Nat} (h : n ≤ i) : sc f n i = 0 := by
 unfold sc; rw [show n - i = 0 by omega]; rfl
theorem sc_go {f : Nat → Int} {n i : Nat} (h : i < n) (h0 : f i = 0) : sc f n i = sc f n (i + 1) := by rw [sc_step h, if_pos h0]
theorem sc_hit {f : Nat → Int} {n i : Nat} (h : i < n) (h0 : f i ≠ 0) : sc f n i = f i := by rw [sc_step h, if_neg h0]
theorem sc_zero {f : Nat → Int} {n : Nat} : ∀ {m i : Nat}, n - i = m → sc f n i = 0 → ∀ k, i ≤ k → k < n → f k = 0 := by
 intro m
 induction m with
 | zero => intro i hm _ k h1 h2; omega
 | succ m ih =>
  intro i hm h k h1 h2
  have hi : i < n := by omega
  rw [sc_step hi] at h
  split at h
  ·rename_i h0
   rcases Nat.eq_or_lt_of_le h1 with rfl | h1
   ·exact h0
   ·exact ih (by omega) h k h1 h2
  ·exact absurd h (by assumption)
theorem sc_all {f : Nat → Int} {n : Nat} (h : sc f n 0 = 0) : ∀ k, k < n → f k = 0 := fun k hk => sc_zero rfl h k (Nat.zero_le _) hk
instance : Inhabited TNode := ⟨⟨0, 0, 0, 0⟩⟩
def nA (e : List TNode) (i : Nat) : TNode := e.getD i default
def isTwoB (k : Int) : Bool := inR k 3 9
def nodeF (n : TNode) (at_ : Int) : Int :=
 if n.kind < 1 ∨ 10 < n.kind then 1
 else if n.kind ≤ 2 then
  if n.left ≠ 0 ∨ n.right ≠ 0 then 1 else if n.val < 0 ∨ (if n.kind = 2 then 3 else 9999) < n.val then 3 else 0
 else if n.kind = 10 then
  if n.val ≠ 0 ∨ n.right ≠ 0 then 1 else if n.left < 0 ∨ at_ ≤ n.left then 3 else 0
 else if n.val ≠ 0 then 1 else if n.left < 0 ∨ at_ ≤ n.left ∨ n.right < 0 ∨ at_ ≤ n.right then 3 else 0
def nodeAt (e : List TNode) (i : Nat) : Int := nodeF (nA e i) i
def PartsOk (e : List TNode) (n : Nat) : Prop := ∀ i, i < n → nodeAt e i = 0
theorem nodeF_parts {n : TNode} {i : Nat} (h : nodeF n i = 0) : (n.kind = 10 → 0 ≤ n.left ∧ n.left.toNat < i) ∧ (isTwoB n.kind = true → 0 ≤ n.left ∧ n.left.toNat < i ∧ 0 ≤ n.right ∧ n.right.toNat < i) ∧ 1 ≤ n.kind ∧ n.kind ≤ 10 ∧ (n.kind ≤ 2 ↔ (n.kind ≠ 10 ∧ isTwoB n.kind = false)) := by
 unfold nodeF at h
 split at h
 ·cases h
 split at h
 ·refine ⟨fun _ => by omega, fun h2 => ?_, by omega, by omega, ?_⟩
  ·have := inR_iff.1 h2; omega
  ·rw [isTwoB, inR_not]; omega
 split at h
 ·split at h
  ·cases h
  split at h
  ·cases h
  ·refine ⟨fun _ => by omega, fun h2 => ?_, by omega, by omega, ?_⟩
   ·have := inR_iff.1 h2; omega
   ·omega
 ·split at h
  ·cases h
  split at h
  ·cases h
  ·refine ⟨fun _ => by omega, fun _ => by omega, by omega, by omega, ?_⟩
   rw [isTwoB, inR_not]; omega
def sizeOf1 (e : List TNode) (s : List Int) (i : Nat) : Int :=
 let n := nA e i
 if n.kind = 10 then 1 + s.getD n.left.toNat 0 else if isTwoB n.kind then 1 + s.getD n.left.toNat 0 + s.getD n.right.toNat 0 else 1
def sizesL (e : List TNode) : Nat → List Int
 | 0 => []
 | i + 1 => sizesL e i ++ [sizeOf1 e (sizesL e i) i]
theorem sizesL_len (e : List TNode) (n : Nat) : (sizesL e n).length = n := by
 induction n with
 | zero => rfl
 | succ n ih => simp [sizesL, ih]
def szA (e : List TNode) (i : Nat) : Int := (sizesL e (i + 1)).getD i 0
theorem sizesL_get (e : List TNode) (i : Nat) : ∀ n, i < n → (sizesL e n).getD i 0 = szA e i := by
 intro n
 induction n with
 | zero => intro h; omega
 | succ n ih =>
  intro h
  rcases Nat.eq_or_lt_of_le (Nat.le_of_lt_succ h) with rfl | h'
  ·rfl
  ·have := ih h'
   rw [← this]
   simp [sizesL, List.getD, List.getElem?_append_left (show i < (sizesL e n).length by rw [sizesL_len]; exact h')]
theorem szA_eq (e : List TNode) (i : Nat) : szA e i = sizeOf1 e (sizesL e i) i := by
 unfold szA
 simp [sizesL, List.getD, sizesL_len]
def wrong1 (e : List TNode) (i : Nat) : Bool :=
 let n := nA e i
 if n.kind = 10 then decide (n.left ≠ (i : Int) - 1)
 else if isTwoB n.kind then decide (n.right ≠ (i : Int) - 1) || decide (n.left ≠ (i : Int) - 1 - szA e n.right.toNat)
 else false
def wrongU (e : List TNode) (i : Nat) : Bool := (List.range i).any (wrong1 e)
theorem wrongU_step (e : List TNode) (i : Nat) : wrongU e (i + 1) = (wrongU e i || wrong1 e i) := by
 unfold wrongU; rw [List.range_succ, List.any_append]; simp
def post (e : List TNode) : Nat → Nat → List Nat
 | 0, _ => []
 | f + 1, i =>
  let n := nA e i
  if n.kind = 10 then post e f n.left.toNat ++ [i]
  else if isTwoB n.kind then post e f n.left.toNat ++ post e f n.right.toNat ++ [i]
  else [i]
def po (e : List TNode) (i : Nat) : List Nat := post e (i + 1) i
theorem post_more {e : List TNode} {n : Nat} (hp : PartsOk e n) : ∀ (f g i : Nat), i < n → i < f → i < g → post e f i = post e g i := by
 intro f
 induction f with
 | zero => intro g i _ h _; omega
 | succ f ih =>
  intro g i hn hf hg
  cases g with
  | zero => omega
  | succ g =>
   have hq := nodeF_parts (hp i hn)
   simp only [post]
   split
   ·rename_i h10
    have := hq.1 h10
    rw [ih g _ (by omega) (by omega) (by omega)]
   ·split
    ·rename_i h2
     have := hq.2.1 h2
     rw [ih g _ (by omega) (by omega) (by omega), ih g _ (by omega) (by omega) (by omega)]
    ·rfl
theorem po_eq {e : List TNode} {n i : Nat} (hp : PartsOk e n) (hi : i < n) : po e i = if (nA e i).kind = 10 then po e (nA e i).left.toNat ++ [i] else if isTwoB (nA e i).kind then po e (nA e i).left.toNat ++ po e (nA e i).right.toNat ++ [i] else [i] := by
 have hq := nodeF_parts (hp i hi)
 show post e (i + 1) i = _
 simp only [post]
 split
 ·rename_i h10
  have := hq.1 h10
  rw [post_more hp i _ _ (by omega) (by omega) (Nat.lt_succ_self _)]; rfl
 ·split
  ·rename_i h2
   have := hq.2.1 h2
   rw [post_more hp i _ (nA e i).left.toNat (by omega) (by omega) (Nat.lt_succ_self _), post_more hp i _ (nA e i).right.toNat (by omega) (by omega) (Nat.lt_succ_self _)]; rfl
  ·rfl
theorem po_len {e : List TNode} {n : Nat} (hp : PartsOk e n) : ∀ (k i : Nat), i ≤ k → i < n → ((po e i).length : Int) = szA e i ∧ 1 ≤ szA e i ∧ szA e i ≤ 2 ^ (i + 1) - 1 := by
 intro k
 induction k with
 | zero =>
  intro i hk hi
  have hq := nodeF_parts (hp i hi)
  obtain rfl : i = 0 := by omega
  rw [po_eq hp hi, szA_eq]
  unfold sizeOf1
  split
  ·rename_i h10
   have := hq.1 h10; omega
  ·split
   ·rename_i h2
    have := hq.2.1 h2; omega
   ·rename_i h1 h2; simp only [h1, h2, if_false, Bool.false_eq_true]; simp
 | succ k ih =>
  intro i hk hi
  have hq := nodeF_parts (hp i hi)
  rw [po_eq hp hi, szA_eq]
  unfold sizeOf1
  have pw : (2 : Int) ^ (i + 1) = 2 * 2 ^ i := by rw [Int.pow_succ]; omega
  have mono : ∀ j, j < i → (2 : Int) ^ (j + 1) ≤ 2 ^ i := fun j hj => by
   have := Nat.pow_le_pow_right (n := 2) (by decide) (show j + 1 ≤ i by omega)
   exact_mod_cast this
  have p1 : (1 : Int) ≤ 2 ^ i := by
   have := Nat.pow_le_pow_right (n := 2) (by decide) (Nat.zero_le i)
   exact_mod_cast this
  split
  ·rename_i h10
   have hl := hq.1 h10
   have h1 := ih _ (show (nA e i).left.toNat ≤ k by omega) (by omega)
   have hm := mono _ hl.2
   simp only [h10, if_true]
   rw [sizesL_get e _ i hl.2]
   simp only [List.length_append, List.length_cons, List.length_nil]
   omega
  ·split
   ·rename_i h10 h2
    have hl := hq.2.1 h2
    have h1 := ih _ (show (nA e i).left.toNat ≤ k by omega) (by omega)
    have h3 := ih _ (show (nA e i).right.toNat ≤ k by omega) (by omega)
    have hm := mono _ hl.2.1
    have hm2 := mono _ hl.2.2.2
    simp only [h10, h2, if_true, if_false]
    rw [sizesL_get e _ i hl.2.1, sizesL_get e _ i hl.2.2.2]
    simp only [List.length_append, List.length_cons, List.length_nil]
    omega
   ·rename_i h10 h2
    simp only [h10, h2, if_false, Bool.false_eq_true]
    simp; omega
theorem sz_bd {e : List TNode} {n i : Nat} (hp : PartsOk e n) (hi : i < n) (h16 : i ≤ 16) : 1 ≤ szA e i ∧ szA e i ≤ 131071 := by
 have h := (po_len hp i i (Nat.le_refl _) hi).2
 have : (2 : Int) ^ (i + 1) ≤ 2 ^ 17 := by
  have := Nat.pow_le_pow_right (n := 2) (by decide) (show i + 1 ≤ 17 by omega)
  exact_mod_cast this
 have e : (2 : Int) ^ 17 = 131072 := by decide
 omega
def stretch (a m : Nat) : List Nat := List.range' a m
theorem po_good {e : List TNode} {n : Nat} (hp : PartsOk e n) : ∀ (k i : Nat), i ≤ k → i < n → wrongU e (i + 1) = false → szA e i ≤ i + 1 ∧ po e i = stretch (i + 1 - (szA e i).toNat) (szA e i).toNat := by
 intro k
 induction k with
 | zero =>
  intro i hk hi hw
  have hq := nodeF_parts (hp i hi)
  obtain rfl : i = 0 := by omega
  have hs := po_len hp 0 0 (Nat.le_refl _) hi
  have hs1 : szA e 0 = 1 := by omega
  rw [hs1]
  refine ⟨by omega, ?_⟩
  rw [po_eq hp hi]
  split
  ·rename_i h10
   have := hq.1 h10; omega
  ·split
   ·rename_i h2
    have := hq.2.1 h2; omega
   ·rfl
 | succ k ih =>
  intro i hk hi hw
  have hq := nodeF_parts (hp i hi)
  rw [wrongU_step] at hw
  have hw1 : wrongU e i = false := by revert hw; cases wrongU e i <;> simp
  have hw2 : wrong1 e i = false := by revert hw; cases wrong1 e i <;> simp
  have sub : ∀ j, j < i → wrongU e (j + 1) = false := by
   intro j hj
   rw [Bool.eq_false_iff] at hw1 ⊢
   intro h; apply hw1
   unfold wrongU at h ⊢
   simp only [List.any_eq_true, List.mem_range] at h ⊢
   obtain ⟨x, h1, h2⟩ := h
   exact ⟨x, by omega, h2⟩
  have hl0 := po_len hp i i (Nat.le_refl _) hi
  have hszl : (po e i).length = (szA e i).toNat := by omega
  have he := szA_eq e i
  unfold sizeOf1 at he
  unfold wrong1 at hw2
  rw [po_eq hp hi]
  by_cases h10 : (nA e i).kind = 10
  ·simp only [h10, if_true] at he hw2 ⊢
   have hl := hq.1 h10
   rw [sizesL_get e _ i hl.2] at he
   simp only [ne_eq, decide_not, Bool.not_eq_false', decide_eq_true_eq] at hw2
   have h1 := ih _ (show (nA e i).left.toNat ≤ k by omega) (by omega) (sub _ hl.2)
   have hb := (po_len hp _ _ (Nat.le_refl _) (show (nA e i).left.toNat < n by omega)).2.1
   refine ⟨by omega, ?_⟩
   rw [h1.2]
   unfold stretch
   have : (szA e i).toNat = (szA e (nA e i).left.toNat).toNat + 1 := by omega
   rw [this, List.range'_concat]
   rw [show i + 1 - ((szA e (nA e i).left.toNat).toNat + 1) = (nA e i).left.toNat + 1 - (szA e (nA e i).left.toNat).toNat by omega]
   congr 2; omega
  ·by_cases h2 : isTwoB (nA e i).kind = true
   ·simp only [h10, h2, if_true, if_false] at he hw2 ⊢
    have hl := hq.2.1 h2
    rw [sizesL_get e _ i hl.2.1, sizesL_get e _ i hl.2.2.2] at he
    simp only [Bool.or_eq_false_iff, ne_eq, decide_not, Bool.not_eq_false', decide_eq_true_eq] at hw2
    have h1 := ih _ (show (nA e i).left.toNat ≤ k by omega) (by omega) (sub _ hl.2.1)
    have h3 := ih _ (show (nA e i).right.toNat ≤ k by omega) (by omega) (sub _ hl.2.2.2)
    have hb := (po_len hp _ _ (Nat.le_refl _) (show (nA e i).left.toNat < n by omega)).2.1
    have hb2 := (po_len hp _ _ (Nat.le_refl _) (show (nA e i).right.toNat < n by omega)).2.1
    refine ⟨by omega, ?_⟩
    rw [h1.2, h3.2]
    unfold stretch
    generalize hA : (szA e (nA e i).left.toNat).toNat = A at *
    generalize hB : (szA e (nA e i).right.toNat).toNat = B at *
    have hC : (szA e i).toNat = A + B + 1 := by omega
    rw [hC, List.range'_concat, show A + B = B + A by omega]
    rw [show i + 1 - (B + A + 1) = (nA e i).left.toNat + 1 - A by omega]
    rw [show B + A = A + B by omega, ← List.range'_append_1]
    rw [show (nA e i).left.toNat + 1 - A + A = (nA e i).right.toNat + 1 - B by omega]
    congr 2; omega
   ·simp only [h10, h2, if_false, Bool.false_eq_true] at he ⊢
    refine ⟨by omega, ?_⟩
    rw [he]
    simp [stretch]
theorem po_infix {e : List TNode} {n : Nat} (hp : PartsOk e n) : ∀ (k r i : Nat), r ≤ k → r < n → i ∈ po e r → ∃ a b, po e r = a ++ po e i ++ b ∧ i ≤ r := by
 intro k
 induction k with
 | zero =>
  intro r i hk hr hi
  obtain rfl : r = 0 := by omega
  have hq := nodeF_parts (hp 0 hr)
  rw [po_eq hp hr] at hi
  split at hi
  ·rename_i h10
   have := hq.1 h10; omega
  ·split at hi
   ·rename_i h2
    have := hq.2.1 h2; omega
   ·simp at hi; subst hi; exact ⟨[], [], by simp, Nat.le_refl _⟩
 | succ k ih =>
  intro r i hk hr hi
  have hq := nodeF_parts (hp r hr)
  by_cases hir : i = r
  ·subst hir; exact ⟨[], [], by simp, Nat.le_refl _⟩
  have e0 := po_eq hp hr
  rw [e0] at hi ⊢
  split at hi
  ·rename_i h10
   have hl := hq.1 h10
   simp only [h10, if_true]
   simp only [List.mem_append, List.mem_singleton, hir, or_false] at hi
   obtain ⟨a, b, h1, h2⟩ := ih _ i (by omega) (by omega) hi
   exact ⟨a, b ++ [r], by rw [h1]; simp, by omega⟩
  ·split at hi
   ·rename_i h10 h2
    have hl := hq.2.1 h2
    simp only [h10, h2, if_true, if_false]
    simp only [List.mem_append, List.mem_singleton, hir, or_false] at hi
    rcases hi with hi | hi
    ·obtain ⟨a, b, h1, h2⟩ := ih _ i (by omega) (by omega) hi
     exact ⟨a, b ++ po e (nA e r).right.toNat ++ [r], by rw [h1]; simp, by omega⟩
    ·obtain ⟨a, b, h1, h2⟩ := ih _ i (by omega) (by omega) hi
     exact ⟨po e (nA e r).left.toNat ++ a, b ++ [r], by rw [h1]; simp, by omega⟩
   ·simp at hi; exact absurd hi hir
theorem po_last {e : List TNode} {n i : Nat} (hp : PartsOk e n) (hi : i < n) : ∃ a, po e i = a ++ [i] := by
 rw [po_eq hp hi]
 split
 ·exact ⟨_, rfl⟩
 ·split
  ·exact ⟨_, rfl⟩
  ·exact ⟨[], rfl⟩
theorem range_at {n : Nat} {a b : List Nat} {i : Nat} (h : List.range n = a ++ i :: b) : a.length = i := by
 have := congrArg (fun l => l[a.length]?) h
 simp only [List.getElem?_append_right (Nat.le_refl _), Nat.sub_self, List.getElem?_cons_zero] at this
 obtain ⟨h1, h2⟩ := List.getElem?_eq_some_iff.1 this
 simpa using h2
theorem po_bad {e : List TNode} {n : Nat} (hp : PartsOk e n) (hn : 0 < n) (h : po e (n - 1) = List.range n) : wrongU e n = false ∧ szA e (n - 1) = n := by
 have hl := po_len hp (n - 1) (n - 1) (Nat.le_refl _) (by omega)
 rw [h, List.length_range] at hl
 refine ⟨?_, by omega⟩
 unfold wrongU
 rw [Bool.eq_false_iff]
 intro hw
 simp only [List.any_eq_true, List.mem_range] at hw
 obtain ⟨i, hi, hw⟩ := hw
 have hq := nodeF_parts (hp i hi)
 obtain ⟨a, b, h1, _⟩ := po_infix hp (n - 1) (n - 1) i (Nat.le_refl _) (by omega) (by rw [h]; exact List.mem_range.2 hi)
 rw [h] at h1
 unfold wrong1 at hw
 have e0 := po_eq hp hi
 by_cases h10 : (nA e i).kind = 10
 ·simp only [h10, if_true] at hw e0
  have hl := hq.1 h10
  obtain ⟨c, hc⟩ := po_last hp (show (nA e i).left.toNat < n by omega)
  rw [e0, hc] at h1
  have p1 := range_at (i := i) (a := a ++ (c ++ [(nA e i).left.toNat])) (b := b) (by rw [h1]; simp)
  have p2 := range_at (i := (nA e i).left.toNat) (a := a ++ c) (b := i :: b) (by rw [h1]; simp)
  simp at p1 p2 hw
  omega
 ·by_cases h2 : isTwoB (nA e i).kind = true
  ·simp only [h10, h2, if_true, if_false] at hw e0
   have hl := hq.2.1 h2
   obtain ⟨c, hc⟩ := po_last hp (show (nA e i).left.toNat < n by omega)
   obtain ⟨d, hd⟩ := po_last hp (show (nA e i).right.toNat < n by omega)
   have hlen := (po_len hp _ _ (Nat.le_refl _) (show (nA e i).right.toNat < n by omega)).1
   rw [hd] at hlen
   rw [e0, hc, hd] at h1
   have p1 := range_at (i := i) (a := a ++ (c ++ [(nA e i).left.toNat]) ++ (d ++ [(nA e i).right.toNat])) (b := b) (by rw [h1]; simp)
   have p2 := range_at (i := (nA e i).left.toNat) (a := a ++ c) (b := (d ++ [(nA e i).right.toNat]) ++ i :: b) (by rw [h1]; simp)
   have p3 := range_at (i := (nA e i).right.toNat) (a := a ++ (c ++ [(nA e i).left.toNat]) ++ d) (b := i :: b) (by rw [h1]; simp)
   simp at p1 p2 p3 hw hlen
   omega
  ·simp only [h10, h2, if_false, Bool.false_eq_true] at hw
theorem po_iff {e : List TNode} {n : Nat} (hp : PartsOk e n) (hn : 0 < n) : po e (n - 1) = List.range n ↔ (wrongU e n = false ∧ szA e (n - 1) = n) := by
 constructor
 ·exact po_bad hp hn
 ·rintro ⟨h1, h2⟩
  have h := (po_good hp (n - 1) (n - 1) (Nat.le_refl _) (by omega) (by rwa [show n - 1 + 1 = n by omega])).2
  rw [h, h2]
  unfold stretch
  rw [List.range_eq_range', show n - 1 + 1 - (n : Int).toNat = 0 by omega]
  simp
def walkC (e : List TNode) : Nat → Nat → List Nat → List Nat
 | 0, _, out => out
 | f + 1, i, out =>
  if 16 < out.length then out
  else
   let n := nA e i
   let o1 := if 2 < n.kind then walkC e f n.left.toNat out else out
   let o2 := if isTwoB n.kind then walkC e f n.right.toNat o1 else o1
   o2 ++ [i]
theorem walkC_mono {e : List TNode} : ∀ (f i : Nat) (out : List Nat), out.length ≤ (walkC e f i out).length := by
 intro f
 induction f with
 | zero => intro i out; exact Nat.le_refl _
 | succ f ih =>
  intro i out
  simp only [walkC]
  split
  ·exact Nat.le_refl _
  ·simp only [List.length_append, List.length_cons, List.length_nil]
   have h1 : out.length ≤ (if 2 < (nA e i).kind then walkC e f (nA e i).left.toNat out else out).length := by
    split
    ·exact ih _ _
    ·exact Nat.le_refl _
   generalize (if 2 < (nA e i).kind then walkC e f (nA e i).left.toNat out else out) = o1 at *
   split
   ·have := ih (nA e i).right.toNat o1; omega
   ·omega
theorem walkC_eq {e : List TNode} {n : Nat} (hp : PartsOk e n) : ∀ (f i : Nat) (out : List Nat), i < n → i < f → (out.length + (po e i).length ≤ 17 → walkC e f i out = out ++ po e i) ∧ (17 < out.length + (po e i).length → 17 ≤ (walkC e f i out).length) := by
 intro f
 induction f with
 | zero => intro i out _ h; omega
 | succ f ih =>
  intro i out hn hf
  have hq := nodeF_parts (hp i hn)
  have hl1 := (po_len hp i i (Nat.le_refl _) hn)
  have e0 := po_eq hp hn
  simp only [walkC]
  by_cases h16 : 16 < out.length
  ·rw [if_pos h16]
   exact ⟨fun h => by omega, fun _ => by omega⟩
  ·rw [if_neg h16]
   by_cases h10 : (nA e i).kind = 10
   ·have hl := hq.1 h10
    have n2 : isTwoB (nA e i).kind = false := by rw [isTwoB, inR_not]; omega
    have i1 := ih (nA e i).left.toNat out (by omega) (by omega)
    rw [if_pos (show 2 < (nA e i).kind by omega)]
    simp only [n2, Bool.false_eq_true, if_false]
    rw [if_pos h10] at e0
    rw [e0]
    simp only [List.length_append, List.length_cons, List.length_nil]
    constructor
    ·intro h
     rw [i1.1 (by omega)]; simp
    ·intro h
     by_cases hh : out.length + (po e (nA e i).left.toNat).length ≤ 17
     ·rw [i1.1 hh]; simp; omega
     ·have := i1.2 (by omega); simp; omega
   ·by_cases h2 : isTwoB (nA e i).kind = true
    ·have hl := hq.2.1 h2
     have hk := inR_iff.1 h2
     have i1 := ih (nA e i).left.toNat out (by omega) (by omega)
     simp only [if_pos (show 2 < (nA e i).kind by omega), h10, h2, if_true, if_false] at e0 ⊢
     rw [e0]
     simp only [List.length_append, List.length_cons, List.length_nil]
     have hr1 := (po_len hp _ _ (Nat.le_refl _) (show (nA e i).right.toNat < n by omega))
     by_cases hh : out.length + (po e (nA e i).left.toNat).length ≤ 17
     ·rw [i1.1 hh]
      have i2 := ih (nA e i).right.toNat (out ++ po e (nA e i).left.toNat) (by omega) (by omega)
      simp only [List.length_append] at i2
      constructor
      ·intro h
       rw [i2.1 (by omega)]; simp
      ·intro h
       by_cases h3 : out.length + (po e (nA e i).left.toNat).length + (po e (nA e i).right.toNat).length ≤ 17
       ·rw [i2.1 h3]; simp; omega
       ·have := i2.2 (by omega); omega
     ·have h5 := i1.2 (by omega)
      have h6 := walkC_mono (e := e) f (nA e i).right.toNat (walkC e f (nA e i).left.toNat out)
      exact ⟨fun h => by omega, fun _ => by omega⟩
    ·have hk : (nA e i).kind ≤ 2 := hq.2.2.2.2.2 ⟨h10, by simpa using h2⟩
     simp only [if_neg (show ¬ 2 < (nA e i).kind by omega), h10, h2, if_false, Bool.false_eq_true] at e0 ⊢
     rw [e0]
     simp only [List.length_append, List.length_cons, List.length_nil]
     exact ⟨fun _ => trivial, fun h => by omega⟩
def wkF (e : List TNode) (i : Nat) (out : List Nat) : List Nat := walkC e (i + 1) i out
theorem wk_iff {e : List TNode} {n : Nat} (hp : PartsOk e n) (hn : 0 < n) (h16 : n ≤ 16) : wkF e (n - 1) [] = List.range n ↔ (wrongU e n = false ∧ szA e (n - 1) = n) := by
 rw [← po_iff hp hn]
 have h := walkC_eq hp (n - 1 + 1) (n - 1) [] (by omega) (Nat.lt_succ_self _)
 unfold wkF
 simp only [List.length_nil, Nat.zero_add, List.nil_append] at h
 by_cases hh : (po e (n - 1)).length ≤ 17
 ·rw [h.1 hh]
 ·constructor
  ·intro hw
   have := h.2 (by omega)
   rw [hw, List.length_range] at this; omega
  ·intro hw
   rw [hw, List.length_range] at hh; omega
def exprF (e : List TNode) : Int :=
 if inR e.length 1 16 = false then 2
 else if sc (nodeAt e) e.length 0 ≠ 0 then sc (nodeAt e) e.length 0
 else if wrongU e e.length = true ∨ szA e (e.length - 1) ≠ e.length then 1 else 0
end Go.AM
namespace Go.AM
theorem walkC_more {e : List TNode} {n : Nat} (hp : PartsOk e n) : ∀ (f g i : Nat) (out : List Nat), i < n → i < f → i < g → walkC e f i out = walkC e g i out := by
 intro f
 induction f with
 | zero => intro g i out _ h; omega
 | succ f ih =>
  intro g i out hn hf hg
  cases g with
  | zero => omega
  | succ g =>
   have hq := nodeF_parts (hp i hn)
   simp only [walkC]
   by_cases h10 : (nA e i).kind = 10
   ·have hl := hq.1 h10
    have n2 : isTwoB (nA e i).kind = false := by rw [isTwoB, inR_not]; omega
    simp only [n2, Bool.false_eq_true, if_false]
    rw [ih g (nA e i).left.toNat out (by omega) (by omega) (by omega)]
   ·by_cases h2 : isTwoB (nA e i).kind = true
    ·have hl := hq.2.1 h2
     simp only [h2]
     rw [ih g (nA e i).left.toNat _ (by omega) (by omega) (by omega), ih g (nA e i).right.toNat _ (by omega) (by omega) (by omega)]
    ·have hk : (nA e i).kind ≤ 2 := hq.2.2.2.2.2 ⟨h10, by simpa using h2⟩
     simp only [if_neg (show ¬ 2 < (nA e i).kind by omega), h2, Bool.false_eq_true, if_false]
theorem wkF_eq {e : List TNode} {n i : Nat} (hp : PartsOk e n) (hi : i < n) (out : List Nat) : wkF e i out = if 16 < out.length then out else
  (if isTwoB (nA e i).kind then wkF e (nA e i).right.toNat (if 2 < (nA e i).kind then wkF e (nA e i).left.toNat out else out) else (if 2 < (nA e i).kind then wkF e (nA e i).left.toNat out else out)) ++ [i] := by
 have hq := nodeF_parts (hp i hi)
 unfold wkF
 conv => lhs; unfold walkC
 split
 ·rfl
 ·simp only
  by_cases h10 : (nA e i).kind = 10
  ·have hl := hq.1 h10
   have n2 : isTwoB (nA e i).kind = false := by rw [isTwoB, inR_not]; omega
   simp only [n2, Bool.false_eq_true, if_false]
   rw [walkC_more hp i ((nA e i).left.toNat + 1) (nA e i).left.toNat out (by omega) (by omega) (by omega)]
  ·by_cases h2 : isTwoB (nA e i).kind = true
   ·have hl := hq.2.1 h2
    simp only [h2]
    rw [walkC_more hp i ((nA e i).left.toNat + 1) (nA e i).left.toNat _ (by omega) (by omega) (by omega), walkC_more hp i ((nA e i).right.toNat + 1) (nA e i).right.toNat _ (by omega) (by omega) (by omega)]
   ·have hk : (nA e i).kind ≤ 2 := hq.2.2.2.2.2 ⟨h10, by simpa using h2⟩
    simp only [if_neg (show ¬ 2 < (nA e i).kind by omega), h2, Bool.false_eq_true, if_false]
def ownT (k : Int) : Int := if k ≤ 6 then 1 else 2
def partT (k : Int) : Int := if k ≤ 8 then 1 else 2
def typBad (e : List TNode) (i : Nat) : Bool :=
 let n := nA e i
 (decide (2 < n.kind) && decide (ownT (nA e n.left.toNat).kind ≠ partT n.kind)) || (isTwoB n.kind && decide (ownT (nA e n.right.toNat).kind ≠ partT n.kind))
def typU (e : List TNode) (i : Nat) : Bool := (List.range i).any (typBad e)
theorem typU_step (e : List TNode) (i : Nat) : typU e (i + 1) = (typU e i || typBad e i) := by
 unfold typU; rw [List.range_succ, List.any_append]; simp
theorem typU_mono {e : List TNode} {i n : Nat} (h : i ≤ n) (hu : typU e i = true) : typU e n = true := by
 unfold typU at *
 simp only [List.any_eq_true, List.mem_range] at *
 obtain ⟨x, h1, h2⟩ := hu
 exact ⟨x, by omega, h2⟩
def typC (e : List TNode) : Int := if exprF e ≠ 0 then exprF e else if typU e e.length = true then 7 else 0
def typV (e : List TNode) : Int := if typC e ≠ 0 then 0 else ownT (nA e (e.length - 1)).kind
def typF (e : List TNode) (want : Int) : Int := if e.length = 0 then 0 else if typC e ≠ 0 then typC e else if typV e ≠ want then 7 else 0
def isLow (c : UInt8) : Bool := decide (97 ≤ (c.toNat : Int)) && decide ((c.toNat : Int) ≤ 122)
def nameF (s : List UInt8) : Int := if s.all isLow = false ∨ s.length = 0 then 5 else if 8 < s.length then 2 else 0
def ParOk (l : List Int) : Prop := ∀ k, k < l.length → -1 ≤ l.getD k 0 ∧ l.getD k 0 < k
def upF (l : List Int) : Nat → Int → Int → Bool
 | 0, _, _ => false
 | f + 1, a, par => if a < 0 then false else if a = par then true else upF l f (l.getD a.toNat 0) par
def upB (l : List Int) (a par : Int) : Bool := upF l (a + 1).toNat a par
theorem upF_more {l : List Int} (hl : ParOk l) {par : Int} : ∀ (f g : Nat) (a : Int), a < l.length → a < f → a < g → upF l f a par = upF l g a par := by
 intro f
 induction f with
 | zero =>
  intro g a _ hf _
  cases g with
  | zero => rfl
  | succ g => simp only [upF]; rw [if_pos (by omega)]
 | succ f ih =>
  intro g a hn hf hg
  cases g with
  | zero => simp only [upF]; rw [if_pos (by omega)]
  | succ g =>
   simp only [upF]
   split
   ·rfl
   ·split
    ·rfl
    ·have := hl a.toNat (by omega)
     exact ih g _ (by omega) (by omega) (by omega)
theorem upB_neg {l : List Int} {a par : Int} (h : a < 0) : upB l a par = false := by
 unfold upB
 rw [show (a + 1).toNat = 0 by omega]; rfl
theorem upB_eq {l : List Int} (hl : ParOk l) {a par : Int} (h0 : 0 ≤ a) (hn : a < l.length) : upB l a par = if a = par then true else upB l (l.getD a.toNat 0) par := by
 unfold upB
 obtain ⟨m, hm⟩ : ∃ m : Nat, a = m := ⟨a.toNat, by omega⟩
 subst hm
 rw [show ((m : Int) + 1).toNat = m + 1 by omega]
 simp only [upF]
 rw [if_neg (by omega)]
 split
 ·rfl
 ·have := hl m (by omega)
  rw [Int.toNat_natCast] at *
  exact upF_more hl m _ _ (by omega) (by omega) (by omega)
theorem upB_lt {l : List Int} (hl : ParOk l) {par : Int} : ∀ (k : Nat) (a : Int), a < k → a < l.length → a < par → upB l a par = false := by
 intro k
 induction k with
 | zero => intro a hk _ _; exact upB_neg (by omega)
 | succ k ih =>
  intro a hk hn hp
  by_cases h0 : a < 0
  ·exact upB_neg h0
  ·have := hl a.toNat (by omega)
   rw [upB_eq hl (by omega) hn, if_neg (by omega)]
   exact ih _ (by omega) (by omega) (by omega)
def parF (l : List Int) (par : Int) : Int :=
 if (l.length = 0 ∧ par ≠ -1) ∨ (0 < l.length ∧ (par < 0 ∨ (l.length : Int) ≤ par)) then 3
 else if 0 < l.length ∧ upB l ((l.length : Int) - 1) par = false then 1 else 0
theorem ParOk.snoc {l : List Int} (hl : ParOk l) {par : Int} (h1 : -1 ≤ par) (h2 : par < l.length) : ParOk (l ++ [par]) := by
 intro k hk
 rw [List.length_append, List.length_singleton] at hk
 by_cases h : k < l.length
 ·have := hl k h
  simpa [List.getD, List.getElem?_append_left h] using this
 ·obtain rfl : k = l.length := by omega
  simp [List.getD]; omega
theorem parF_ok {l : List Int} {par : Int} (h : parF l par = 0) : -1 ≤ par ∧ par < l.length ∧ (0 < l.length → 0 ≤ par) := by
 unfold parF at h
 split at h
 ·cases h
 ·omega
def depF (l : List Int) : Nat → Int → Int
 | 0, _ => 0
 | f + 1, a => if a < 0 then 0 else 1 + depF l f (l.getD a.toNat 0)
def dep (l : List Int) (a : Int) : Int := depF l (a + 1).toNat a
theorem depF_more {l : List Int} (hl : ParOk l) : ∀ (f g : Nat) (a : Int), a < l.length → a < f → a < g → depF l f a = depF l g a := by
 intro f
 induction f with
 | zero =>
  intro g a _ hf _
  cases g with
  | zero => rfl
  | succ g => simp only [depF]; rw [if_pos (by omega)]
 | succ f ih =>
  intro g a hn hf hg
  cases g with
  | zero => simp only [depF]; rw [if_pos (by omega)]
  | succ g =>
   simp only [depF]
   split
   ·rfl
   ·have := hl a.toNat (by omega)
    rw [ih g _ (by omega) (by omega) (by omega)]
theorem dep_neg {l : List Int} {a : Int} (h : a < 0) : dep l a = 0 := by
 unfold dep
 rw [show (a + 1).toNat = 0 by omega]; rfl
theorem dep_eq {l : List Int} (hl : ParOk l) {a : Int} (h0 : 0 ≤ a) (hn : a < l.length) : dep l a = 1 + dep l (l.getD a.toNat 0) := by
 unfold dep
 obtain ⟨m, hm⟩ : ∃ m : Nat, a = m := ⟨a.toNat, by omega⟩
 subst hm
 rw [show ((m : Int) + 1).toNat = m + 1 by omega]
 simp only [depF]
 rw [if_neg (by omega)]
 have := hl m (by omega)
 rw [Int.toNat_natCast] at *
 rw [depF_more hl m (l.getD m 0 + 1).toNat (l.getD m 0) (by omega) (by omega) (by omega)]
theorem dep_bd {l : List Int} (hl : ParOk l) : ∀ (k : Nat) (a : Int), a < k → a < l.length → 0 ≤ dep l a ∧ (0 ≤ a → dep l a ≤ a + 1) := by
 intro k
 induction k with
 | zero => intro a hk _; rw [dep_neg (by omega)]; omega
 | succ k ih =>
  intro a hk hn
  by_cases h0 : a < 0
  ·rw [dep_neg h0]; omega
  ·have h1 := hl a.toNat (by omega)
   rw [dep_eq hl (by omega) hn]
   have h2 := ih (l.getD a.toNat 0) (by omega) (by omega)
   by_cases h3 : 0 ≤ l.getD a.toNat 0
   ·have := h2.2 h3; omega
   ·rw [dep_neg (show l.getD a.toNat 0 < 0 by omega)]; omega
theorem getD_left {l : List Int} {x : Int} {k : Nat} (h : k < l.length) : (l ++ [x]).getD k 0 = l.getD k 0 := by simp [List.getD, List.getElem?_append_left h]
theorem dep_snoc {l : List Int} (hl : ParOk l) {x : Int} : ∀ (k : Nat) (a : Int), a < k → a < l.length → -1 ≤ x → x < l.length → dep (l ++ [x]) a = dep l a := by
 intro k
 induction k with
 | zero => intro a hk _ _ _; rw [dep_neg (by omega), dep_neg (by omega)]
 | succ k ih =>
  intro a hk hn h1 h2
  by_cases h0 : a < 0
  ·rw [dep_neg h0, dep_neg h0]
  ·have h3 := hl a.toNat (by omega)
   rw [dep_eq hl (by omega) hn, dep_eq (hl.snoc h1 h2) (by omega) (by simp; omega), getD_left (by omega), ih _ (by omega) (by omega) h1 h2]
instance : Inhabited TStep := ⟨⟨0, 0, [], 0, [], []⟩⟩
def nS (p : List TStep) (i : Nat) : TStep := p.getD i default
def pars (p : List TStep) : List Int := p.map TStep.par
def highA (k : Int) : Int := if k = 5 then 9 else if k = 6 ∨ k = 8 then 99 else if k = 7 then 3 else 0
def lowA (k : Int) : Int := if k = 6 ∨ k = 8 then 1 else 0
def alien (s : TStep) : Bool := (decide (s.name ≠ []) && decide (s.kind ≠ 2)) || (decide (s.arg ≠ 0) && decide (highA s.kind = 0)) || (decide (0 < s.expr.length) && decide (s.kind ≠ 7))
def stepF (l : List Int) (s : TStep) : Int :=
 if s.kind < 1 ∨ 8 < s.kind ∨ alien s = true then 1
 else if parF l s.par ≠ 0 then parF l s.par
 else if 7 < dep (l ++ [s.par]) l.length then 2
 else if s.kind = 2 then nameF s.name
 else if s.arg < lowA s.kind ∨ highA s.kind < s.arg then 3
 else if s.kind = 7 then exprF s.expr else 0
def oneF (p : List TStep) (i : Nat) : Int := stepF ((pars p).take i) (nS p i)
def kidU (p : List TStep) (a : Int) (i : Nat) : List Int := ((List.range i).filter fun k => decide (0 < k) && decide ((nS p k).par = a)).map fun (k : Nat) => (k : Int)
def kids (p : List TStep) (a : Int) : List Int := kidU p a p.length
theorem kidU_step (p : List TStep) (a : Int) (i : Nat) : kidU p a (i + 1) = kidU p a i ++ (if 0 < i ∧ (nS p i).par = a then [(i : Int)] else []) := by
 unfold kidU
 rw [List.range_succ, List.filter_append, List.map_append]
 congr 1
 by_cases h : 0 < i ∧ (nS p i).par = a
 ·rw [if_pos h]; simp [h]
 ·rw [if_neg h]
  rw [List.filter_cons_of_neg (by simpa using h)]; rfl
theorem kidU_len (p : List TStep) (a : Int) (i : Nat) : (kidU p a i).length ≤ i := by
 unfold kidU; rw [List.length_map]; exact Nat.le_trans (List.length_filter_le _ _) (by simp)
theorem kids_mem {p : List TStep} {a k : Int} : k ∈ kids p a ↔ ∃ m : Nat, k = m ∧ 0 < m ∧ m < p.length ∧ (nS p m).par = a := by
 unfold kids kidU
 simp only [List.mem_map, List.mem_filter, List.mem_range, Bool.and_eq_true, decide_eq_true_eq]
 constructor
 ·rintro ⟨m, ⟨h1, h2, h3⟩, rfl⟩; exact ⟨m, rfl, h2, h1, h3⟩
 ·rintro ⟨m, rfl, h2, h1, h3⟩; exact ⟨m, ⟨h1, h2, h3⟩, rfl⟩
def lastI (l : List Int) : Int := l.getD (l.length - 1) 0
def headI (l : List Int) : Int := l.getD 0 0
def kidLo (k : Int) : Int := if k = 1 then 1 else if k = 3 ∨ k = 4 ∨ k = 8 then 2 else 0
def kidHi (k : Int) : Int := if k = 1 ∨ k = 3 ∨ k = 4 then 24 else if k = 8 then 2 else 0
def wants (p : List TStep) (i : Nat) : Bool :=
 decide (i ≠ 0) && decide ((nS p (nS p i).par.toNat).kind = 3) && decide ((i : Int) ≠ lastI (kids p (nS p i).par))
def shapeF (p : List TStep) (i : Nat) : Int :=
 let s := nS p i
 if inR (kids p i).length (kidLo s.kind) (kidHi s.kind) = false then 1
 else if decide (0 < s.cond.length) ≠ wants p i then 1
 else if 0 < s.cond.length then exprF s.cond else 0
def tyF (p : List TStep) (i : Nat) : Int := if typF (nS p i).cond 2 ≠ 0 then typF (nS p i).cond 2 else typF (nS p i).expr 1
def procF (p : List TStep) : Int :=
 if inR p.length 1 24 = false then 2
 else if sc (oneF p) p.length 0 ≠ 0 then sc (oneF p) p.length 0
 else if sc (shapeF p) p.length 0 ≠ 0 then sc (shapeF p) p.length 0
 else sc (tyF p) p.length 0
theorem pars_len (p : List TStep) : (pars p).length = p.length := by simp [pars]
theorem pars_get {p : List TStep} {i : Nat} (h : i < p.length) : (pars p).getD i 0 = (nS p i).par := by
 simp [pars, nS, List.getD, List.getElem?_map, List.getElem?_eq_getElem h]
theorem pars_take {p : List TStep} {i : Nat} (h : i < p.length) : (pars p).take (i + 1) = (pars p).take i ++ [(nS p i).par] := by
 have e : (pars p)[i]? = some (nS p i).par := by simp [pars, nS, List.getD, List.getElem?_map, List.getElem?_eq_getElem h]
 rw [List.take_add_one, e]; rfl
theorem stepF_par {l : List Int} {s : TStep} (h : stepF l s = 0) : parF l s.par = 0 := by
 unfold stepF at h
 split at h
 ·cases h
 ·split at h
  ·exact absurd h (by assumption)
  ·rename_i h2; simpa using h2
theorem ones_ok {p : List TStep} : ∀ (i : Nat), i ≤ p.length → (∀ k, k < i → oneF p k = 0) → ParOk ((pars p).take i) := by
 intro i
 induction i with
 | zero => intro _ _ k hk; simp at hk
 | succ i ih =>
  intro hi h
  have h1 := ih (by omega) fun k hk => h k (by omega)
  have h2 := parF_ok (stepF_par (h i (by omega)))
  rw [pars_take (by omega)]
  exact h1.snoc h2.1 h2.2.1
end Go.AM
namespace Go.AM
def leE (c : List UInt8) (a : Int) : List TNode × Int :=
 if nx c a 2 = 0 then ([⟨2, nx c (a + 1) 3, 0, 0⟩], a + 2)
 else ([⟨1, [0, 1, 2, nx c (a + 1) 20, 9999].getD (nx c (a + 2) 5).toNat 0, 0, 0⟩], a + 3)
def twE (k : Int) (e : Nat) (f g : List TNode × Int) : List TNode × Int := (f.1 ++ g.1 ++ [⟨k, 0, (e : Int) + f.1.length - 1, (e : Int) + f.1.length + g.1.length - 1⟩], g.2)
def mkI (c : List UInt8) : Nat → Int → Nat → List TNode × Int
 | 0, a, _ => leE c a
 | d + 1, a, e =>
  if nx c a 3 = 0 then leE c (a + 1)
  else
   let f := mkI c d (a + 2) e
   twE (3 + nx c (a + 1) 4) e f (mkI c d f.2 (e + f.1.length))
def mkB (c : List UInt8) : Nat → Int → Nat → List TNode × Int
 | 0, a, e =>
  let f := mkI c 0 (a + 2) e
  twE (7 + nx c (a + 1) 2) e f (mkI c 0 f.2 (e + f.1.length))
 | d + 1, a, e =>
  if 1 < d + 1 ∧ nx c (a + 2) 3 = 0 then
   let k := 9 + nx c (a + 3) 2
   let f := mkB c d (a + 4) e
   if k = 10 then (f.1 ++ [⟨10, 0, (e : Int) + f.1.length - 1, 0⟩], f.2)
   else twE k e f (mkB c d f.2 (e + f.1.length))
  else
   let b := if 1 < d + 1 then a + 3 else a + 2
   let f := mkI c d b e
   twE (7 + nx c (a + 1) 2) e f (mkI c d f.2 (e + f.1.length))
theorem leE_len (c : List UInt8) (a : Int) : (leE c a).1.length = 1 ∧ a < (leE c a).2 ∧ (leE c a).2 ≤ a + 3 := by unfold leE; split <;> simp <;> omega
theorem mkI_len (c : List UInt8) : ∀ (d : Nat) (a : Int) (e : Nat), 1 ≤ (mkI c d a e).1.length ∧ (mkI c d a e).1.length + 1 ≤ 2 ^ (d + 1) ∧ a < (mkI c d a e).2 ∧ (mkI c d a e).2 + 5 ≤ a + 8 * 2 ^ d := by
 intro d
 induction d with
 | zero => intro a e; have := leE_len c a; simp only [mkI]; omega
 | succ d ih =>
  intro a e
  have hp : 2 ^ (d + 1 + 1) = 2 * 2 ^ (d + 1) := by rw [Nat.pow_succ]; omega
  have hp2 : 2 ^ (d + 1) = 2 * 2 ^ d := by rw [Nat.pow_succ]; omega
  have hp3 : ((2 : Int) ^ (d + 1)) = 2 * 2 ^ d := by rw [Int.pow_succ]; omega
  have hpos : 1 ≤ 2 ^ d := Nat.one_le_two_pow
  have hpi : (1 : Int) ≤ 2 ^ d := by exact_mod_cast hpos
  simp only [mkI]
  split
  ·have := leE_len c (a + 1); omega
  ·have h1 := ih (a + 2) e
   have h2 := ih (mkI c d (a + 2) e).2 (e + (mkI c d (a + 2) e).1.length)
   simp only [twE, List.length_append, List.length_singleton]
   omega
theorem mkB_len (c : List UInt8) : ∀ (d : Nat) (a : Int) (e : Nat), 1 ≤ (mkB c d a e).1.length ∧ (mkB c d a e).1.length + 1 ≤ 2 ^ (d + 2) ∧ a < (mkB c d a e).2 ∧ (mkB c d a e).2 + 5 ≤ a + 24 * 2 ^ d := by
 intro d
 induction d with
 | zero =>
  intro a e
  have h1 := mkI_len c 0 (a + 2) e
  have h2 := mkI_len c 0 (mkI c 0 (a + 2) e).2 (e + (mkI c 0 (a + 2) e).1.length)
  simp only [mkB, twE, List.length_append, List.length_singleton]
  omega
 | succ d ih =>
  intro a e
  have hp : 2 ^ (d + 1 + 2) = 2 * 2 ^ (d + 2) := by rw [Nat.pow_succ]; omega
  have hp1 : 2 ^ (d + 2) = 2 * 2 ^ (d + 1) := by rw [Nat.pow_succ]; omega
  have hp2 : 2 ^ (d + 1) = 2 * 2 ^ d := by rw [Nat.pow_succ]; omega
  have hp3 : ((2 : Int) ^ (d + 1)) = 2 * 2 ^ d := by rw [Int.pow_succ]; omega
  have hpos : 1 ≤ 2 ^ d := Nat.one_le_two_pow
  have hpi : (1 : Int) ≤ 2 ^ d := by exact_mod_cast hpos
  simp only [mkB]
  split
  ·split
   ·have h1 := ih (a + 4) e
    simp only [List.length_append, List.length_singleton]
    omega
   ·have h1 := ih (a + 4) e
    have h2 := ih (mkB c d (a + 4) e).2 (e + (mkB c d (a + 4) e).1.length)
    simp only [twE, List.length_append, List.length_singleton]
    omega
  ·have key : ∀ b : Int, a + 2 ≤ b → b ≤ a + 3 → 1 ≤ (twE (7 + nx c (a + 1) 2) e (mkI c d b e) (mkI c d (mkI c d b e).2 (e + (mkI c d b e).1.length))).1.length ∧ (twE (7 + nx c (a + 1) 2) e (mkI c d b e) (mkI c d (mkI c d b e).2 (e + (mkI c d b e).1.length))).1.length + 1 ≤ 2 ^ (d + 1 + 2) ∧ a < (twE (7 + nx c (a + 1) 2) e (mkI c d b e) (mkI c d (mkI c d b e).2 (e + (mkI c d b e).1.length))).2 ∧ (twE (7 + nx c (a + 1) 2) e (mkI c d b e) (mkI c d (mkI c d b e).2 (e + (mkI c d b e).1.length))).2 + 5 ≤ a + 24 * 2 ^ (d + 1) := by
    intro b hb1 hb2
    have h1 := mkI_len c d b e
    have h2 := mkI_len c d (mkI c d b e).2 (e + (mkI c d b e).1.length)
    simp only [twE, List.length_append, List.length_singleton]
    omega
   refine key _ ?_ ?_ <;> split <;> omega
def drE (c : List UInt8) (t : Int) (a : Int) : List TNode × Int :=
 let d := ([1, 1, 2].getD (nx c a 3).toNat (0 : Nat))
 if t = 2 then mkB c d (a + 1) 0 else mkI c d (a + 1) 0
theorem drE_len (c : List UInt8) (t a : Int) : 1 ≤ (drE c t a).1.length ∧ (drE c t a).1.length ≤ 15 ∧ a < (drE c t a).2 ∧ (drE c t a).2 ≤ a + 100 := by
 have hd : ([1, 1, 2].getD (nx c a 3).toNat (0 : Nat)) = 0 ∨ ([1, 1, 2].getD (nx c a 3).toNat (0 : Nat)) = 1 ∨ ([1, 1, 2].getD (nx c a 3).toNat (0 : Nat)) = 2 := by
  match (nx c a 3).toNat with
  | 0 => exact Or.inr (Or.inl rfl)
  | 1 => exact Or.inr (Or.inl rfl)
  | 2 => exact Or.inr (Or.inr rfl)
  | n + 3 => exact Or.inl rfl
 unfold drE
 simp only
 rcases hd with h | h | h <;> rw [h] <;> split <;> first
  | (have := mkB_len c 0 (a + 1) 0; omega)
  | (have := mkI_len c 0 (a + 1) 0; omega)
  | (have := mkB_len c 1 (a + 1) 0; omega)
  | (have := mkI_len c 1 (a + 1) 0; omega)
  | (have := mkB_len c 2 (a + 1) 0; omega)
  | (have := mkI_len c 2 (a + 1) 0; omega)
def wdL : List (List UInt8) := [[97], [116, 97, 115, 107], [115, 101, 113], [105, 100], [98]]
def wdD (c : List UInt8) (a : Int) : List UInt8 := wdL.getD (nx c a 5).toNat []
def st4 (c : List UInt8) (k par a : Int) : TStep × Int :=
 if k = 2 then (⟨k, par, wdD c a, 0, [], []⟩, a + 1)
 else if k = 5 then (⟨k, par, [], nx c a 3, [], []⟩, a + 1)
 else if k = 6 ∨ k = 8 then (⟨k, par, [], 1 + nx c a 6, [], []⟩, a + 1)
 else if k = 7 then (⟨k, par, [], nx c a 3, [], (drE c 1 (a + 1)).1⟩, (drE c 1 (a + 1)).2)
 else (⟨k, par, [], 0, [], []⟩, a)
def kd4 (c : List UInt8) (k a : Int) : Nat × Int :=
 if k = 1 then ((1 + nx c a 3).toNat, a + 1)
 else if k = 3 ∨ k = 4 then ((2 + nx c a 2).toNat, a + 1)
 else if k = 8 then (2, a) else (0, a)
def setC (p : List TStep) (i : Nat) (e : List TNode) : List TStep := p.set i { (p.getD i default) with cond := e }
def lp4 (c : List UInt8) (f : Int → List TStep → List TStep × Int) (x : Bool) : Nat → Int → List TStep → List TStep × Int
 | 0, a, p => (p, a)
 | n + 1, a, p =>
  let r := f a p
  if x = true ∧ 0 < n then lp4 c f x n (drE c 2 r.2).2 (setC r.1 p.length (drE c 2 r.2).1)
  else lp4 c f x n r.2 r.1
def ki4 (c : List UInt8) (more : Bool) (par a : Int) : Int × Int :=
 if more = true then
  if par < 0 then ([1, 1, 4, 8].getD (nx c (a + 2) 4).toNat 0, a + 3) else ([1, 3, 4, 8, 2, 7].getD (nx c (a + 1) 6).toNat 0, a + 2)
 else ([2, 2, 5, 6, 7, 7].getD (nx c a 6).toNat 0, a + 1)
def mk4 (c : List UInt8) : Nat → Int → Int → List TStep → List TStep × Int
 | 0, par, a, p =>
  let k := ki4 c false par a
  let s := st4 c k.1 par k.2
  let n := kd4 c k.1 s.2
  (p ++ [s.1], n.2)
 | d + 1, par, a, p =>
  let k := ki4 c (decide (p.length < 14)) par a
  let s := st4 c k.1 par k.2
  let n := kd4 c k.1 s.2
  lp4 c (fun a q => mk4 c d (p.length : Int) a q) (decide (k.1 = 3)) n.1 n.2 (p ++ [s.1])
def rt4 (c : List UInt8) : Nat → Int → List TStep × Int
 | 0, a => ([⟨2, -1, [97], 0, [], []⟩], a)
 | n + 1, a =>
  let r := mk4 c (2 + nx c a 2).toNat (-1) (a + 1) []
  if r.1.length ≤ 24 then r else rt4 c n r.2
end Go.AM
namespace Go.AM
def nd0 : TNode := ⟨0, 0, 0, 0⟩
def st0 : TStep := ⟨0, 0, [], 0, [], []⟩
def be3 (c : List UInt8) (a : Int) : List TNode × Int :=
 let f := drE c (1 + nx c a 2) (a + 1)
 let i := (nx c f.2 f.1.length).toNat
 let k := nx c (f.2 + 1) 12
 let x := f.1.getD i nd0
 if k = 0 then (f.1.set i { x with kind := [0, 11, 1, 9, 10].getD (nx c (f.2 + 2) 5).toNat 0 }, f.2 + 3)
 else if k = 1 then (f.1.set i { x with val := [-1, 4, 10000].getD (nx c (f.2 + 2) 3).toNat 0 }, f.2 + 3)
 else if k = 2 then (f.1.set i { x with left := [0, 1, 9, -1].getD (nx c (f.2 + 2) 4).toNat 0 }, f.2 + 3)
 else if k = 3 then (f.1.set i { x with right := [0, 1, 9].getD (nx c (f.2 + 2) 3).toNat 0 }, f.2 + 3)
 else if k = 4 then (List.replicate 17 nd0, f.2 + 2)
 else if k = 5 then (f.1 ++ [⟨1, 0, 0, 0⟩], f.2 + 2)
 else (f.1, f.2 + 2)
def be4 (c : List UInt8) (a : Int) : List TStep × Int :=
 let f := rt4 c 20 a
 let i := (nx c f.2 f.1.length).toNat
 let k := nx c (f.2 + 1) 16
 let x := f.1.getD i st0
 if k = 0 then (f.1.set i { x with kind := [0, 9, 1, 2, 3].getD (nx c (f.2 + 2) 5).toNat 0 }, f.2 + 3)
 else if k = 1 then (f.1.set i { x with par := [-1, 0, 1, 24].getD (nx c (f.2 + 2) 4).toNat 0 }, f.2 + 3)
 else if k = 2 then (f.1.set i { x with arg := [-1, 0, 100, 5].getD (nx c (f.2 + 2) 4).toNat 0 }, f.2 + 3)
 else if k = 3 then (f.1.set i { x with cond := (be3 c (f.2 + 2)).1 }, (be3 c (f.2 + 2)).2)
 else if k = 4 then (f.1.set i { x with expr := (be3 c (f.2 + 2)).1 }, (be3 c (f.2 + 2)).2)
 else if k = 5 then (f.1.set i { x with name := [[], [65], [98]].getD (nx c (f.2 + 2) 3).toNat [] }, f.2 + 3)
 else if k = 6 then (List.replicate 25 st0, f.2 + 2)
 else if k = 7 then (f.1.take i, f.2 + 2)
 else (f.1, f.2 + 2)
theorem be3_len (c : List UInt8) {a : Int} (ha : 0 ≤ a) : 1 ≤ (be3 c a).1.length ∧ (be3 c a).1.length ≤ 17 ∧ a < (be3 c a).2 ∧ (be3 c a).2 ≤ a + 104 := by
 have h := drE_len c (1 + nx c a 2) (a + 1)
 unfold be3
 simp only
 split
 ·simp only [List.length_set]; omega
 split
 ·simp only [List.length_set]; omega
 split
 ·simp only [List.length_set]; omega
 split
 ·simp only [List.length_set]; omega
 split
 ·simp only [List.length_replicate]; omega
 split
 ·simp only [List.length_append, List.length_singleton]; omega
 ·simp only; omega
def Sm (s : TStep) : Prop := s.name.length ≤ 4 ∧ s.cond.length ≤ 17 ∧ s.expr.length ≤ 17
theorem Sm.gok {s : TStep} (h : Sm s) : s.gok := by obtain ⟨h1, h2, h3⟩ := h; exact ⟨by omega, by omega, by omega⟩
theorem sm_set {p : List TStep} (h : ∀ s ∈ p, Sm s) (i : Nat) {y : TStep} (hy : Sm y) : ∀ s ∈ p.set i y, Sm s := by
 intro s hs
 rcases List.mem_or_eq_of_mem_set hs with h1 | rfl
 ·exact h s h1
 ·exact hy
theorem sm_snoc {p : List TStep} (h : ∀ s ∈ p, Sm s) {y : TStep} (hy : Sm y) : ∀ s ∈ p ++ [y], Sm s := by
 intro s hs
 rcases List.mem_append.1 hs with h1 | h1
 ·exact h s h1
 ·rw [List.mem_singleton.1 h1]; exact hy
theorem sm_getD {p : List TStep} (h : ∀ s ∈ p, Sm s) (i : Nat) {z : TStep} (hz : Sm z) : Sm (p.getD i z) := by
 rw [List.getD_eq_getElem?_getD]
 cases h2 : p[i]? with
 | none => exact hz
 | some x => exact h x (List.mem_of_getElem? h2)
theorem wdD_len (c : List UInt8) (a : Int) : (wdD c a).length ≤ 4 := by
 unfold wdD
 rw [List.getD_eq_getElem?_getD]
 cases h2 : wdL[(nx c a 5).toNat]? with
 | none => simp
 | some x =>
  have h3 := List.mem_of_getElem? h2
  have : ∀ x ∈ wdL, x.length ≤ 4 := by decide
  exact this x h3
theorem st4_bd (c : List UInt8) (k par a : Int) : Sm (st4 c k par a).1 ∧ a ≤ (st4 c k par a).2 ∧ (st4 c k par a).2 ≤ a + 101 := by
 have hw := wdD_len c a
 have hd := drE_len c 1 (a + 1)
 unfold st4
 split
 ·exact ⟨⟨by simp only; omega, by simp, by simp⟩, by simp only; omega, by simp only; omega⟩
 split
 ·exact ⟨⟨by simp, by simp, by simp⟩, by simp only; omega, by simp only; omega⟩
 split
 ·exact ⟨⟨by simp, by simp, by simp⟩, by simp only; omega, by simp only; omega⟩
 split
 ·exact ⟨⟨by simp, by simp, by simp only; omega⟩, by simp only; omega, by simp only; omega⟩
 ·exact ⟨⟨by simp, by simp, by simp⟩, by simp only; omega, by simp only; omega⟩
theorem kd4_bd (c : List UInt8) (k : Int) {a : Int} (ha : 0 ≤ a) : (kd4 c k a).1 ≤ 3 ∧ a ≤ (kd4 c k a).2 ∧ (kd4 c k a).2 ≤ a + 1 := by
 have h3 := nx_bd c (n := 3) ha
 have h2 := nx_bd c (n := 2) ha
 unfold kd4
 split
 ·simp only; omega
 split
 ·simp only; omega
 split <;> simp only <;> omega
theorem ki4_bd (c : List UInt8) (m : Bool) (par a : Int) : a ≤ (ki4 c m par a).2 ∧ (ki4 c m par a).2 ≤ a + 3 := by
 unfold ki4
 split
 ·split <;> simp only <;> omega
 ·simp only; omega
theorem lp4_bd (c : List UInt8) (f : Int → List TStep → List TStep × Int) (x : Bool) (L : Nat) (A : Int) (hA : 0 ≤ A) (hf : ∀ a p, 0 ≤ a → (∀ s ∈ p, Sm s) → p.length + 1 ≤ (f a p).1.length ∧ (f a p).1.length ≤ p.length + L ∧ a ≤ (f a p).2 ∧ (f a p).2 ≤ a + A ∧ ∀ s ∈ (f a p).1, Sm s) : ∀ (n : Nat) (a : Int) (p : List TStep), 0 ≤ a → (∀ s ∈ p, Sm s) → p.length ≤ (lp4 c f x n a p).1.length ∧ (lp4 c f x n a p).1.length ≤ p.length + n * L ∧ a ≤ (lp4 c f x n a p).2 ∧ (lp4 c f x n a p).2 ≤ a + n * (A + 100) ∧ ∀ s ∈ (lp4 c f x n a p).1, Sm s := by
 intro n
 induction n with
 | zero => intro a p ha hp; simp only [lp4]; refine ⟨Nat.le_refl _, by omega, Int.le_refl _, by omega, hp⟩
 | succ n ih =>
  intro a p ha hp
  obtain ⟨h1, h2, h3, h4, h5⟩ := hf a p ha hp
  have hm : (n + 1) * L = n * L + L := Nat.succ_mul n L
  have hmi : ((n + 1 : Nat) : Int) * (A + 100) = (n : Int) * (A + 100) + (A + 100) := by push_cast; rw [Int.add_mul]; omega
  have hd := drE_len c 2 (f a p).2
  simp only [lp4]
  split
  ·have hs : ∀ s ∈ setC (f a p).1 p.length (drE c 2 (f a p).2).1, Sm s := by
    refine sm_set h5 _ ?_
    have h6 : Sm ((f a p).1.getD p.length default) := sm_getD h5 _ ⟨by decide, by decide, by decide⟩
    exact ⟨h6.1, by simp only; omega, h6.2.2⟩
   obtain ⟨k1, k2, k3, k4, k5⟩ := ih (drE c 2 (f a p).2).2 _ (by omega) hs
   have hl : (setC (f a p).1 p.length (drE c 2 (f a p).2).1).length = (f a p).1.length := List.length_set
   exact ⟨by omega, by rw [hm]; omega, by omega, by rw [hmi]; omega, k5⟩
  ·obtain ⟨k1, k2, k3, k4, k5⟩ := ih (f a p).2 _ (by omega) h5
   exact ⟨by omega, by rw [hm]; omega, by omega, by rw [hmi]; omega, k5⟩
def L4 : Nat → Nat
 | 0 => 1
 | d + 1 => 1 + 3 * L4 d
def A4 : Nat → Int
 | 0 => 105
 | d + 1 => 105 + 3 * (A4 d + 100)
theorem A4_pos : ∀ d, 0 ≤ A4 d
 | 0 => by simp [A4]
 | d + 1 => by have := A4_pos d; simp only [A4]; omega
theorem mk4_bd (c : List UInt8) : ∀ (d : Nat) (par a : Int) (p : List TStep), 0 ≤ a → (∀ s ∈ p, Sm s) → p.length + 1 ≤ (mk4 c d par a p).1.length ∧ (mk4 c d par a p).1.length ≤ p.length + L4 d ∧ a ≤ (mk4 c d par a p).2 ∧ (mk4 c d par a p).2 ≤ a + A4 d ∧ ∀ s ∈ (mk4 c d par a p).1, Sm s := by
 intro d
 induction d with
 | zero =>
  intro par a p ha hp
  have h1 := ki4_bd c false par a
  have h2 := st4_bd c (ki4 c false par a).1 par (ki4 c false par a).2
  have h3 := kd4_bd c (ki4 c false par a).1 (a := (st4 c (ki4 c false par a).1 par (ki4 c false par a).2).2) (by omega)
  simp only [mk4, List.length_append, List.length_singleton, L4, A4]
  exact ⟨by omega, by omega, by omega, by omega, sm_snoc hp h2.1⟩
 | succ d ih =>
  intro par a p ha hp
  obtain ⟨k, hk⟩ : ∃ k, k = ki4 c (decide (p.length < 14)) par a := ⟨_, rfl⟩
  have h1 := ki4_bd c (decide (p.length < 14)) par a
  rw [← hk] at h1
  obtain ⟨s, hs⟩ : ∃ s, s = st4 c k.1 par k.2 := ⟨_, rfl⟩
  have h2 := st4_bd c k.1 par k.2
  rw [← hs] at h2
  obtain ⟨n, hn⟩ : ∃ n, n = kd4 c k.1 s.2 := ⟨_, rfl⟩
  have h3 := kd4_bd c k.1 (a := s.2) (by omega)
  rw [← hn] at h3
  have h4 := lp4_bd c (fun a q => mk4 c d (p.length : Int) a q) (decide (k.1 = 3)) (L4 d) (A4 d) (A4_pos d) (fun a q ha hq => ih (p.length : Int) a q ha hq) n.1 n.2 (p ++ [s.1]) (by omega) (sm_snoc hp h2.1)
  have hmk : mk4 c (d + 1) par a p = lp4 c (fun a q => mk4 c d (p.length : Int) a q) (decide (k.1 = 3)) n.1 n.2 (p ++ [s.1]) := by simp only [mk4, hn, hs, hk]
  rw [hmk]
  simp only [List.length_append, List.length_singleton] at h4
  have hL : n.1 * L4 d ≤ 3 * L4 d := Nat.mul_le_mul_right _ h3.1
  have hAn : (n.1 : Int) * (A4 d + 100) ≤ 3 * (A4 d + 100) := Int.mul_le_mul_of_nonneg_right (by omega) (by have := A4_pos d; omega)
  simp only [L4, A4]
  exact ⟨by omega, by omega, by omega, by omega, h4.2.2.2.2⟩
theorem rt4_bd (c : List UInt8) : ∀ (n : Nat) (a : Int), 0 ≤ a → 1 ≤ (rt4 c n a).1.length ∧ (rt4 c n a).1.length ≤ 24 ∧ a ≤ (rt4 c n a).2 ∧ (rt4 c n a).2 ≤ a + n * 8101 ∧ ∀ s ∈ (rt4 c n a).1, Sm s := by
 intro n
 induction n with
 | zero => intro a ha; simp only [rt4]; refine ⟨by simp, by simp, by omega, by omega, fun s hs => ?_⟩; rw [List.mem_singleton.1 hs]; exact ⟨by simp, by simp, by simp⟩
 | succ n ih =>
  intro a ha
  have hb := nx_bd c (n := 2) ha
  have hd : (2 + nx c a 2).toNat = 2 ∨ (2 + nx c a 2).toNat = 3 := by omega
  have hm := mk4_bd c (2 + nx c a 2).toNat (-1) (a + 1) [] (by omega) (by intro s hs; cases hs)
  have hA : A4 (2 + nx c a 2).toNat ≤ 8100 := by rcases hd with h | h <;> rw [h] <;> decide
  simp only [List.length_nil] at hm
  simp only [rt4]
  split
  ·exact ⟨by omega, by assumption, by omega, by push_cast; omega, hm.2.2.2.2⟩
  ·obtain ⟨k1, k2, k3, k4, k5⟩ := ih (mk4 c (2 + nx c a 2).toNat (-1) (a + 1) []).2 (by omega)
   exact ⟨k1, k2, by omega, by push_cast; omega, k5⟩
theorem be4_bd (c : List UInt8) {a : Int} (ha : 0 ≤ a) : (be4 c a).1.length ≤ 25 ∧ a ≤ (be4 c a).2 ∧ (be4 c a).2 ≤ a + 162200 ∧ ∀ s ∈ (be4 c a).1, Sm s := by
 obtain ⟨h1, h2, h3, h4, h5⟩ := rt4_bd c 20 a ha
 have hb := be3_len c (a := (rt4 c 20 a).2 + 2) (by omega)
 have hx := sm_getD h5 (nx c (rt4 c 20 a).2 (rt4 c 20 a).1.length).toNat (z := st0) ⟨by decide, by decide, by decide⟩
 unfold be4
 simp only
 split
 ·refine ⟨by simp only [List.length_set]; omega, by simp only; omega, by simp only; omega, sm_set h5 _ ⟨hx.1, hx.2.1, hx.2.2⟩⟩
 split
 ·refine ⟨by simp only [List.length_set]; omega, by simp only; omega, by simp only; omega, sm_set h5 _ ⟨hx.1, hx.2.1, hx.2.2⟩⟩
 split
 ·refine ⟨by simp only [List.length_set]; omega, by simp only; omega, by simp only; omega, sm_set h5 _ ⟨hx.1, hx.2.1, hx.2.2⟩⟩
 split
 ·refine ⟨by simp only [List.length_set]; omega, by simp only; omega, by simp only; omega, sm_set h5 _ ⟨hx.1, by simp only; omega, hx.2.2⟩⟩
 split
 ·refine ⟨by simp only [List.length_set]; omega, by simp only; omega, by simp only; omega, sm_set h5 _ ⟨hx.1, hx.2.1, by simp only; omega⟩⟩
 split
 ·refine ⟨by simp only [List.length_set]; omega, by simp only; omega, by simp only; omega, sm_set h5 _ ⟨?_, hx.2.1, hx.2.2⟩⟩
  simp only
  rw [List.getD_eq_getElem?_getD]
  cases h9 : ([[], [65], [98]] : List (List UInt8))[(nx c ((rt4 c 20 a).2 + 2) 3).toNat]? with
  | none => simp
  | some y =>
   have h8 := List.mem_of_getElem? h9
   have : ∀ y ∈ ([[], [65], [98]] : List (List UInt8)), y.length ≤ 4 := by decide
   exact this y h8
 split
 ·refine ⟨by simp, by simp only; omega, by simp only; omega, fun s hs => ?_⟩
  rw [(List.mem_replicate.1 hs).2]; exact ⟨by decide, by decide, by decide⟩
 split
 ·exact ⟨by rw [List.length_take]; omega, by simp only; omega, by simp only; omega, fun s hs => h5 s (List.mem_of_mem_take hs)⟩
 ·exact ⟨by simp only; omega, by simp only; omega, by simp only; omega, h5⟩
def dNp (c : List UInt8) : List TStep := (be4 c 0).1
def dNs (c : List UInt8) : Int := nx c (be4 c 0).2 ((dNp c).length + 2) - 1
theorem dNp_ok (c : List UInt8) : (dNp c).length ≤ 25 ∧ ∀ e ∈ dNp c, e.gok := by
 have h := be4_bd c (a := 0) (by omega)
 exact ⟨h.1, fun e he => (h.2.2.2 e he).gok⟩
end Go.AM
set_option maxHeartbeats 600000
set_option maxRecDepth 100000
namespace Go.AM
open Go.Proofs
end Go.AM
namespace Go.AM
open Go.Proofs
end Go.AM
namespace Go.AM
open Go.Proofs
theorem dc_impl_codeIf (b : Bool) (n : Int) : DC Try.prog 14 [.bool b, .int .i64 n] (.int .i64 (if b then n else 0)) [] := by
 refine DC.intro tiOk Try.func14 rfl rfl rfl rfl rfl rfl rfl rfl [] ?_
 refine rgA [0,1] ?_
 refine AW.seq ?_
 refine rgA [1,5] ?_
 refine AW.cond rfl ?_ ?_
 ·intro hc; try simp at hc
  all_goals (
 refine rgA [4] ?_
 refine rt ?_
 simp [go_sem, *, Try.results14])
 ·intro hc; try simp at hc
  all_goals (
 refine AW.skipN (fun _ h => h) ?_
 refine rgA [4] ?_
 refine rt ?_
 simp [go_sem, *, Try.results14])
theorem dc_impl_inRange (n lo hi : Int) : DC Try.prog 24 [.int .i64 n, .int .i64 lo, .int .i64 hi] (.bool (inR n lo hi)) [] := by
 refine DC.intro tiOk Try.func24 rfl rfl rfl rfl rfl rfl rfl rfl [] ?_
 refine rgA [0,1,2] ?_
 refine rg [6] ?_
 intro k hk; simp +contextual -dsimp (maxSteps := 2000000) [go_sem, -decide_eq_true_eq, -decide_eq_false_iff_not]
 repeat' first | apply And.intro | refine hk _ ?_ | (intro hg; try simp only [decide_eq_true_eq, decide_eq_false_iff_not] at hg) | omega | exact True.intro
 all_goals clear hk k
 all_goals (
 refine rt ?_
 simp [go_sem, *, inR, Try.results24, -decide_eq_true_eq, -decide_eq_false_iff_not])
theorem dc_spec_l1In (n lo hi : Int) : DC Try.prog 19 [.int .i64 n, .int .i64 lo, .int .i64 hi] (.bool (inR n lo hi)) [] := by
 refine DC.intro tiOk Try.func19 rfl rfl rfl rfl rfl rfl rfl rfl [] ?_
 refine rgA [0,1,2] ?_
 refine rg [6] ?_
 intro k hk; simp +contextual -dsimp (maxSteps := 2000000) [go_sem, -decide_eq_true_eq, -decide_eq_false_iff_not]
 repeat' first | apply And.intro | refine hk _ ?_ | (intro hg; try simp only [decide_eq_true_eq, decide_eq_false_iff_not] at hg) | omega | exact True.intro
 all_goals clear hk k
 all_goals (
 refine rt ?_
 simp [go_sem, *, inR, Try.results19, -decide_eq_true_eq, -decide_eq_false_iff_not])
theorem dc_impl_areAll (f : Nat) (p : UInt8 → Bool) (hf : ∀ c : UInt8, DC Try.prog f [.int .u8 c.toNat] (.bool (p c)) []) (s : List UInt8) (hs : s.length ≤ 9223372036854775807) : DC Try.prog 63 [.str s, .fn f []] (.bool (s.all p)) [] := by
 refine DC.intro tiOk Try.func63 rfl rfl rfl rfl rfl rfl rfl rfl [] ?_
 refine rgA [0,1] ?_
 refine AW.seq ?_
 refine rgA [0,1,7,8] ?_
 refine AW.block ?_
 refine AW.loopI (fun i : Nat => ⟨18, [(0, .str s), (1, .fn f []), (7, .int .i64 s.length), (8, .int .i64 i)], []⟩) (fun i => i ≤ s.length ∧ (s.take i).all p = true) (fun i => s.length - i) (0) (by simp) (Less.of rfl (by simp [go_sem]) (by simp [go_sem])) ?_
 rintro i ⟨hi, hall⟩
 refine rgA [0,1,7,8,9] ?_
 refine AW.seq ?_
 refine AW.cond rfl ?_ ?_
 ·intro hc; try simp at hc
  all_goals (
 have hlt : i < s.length := by assumption
 obtain ⟨x, hx⟩ := at_some hlt
 refine AW.skipN (fun _ h => h) ?_
 refine AW.seq ?_
 refine AW.block ?_
 refine rg [0,1,5,7,8] ?_
 intro k hk; simp -dsimp [go_sem, -decide_eq_true_eq, -decide_eq_false_iff_not, hx]
 repeat' first | apply And.intro | refine hk _ ?_ | intro hg | omega | exact True.intro
 all_goals clear hk k
 refine rg [0,1,7,8,16] ?_
 intro k hk; simp -dsimp (maxSteps := 2000000) [go_sem, -decide_eq_true_eq, -decide_eq_false_iff_not, hx]
 repeat' first | apply And.intro | refine hk _ ?_ | intro hg | (refine CallK.intro (hf x) ?_; simp -dsimp (maxSteps := 2000000) [go_sem, -decide_eq_true_eq, -decide_eq_false_iff_not, hx]) | omega | exact True.intro
 all_goals clear hk k
 refine AW.cond rfl ?_ ?_
 ·intro hc; try simp at hc
  all_goals (
 refine rg [4] ?_
 intro k hk; simp -dsimp [go_sem, -decide_eq_true_eq, -decide_eq_false_iff_not, hx]
 repeat' first | apply And.intro | refine hk _ ?_ | intro hg | omega | exact True.intro
 all_goals clear hk k
 refine rt ?_
 first | (have hr := all_not (p := p) hx (by assumption); simp [go_sem, Try.results63, hr]) | (have hr := all_end (show s.length ≤ i by omega) hall; simp [go_sem, Try.results63, hr]))
 ·intro hc; try simp at hc
  all_goals (
 refine AW.skipN (fun _ h => h) ?_
 refine rgK ?_
 intro k hk; simp -dsimp [go_sem, -decide_eq_true_eq, -decide_eq_false_iff_not, hx]
 repeat' first | apply And.intro | refine hk _ ?_ | intro hg | omega | exact True.intro
 all_goals clear hk k
 show ∃ _, _
 have hw := wrapi hlt hs
 refine ⟨i + 1, ⟨by omega, ?_⟩, by omega, Less.of rfl (by simp [go_sem, hw]) (by simp [go_sem])⟩
 rw [all_take hx hall]; assumption))
 ·intro hc; try simp at hc
  all_goals (
 refine AW.exitN (fun _ h => h) ?_
 refine rgA [4] ?_
 refine rt ?_
 first | (have hr := all_not (p := p) hx (by assumption); simp [go_sem, Try.results63, hr]) | (have hr := all_end (show s.length ≤ i by omega) hall; simp [go_sem, Try.results63, hr]))
theorem dc_impl_firstCode (l : List Int) (hl : l.length ≤ 9223372036854775807) : DC Try.prog 12 [.isl 1 (l.map I1)] (.int .i64 (firstC l)) [] := by
 refine DC.intro tiOk Try.func12 rfl rfl rfl rfl rfl rfl rfl rfl [] ?_
 refine rgA [0] ?_
 refine AW.seq ?_
 refine rgA [5,6,7] ?_
 refine AW.block ?_
 refine AW.loopI (fun i : Nat => ⟨15, [(5, .isl 1 (l.map I1)), (6, .int .i64 l.length), (7, .int .i64 i)], []⟩) (fun i => i ≤ l.length ∧ firstC l = firstC (l.drop i)) (fun i => l.length - i) (0) (by simp) (Less.of rfl (by simp [go_sem]) (by simp [go_sem])) ?_
 rintro i ⟨hi, hinv⟩
 refine rgA [5,6,7,8] ?_
 refine AW.seq ?_
 refine AW.cond rfl ?_ ?_
 ·intro hc; try simp at hc
  all_goals (
 have hlt : i < l.length := by assumption
 obtain ⟨x, hx⟩ := at_some hlt
 refine AW.skipN (fun _ h => h) ?_
 refine AW.seq ?_
 refine AW.block ?_
 refine rg [4,5,6,7] ?_
 intro k hk; simp -dsimp [go_sem, -decide_eq_true_eq, -decide_eq_false_iff_not, hx]
 repeat' first | apply And.intro | refine hk _ ?_ | intro hg | omega | exact True.intro
 all_goals clear hk k
 refine rg [4,5,6,7,12] ?_
 intro k hk; simp -dsimp [go_sem, -decide_eq_true_eq, -decide_eq_false_iff_not, hx]
 repeat' first | apply And.intro | refine hk _ ?_ | intro hg | omega | exact True.intro
 all_goals clear hk k
 refine AW.cond rfl ?_ ?_
 ·intro hc; try simp at hc
  all_goals (
 refine rg [2] ?_
 intro k hk; simp -dsimp [go_sem, -decide_eq_true_eq, -decide_eq_false_iff_not, hx]
 repeat' first | apply And.intro | refine hk _ ?_ | intro hg | omega | exact True.intro
 all_goals clear hk k
 refine rt ?_
 first | (simp [go_sem, Try.results12, hinv, firstC_step hx, *]; done) | (simp [go_sem, Try.results12, hinv, firstC_end (show l.length ≤ i by omega)]))
 ·intro hc; try simp at hc
  all_goals (
 refine AW.skipN (fun _ h => h) ?_
 refine rgK ?_
 intro k hk; simp -dsimp [go_sem, -decide_eq_true_eq, -decide_eq_false_iff_not, hx]
 repeat' first | apply And.intro | refine hk _ ?_ | intro hg | omega | exact True.intro
 all_goals clear hk k
 show ∃ _, _
 have hw := wrapi hlt hl
 refine ⟨i + 1, ⟨by omega, ?_⟩, by omega, Less.of rfl (by simp [go_sem, hw]) (by simp [go_sem])⟩
 rw [hinv, firstC_step hx, if_pos (by assumption)]))
 ·intro hc; try simp at hc
  all_goals (
 refine AW.exitN (fun _ h => h) ?_
 refine rgA [2] ?_
 refine rt ?_
 first | (simp [go_sem, Try.results12, hinv, firstC_step hx, *]; done) | (simp [go_sem, Try.results12, hinv, firstC_end (show l.length ≤ i by omega)]))
end Go.AM
namespace Go.AM
open Go.Proofs
theorem dc_laws_lwBig (c : List UInt8) (hcl : c.length ≤ 9223372036854775807) : DC Try.prog 4 [.isl 1 (c.map B1)] (.bool (decide (1048576 < c.length))) [] := by
 refine DC.intro tiOk Try.func4 rfl rfl rfl rfl rfl rfl rfl rfl [] ?_
 refine rgA [0] ?_
 refine rgA [2] ?_
 refine rt ?_
 simp [go_sem, Try.results4] <;> omega
theorem dc_spec_l1Source (c : List UInt8) : DC Try.prog 9 [.isl 1 (c.map B1)] (.op [.isl 1 (c.map B1), .int .i64 0]) [] := by
 refine DC.intro tiOk Try.func9 rfl rfl rfl rfl rfl rfl rfl rfl [1000] ?_
 refine rgA [0] ?_
 refine rgA [2] ?_
 refine rt ?_
 simp [go_sem, Try.results9]
theorem dc_spec_l1Next (c : List UInt8) (hcl : c.length ≤ 1048576) (a : Int) (ha : 0 ≤ a ∧ a ≤ 10000000) (n : Int) (hn : n ≤ 1000000) : DC Try.prog 11 [.op [.isl 1 (c.map B1), .int .i64 a], .int .i64 n] (.int .i64 (nx c a n)) [(0, .op [.isl 1 (c.map B1), .int .i64 (a + 1)])] := by
 have hw1 : IntKind.wrap .i64 (a + 1) = a + 1 := wrap64 (by omega) (by omega)
 have hw2 : IntKind.wrap .i64 (a + 1 - 1) = a := (wrap64 (by omega) (by omega)).trans (by omega)
 have hw2' : IntKind.wrap .i64 a = a := wrap64 (by omega) (by omega)
 have hac : a + 1 - 1 = a := by omega
 have hw3 : IntKind.wrap .i64 (a * 7) = a * 7 := wrap64 (by omega) (by omega)
 refine DC.intro tiOk Try.func11 rfl rfl rfl rfl rfl rfl rfl (by simp [noW, noWo]) [] ?_
 refine rg [0,1] ?_
 intro k hk; simp -dsimp [go_sem, -decide_eq_true_eq, -decide_eq_false_iff_not, hw1, hw2, hw2', hw3, hac]
 repeat' first | apply And.intro | refine hk _ ?_ | intro hg | omega | exact True.intro | omega | fail
 all_goals clear hk k
 refine rg [0,1] ?_
 intro k hk; simp -dsimp (maxSteps := 2000000) [go_sem, -decide_eq_true_eq, -decide_eq_false_iff_not, hw1, hw2, hw2', hw3, hac]
 repeat' first | apply And.intro | refine hk _ ?_ | intro hg | omega | exact True.intro | omega | fail
 all_goals clear hk k
 refine AW.seq ?_
 refine rg [0,1,17] ?_
 intro k hk; simp -dsimp [go_sem, -decide_eq_true_eq, -decide_eq_false_iff_not, hw1, hw2, hw2', hw3, hac]
 repeat' first | apply And.intro | refine hk _ ?_ | intro hg | omega | exact True.intro | omega | fail
 all_goals clear hk k
 refine AW.cond rfl ?_ ?_
 ·intro hc; try simp at hc
  all_goals (
 refine rg [0,4] ?_
 intro k hk; simp -dsimp [go_sem, -decide_eq_true_eq, -decide_eq_false_iff_not, hw1, hw2, hw2', hw3, hac]
 repeat' first | apply And.intro | refine hk _ ?_ | intro hg | omega | exact True.intro | omega | fail
 all_goals clear hk k
 refine rt ?_
 first | (simp [go_sem, Try.results11, nx, hc]; done) | (simp [go_sem, Try.results11, nx, hn1, hk0]; done) | (simp [go_sem, Try.results11, nx, hn1, hcn, h200, hx, hy]; done) | (have h200 : ¬ 200 < n := (by omega); simp [go_sem, Try.results11, nx, hn1, hcn, h200, hx]))
 ·intro hc; try simp at hc
  all_goals (
 refine AW.skipN (fun _ h => h) ?_
 have hn1 : ¬ n < 1 := by simpa using hc
 have hwt : ∀ v : Int, 0 ≤ v → IntKind.wrap .i64 (v.tmod n) = v.tmod n := fun v hv => by have h8 := Int.tmod_nonneg n hv; have h9 := Int.tmod_lt_of_pos v (show 0 < n by omega); exact wrap64 (by omega) (by omega)
 refine rg [0,1,5] ?_
 intro k hk; simp -dsimp [go_sem, -decide_eq_true_eq, -decide_eq_false_iff_not, hw1, hw2, hw2', hw3, hac]
 repeat' first | apply And.intro | refine hk _ ?_ | intro hg | omega | exact True.intro | omega | fail
 all_goals clear hk k
 refine rg [0,1,5,6] ?_
 intro k hk; simp -dsimp [go_sem, -decide_eq_true_eq, -decide_eq_false_iff_not, hw1, hw2, hw2', hw3, hac]
 repeat' first | apply And.intro | refine hk _ ?_ | intro hg | omega | exact True.intro | omega | fail
 all_goals clear hk k
 refine AW.seq ?_
 refine rg [0,1,5,6,29] ?_
 intro k hk; simp -dsimp [go_sem, -decide_eq_true_eq, -decide_eq_false_iff_not, hw1, hw2, hw2', hw3, hac]
 repeat' first | apply And.intro | refine hk _ ?_ | intro hg | omega | exact True.intro | omega | fail
 all_goals clear hk k
 refine AW.cond rfl ?_ ?_
 ·intro hc; try simp at hc
  all_goals (
 have hk0 : (c.length : Int) = 0 := by simpa using hc
 have hwt2 := hwt (a * 7) (by omega)
 refine rg [0,4] ?_
 intro k hk; simp -dsimp [go_sem, -decide_eq_true_eq, -decide_eq_false_iff_not, hw1, hw2, hw2', hw3, hac, hwt2]
 repeat' first | apply And.intro | refine hk _ ?_ | intro hg | omega | exact True.intro | omega | fail
 all_goals clear hk k
 refine rt ?_
 first | (simp [go_sem, Try.results11, nx, hc]; done) | (simp [go_sem, Try.results11, nx, hn1, hk0]; done) | (simp [go_sem, Try.results11, nx, hn1, hcn, h200, hx, hy]; done) | (have h200 : ¬ 200 < n := (by omega); simp [go_sem, Try.results11, nx, hn1, hcn, h200, hx]))
 ·intro hc; try simp at hc
  all_goals (
 refine AW.skipN (fun _ h => h) ?_
 have hk0 : ¬ ((c.length : Int) = 0) := by simpa using hc
 have hkp : 0 < c.length := by omega
 have hcn : ¬ c = [] := by rintro rfl; simp at hkp
 have hm0 : 0 ≤ a.tmod c.length := Int.tmod_nonneg _ ha.1
 have hm1 : a.tmod c.length < c.length := Int.tmod_lt_of_pos _ (by omega)
 have hd0 : 0 ≤ a.tdiv c.length := Int.tdiv_nonneg ha.1 (by omega)
 have hd1 : a.tdiv c.length ≤ a := by rw [Int.tdiv_eq_ediv_of_nonneg ha.1]; exact Int.ediv_le_self _ ha.1
 obtain ⟨x, hx⟩ := at_some (l := c) (i := (a.tmod c.length).toNat) (by omega)
 have hx3 : ∀ h, c[(a.tmod c.length).toNat]'h = x := fun h => by have h9 := hx; rw [List.getElem?_eq_getElem h] at h9; exact Option.some.inj h9
 have hxb := x.toNat_lt
 have hgx : c.getD (a.tmod c.length).toNat 0 = x := by rw [List.getD_eq_getElem?_getD, hx]; rfl
 have hwr : IntKind.wrap .i64 (a.tmod c.length) = a.tmod c.length := wrap64 (by omega) (by omega)
 have hwd : IntKind.wrap .i64 (a.tdiv c.length) = a.tdiv c.length := wrap64 (by omega) (by omega)
 have hwm : IntKind.wrap .i64 (a.tdiv c.length * 37) = a.tdiv c.length * 37 := wrap64 (by omega) (by omega)
 have hwv : IntKind.wrap .i64 ((x.toNat : Int) + a.tdiv c.length * 37) = (x.toNat : Int) + a.tdiv c.length * 37 := wrap64 (by omega) (by omega)
 refine rg [0,1,5,6,7] ?_
 intro k hk; simp -dsimp (maxSteps := 2000000) [go_sem, -decide_eq_true_eq, -decide_eq_false_iff_not, hw1, hw2, hw2', hw3, hac, hcn, hx, hx3, hm0, hm1, hwr, hwd, hwm, hwv]
 repeat' first | ((refine Chk.keys ?_); simp only [go_sem, List.map_cons, List.map_nil, List.flatMap_cons, List.flatMap_nil, List.flatMap_append, List.append_nil, List.nil_append, List.cons_append]; decide +kernel) | apply And.intro | refine hk _ ?_ | intro hg | omega | exact True.intro | omega | fail
 all_goals clear hk k
 refine AW.seq ?_
 refine rg [0,1,5,6,7,50] ?_
 intro k hk; simp -dsimp [go_sem, -decide_eq_true_eq, -decide_eq_false_iff_not, hw1, hw2, hw2', hw3, hac]
 repeat' first | apply And.intro | refine hk _ ?_ | intro hg | omega | exact True.intro | omega | fail
 all_goals clear hk k
 refine AW.cond rfl ?_ ?_
 ·intro hc; try simp at hc
  all_goals (
 have h200 : 200 < n := by simpa using hc
 have hq0 : 0 ≤ (a + 1).tmod c.length := Int.tmod_nonneg _ (by omega)
 have hq1 : (a + 1).tmod c.length < c.length := Int.tmod_lt_of_pos _ (by omega)
 obtain ⟨y, hy⟩ := at_some (l := c) (i := ((a + 1).tmod c.length).toNat) (by omega)
 have hy3 : ∀ h, c[((a + 1).tmod c.length).toNat]'h = y := fun h => by have h9 := hy; rw [List.getElem?_eq_getElem h] at h9; exact Option.some.inj h9
 have hyb := y.toNat_lt
 have hgy : c.getD ((a + 1).tmod c.length).toNat 0 = y := by rw [List.getD_eq_getElem?_getD, hy]; rfl
 have hwr2 : IntKind.wrap .i64 ((a + 1).tmod c.length) = (a + 1).tmod c.length := wrap64 (by omega) (by omega)
 have hw5 : IntKind.wrap .i64 (((x.toNat : Int) + a.tdiv c.length * 37) * 251) = ((x.toNat : Int) + a.tdiv c.length * 37) * 251 := wrap64 (by omega) (by omega)
 have hw6 : IntKind.wrap .i64 ((y.toNat : Int) * 13) = (y.toNat : Int) * 13 := wrap64 (by omega) (by omega)
 have hw7 : IntKind.wrap .i64 (((x.toNat : Int) + a.tdiv c.length * 37) * 251 + (y.toNat : Int) * 13) = ((x.toNat : Int) + a.tdiv c.length * 37) * 251 + (y.toNat : Int) * 13 := wrap64 (by omega) (by omega)
 have hw8 : IntKind.wrap .i64 (((x.toNat : Int) + a.tdiv c.length * 37) * 251 + (y.toNat : Int) * 13 + a) = ((x.toNat : Int) + a.tdiv c.length * 37) * 251 + (y.toNat : Int) * 13 + a := wrap64 (by omega) (by omega)
 have hwt2 := hwt (((x.toNat : Int) + a.tdiv c.length * 37) * 251 + (y.toNat : Int) * 13 + a) (by omega)
 refine rgN [0,1,7] (fun _ h => h) ?_
 intro k hk; simp -dsimp (maxSteps := 2000000) [go_sem, -decide_eq_true_eq, -decide_eq_false_iff_not, hw1, hw2, hw2', hw3, hac, hcn, hy, hy3, hq0, hq1, hwr2, hw5, hw6, hw7, hw8]
 repeat' first | ((refine Chk.keys ?_); simp only [go_sem, List.map_cons, List.map_nil, List.flatMap_cons, List.flatMap_nil, List.flatMap_append, List.append_nil, List.nil_append, List.cons_append]; decide +kernel) | apply And.intro | refine hk _ ?_ | intro hg | omega | exact True.intro | omega | fail
 all_goals clear hk k
 have hwt3 := hwt ((x.toNat : Int) + a.tdiv c.length * 37) (by omega)
 refine rg [0,4] ?_
 intro k hk; simp -dsimp [go_sem, -decide_eq_true_eq, -decide_eq_false_iff_not, hw1, hw2, hw2', hw3, hac, hwt3]
 repeat' first | apply And.intro | refine hk _ ?_ | intro hg | omega | exact True.intro | omega | fail
 all_goals clear hk k
 refine rt ?_
 first | (simp [go_sem, Try.results11, nx, hc]; done) | (simp [go_sem, Try.results11, nx, hn1, hk0]; done) | (simp [go_sem, Try.results11, nx, hn1, hcn, h200, hx, hy]; done) | (have h200 : ¬ 200 < n := (by omega); simp [go_sem, Try.results11, nx, hn1, hcn, h200, hx]))
 ·intro hc; try simp at hc
  all_goals (
 refine AW.skipN (fun _ h => h) ?_
 have hwt3 := hwt ((x.toNat : Int) + a.tdiv c.length * 37) (by omega)
 refine rg [0,4] ?_
 intro k hk; simp -dsimp [go_sem, -decide_eq_true_eq, -decide_eq_false_iff_not, hw1, hw2, hw2', hw3, hac, hwt3]
 repeat' first | apply And.intro | refine hk _ ?_ | intro hg | omega | exact True.intro | omega | fail
 all_goals clear hk k
 refine rt ?_
 first | (simp [go_sem, Try.results11, nx, hc]; done) | (simp [go_sem, Try.results11, nx, hn1, hk0]; done) | (simp [go_sem, Try.results11, nx, hn1, hcn, h200, hx, hy]; done) | (have h200 : ¬ 200 < n := (by omega); simp [go_sem, Try.results11, nx, hn1, hcn, h200, hx]))))
theorem dc_spec_l1Chance (c : List UInt8) (hcl : c.length ≤ 1048576) (a : Int) (ha : 0 ≤ a ∧ a ≤ 9000000) (n : Int) (hn : n ≤ 1000000) : DC Try.prog 82 [.op [.isl 1 (c.map B1), .int .i64 a], .int .i64 n] (.bool (decide (nx c a n = 0))) [(0, .op [.isl 1 (c.map B1), .int .i64 (a + 1)])] := by
 refine DC.intro tiOk Try.func82 rfl rfl rfl rfl rfl rfl rfl (by simp [noW, noWo]) [] ?_
 refine rgA [0,1] ?_
 refine AW.reg tiOk (fun _ => [0]) [0,4] ?_
 intro k hk; simp -dsimp (maxSteps := 2000000) [go_sem, -decide_eq_true_eq, -decide_eq_false_iff_not]
 repeat' first | apply And.intro | refine hk _ ?_ | intro hg | (refine CallK.intro (dc_spec_l1Next c hcl a (by omega) n (by omega)) ?_; simp -dsimp (maxSteps := 2000000) [go_sem, -decide_eq_true_eq, -decide_eq_false_iff_not]) | omega | exact True.intro
 all_goals clear hk k
 refine rt ?_
 simp [go_sem, Try.results82]
theorem dc_spec_l1Pick (c : List UInt8) (hcl : c.length ≤ 1048576) (a : Int) (ha : 0 ≤ a ∧ a ≤ 9000000) (l : List Int) (hl : 0 < l.length ∧ l.length ≤ 1000) : DC Try.prog 22 [.op [.isl 1 (c.map B1), .int .i64 a], .isl 1 (l.map I1)] (.int .i64 (l.getD (nx c a l.length).toNat 0)) [(0, .op [.isl 1 (c.map B1), .int .i64 (a + 1)])] := by
 refine DC.intro tiOk Try.func22 rfl rfl rfl rfl rfl rfl rfl (by simp [noW, noWo]) [] ?_
 refine rg [0,1] ?_
 intro k hk; simp -dsimp [go_sem, -decide_eq_true_eq, -decide_eq_false_iff_not]
 repeat' first | apply And.intro | refine hk _ ?_ | intro hg | omega | exact True.intro | omega | fail
 all_goals clear hk k
 have hb := nx_bd c (n := (l.length : Int)) ha.1
 have hb1 := hb.2 (by omega)
 obtain ⟨x, hx⟩ := at_some (l := l) (i := (nx c a l.length).toNat) (by omega)
 refine AW.reg tiOk (fun i => if i = 4 then [0] else []) [0,4] ?_
 intro k hk; simp -dsimp (maxSteps := 2000000) [go_sem, -decide_eq_true_eq, -decide_eq_false_iff_not, hx, hb.1, hb1]
 repeat' first | apply And.intro | refine hk _ ?_ | intro hg | (refine CallK.intro (dc_spec_l1Next c hcl a (by omega) l.length (by omega)) ?_; simp -dsimp (maxSteps := 2000000) [go_sem, -decide_eq_true_eq, -decide_eq_false_iff_not, hx, hb.1, hb1]) | omega | exact True.intro | omega | fail
 all_goals clear hk k
 refine rt ?_
 simp [go_sem, Try.results22, List.getD_eq_getElem?_getD, hx]; try (rw [List.getElem?_eq_getElem (by omega)] at hx; simpa using hx)
theorem dc_spec_l1Pick_o (c : List UInt8) (hcl : c.length ≤ 1048576) (a : Int) (ha : 0 ≤ a ∧ a ≤ 9000000) (l : List Int) (hl : 0 < l.length ∧ l.length ≤ 1000) : DC Try.prog 22 [.op [.isl 1 (c.map B1), .int .i64 a], .osl 1 (l.map I1)] (.int .i64 (l.getD (nx c a l.length).toNat 0)) [(0, .op [.isl 1 (c.map B1), .int .i64 (a + 1)])] := by
 refine DC.intro tiOk Try.func22 rfl rfl rfl rfl rfl rfl rfl (by simp [noW, noWo]) [] ?_
 refine rg [0,1] ?_
 intro k hk; simp -dsimp [go_sem, -decide_eq_true_eq, -decide_eq_false_iff_not]
 repeat' first | apply And.intro | refine hk _ ?_ | intro hg | omega | exact True.intro | omega | fail
 all_goals clear hk k
 have hb := nx_bd c (n := (l.length : Int)) ha.1
 have hb1 := hb.2 (by omega)
 obtain ⟨x, hx⟩ := at_some (l := l) (i := (nx c a l.length).toNat) (by omega)
 refine AW.reg tiOk (fun i => if i = 4 then [0] else []) [0,4] ?_
 intro k hk; simp -dsimp (maxSteps := 2000000) [go_sem, -decide_eq_true_eq, -decide_eq_false_iff_not, hx, hb.1, hb1]
 repeat' first | apply And.intro | refine hk _ ?_ | intro hg | (refine CallK.intro (dc_spec_l1Next c hcl a (by omega) l.length (by omega)) ?_; simp -dsimp (maxSteps := 2000000) [go_sem, -decide_eq_true_eq, -decide_eq_false_iff_not, hx, hb.1, hb1]) | omega | exact True.intro | omega | fail
 all_goals clear hk k
 refine rt ?_
 simp [go_sem, Try.results22, List.getD_eq_getElem?_getD, hx]; try (rw [List.getElem?_eq_getElem (by omega)] at hx; simpa using hx)
end Go.AM
namespace Go.AM
open Go.Proofs
theorem dc_spec_l1Max_p (d : Nat) (hd : d ≤ 1000) : DC Try.prog 83 [.int .i64 0, .int .i64 (d : Nat)] (.int .i64 (d : Nat)) [] := by
 refine DC.intro tiOk Try.func83 rfl rfl rfl rfl rfl rfl rfl rfl [] ?_
 refine rgA [0,1] ?_
 refine AW.seq ?_
 refine rgA [0,1,7] ?_
 refine AW.cond rfl ?_ ?_
 ·intro hc; try simp at hc
  all_goals (
 refine rgA [4] ?_
 refine rt ?_
 first | (simp [go_sem, Try.results83]; done) | (have h0 : d = 0 := (by omega); subst h0; simp [go_sem, Try.results83]))
 ·intro hc; try simp at hc
  all_goals (
 refine AW.skipN (fun _ h => h) ?_
 refine rgA [4] ?_
 refine rt ?_
 first | (simp [go_sem, Try.results83]; done) | (have h0 : d = 0 := (by omega); subst h0; simp [go_sem, Try.results83]))
theorem dc_spec_l1Word (c : List UInt8) (hcl : c.length ≤ 1048576) (a : Int) (ha : 0 ≤ a ∧ a ≤ 9000000) : DC Try.prog 61 [.op [.isl 1 (c.map B1), .int .i64 a]] (.str (wdD c a)) [(0, .op [.isl 1 (c.map B1), .int .i64 (a + 1)])] := by
 refine DC.intro tiOk Try.func61 rfl rfl rfl rfl rfl rfl rfl (by simp [noW, noWo]) [] ?_
 refine rgA [0] ?_
 have hb := nx_bd c (n := 5) ha.1
 rcases (show nx c a 5 = 0 ∨ nx c a 5 = 1 ∨ nx c a 5 = 2 ∨ nx c a 5 = 3 ∨ nx c a 5 = 4 by omega) with h6 | h6 | h6 | h6 | h6
 all_goals (
 refine AW.reg tiOk (fun i => if i = 2 then [0] else []) [0,2] ?_
 intro k hk; simp -dsimp (maxSteps := 2000000) [go_sem, -decide_eq_true_eq, -decide_eq_false_iff_not, h6]
 repeat' first | apply And.intro | refine hk _ ?_ | intro hg | (refine CallK.intro (dc_spec_l1Next c hcl a (by omega) 5 (by omega)) ?_; simp -dsimp (maxSteps := 2000000) [go_sem, -decide_eq_true_eq, -decide_eq_false_iff_not, h6]) | omega | exact True.intro
 all_goals clear hk k
 refine rt ?_
 simp [go_sem, Try.results61, h6, wdD, wdL])
end Go.AM
