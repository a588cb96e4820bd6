/- Plain lemmas: what is copied. -/
import Derived.Test.YtefkpiameojpoaaPj
import Derived.Test.YtefkpiameojpoaaPk
set_option linter.unusedVariables false
set_option linter.unusedSimpArgs false
namespace Go.AM
def LB (x : List UInt8) : List AV := [.isl 1 (x.map B1)]
@[go_sem] theorem LB_eq (x : List UInt8) : LB x = [.isl 1 (x.map B1)] := rfl
theorem LB_tree (a) : ∀ x ∈ LB a, x.tree = true := by simp [LB, go_sem]
@[go_sem ↓ high] theorem LB_treeL (l : List (List UInt8)) : (∀ c ∈ l.map LB, ∀ x ∈ c, AV.tree x = true) ↔ True := maptree LB_tree l
@[go_sem] theorem len_replicate {α : Type} (n : Nat) (x : α) : (List.replicate n x).length = n := List.length_replicate
def cat (l : List (List UInt8)) : List UInt8 := l.flatten
theorem flat_step {l : List (List UInt8)} {i : Nat} {x : List UInt8} (h : l[i]? = some x) : cat (l.take (i + 1)) = cat (l.take i) ++ x := by
  unfold cat; rw [List.take_add_one, h]; simp
theorem flat_le (l : List (List UInt8)) (i : Nat) : (cat (l.take i)).length ≤ (cat l).length := by
  unfold cat
  conv => rhs; rw [← List.take_append_drop i l]
  rw [List.flatten_append, List.length_append]; omega
theorem flat_stepL {l : List (List UInt8)} {i : Nat} {x : List UInt8} (h : l[i]? = some x) : (cat (l.take i)).length + x.length ≤ (cat l).length := by
  have := flat_le l (i + 1)
  rw [flat_step h, List.length_append] at this; exact this
theorem flat_end {l : List (List UInt8)} {i : Nat} (h : l.length ≤ i) : cat (l.take i) = cat l := by rw [List.take_of_length_le h]
theorem flat_nil {l : List (List UInt8)} {i : Nat} {x : List UInt8} (h : l[i]? = some x) (h0 : (cat l).length = 0) : x = [] := by
  have := flat_stepL h
  exact List.eq_nil_of_length_eq_zero (by omega)
@[go_sem] theorem cat_nil : cat [] = [] := rfl
@[go_sem] theorem cat_r (a : List UInt8) : cat [a, []] = a := by simp [cat]
@[go_sem] theorem cat_l (a : List UInt8) : cat [[], a] = a := by simp [cat]
theorem cat_two (a b : List UInt8) : cat [a, b] = a ++ b := by simp [cat]
theorem rd_app : ∀ (n : Nat) (a b : List UInt8), a.length ≤ n → (rd a).2 = a.length → rd (a ++ b) = ((rd a).1 ++ (rd b).1, a.length + (rd b).2) := by
  intro n
  induction n with
  | zero =>
    intro a b h _
    have : a = [] := List.eq_nil_of_length_eq_zero (by omega)
    subst this
    rw [rd_no isL_nil]; simp
  | succ n ih =>
    intro a b h hw
    by_cases hl : isL a = true
    · have hb := isL_bd hl
      rw [rd_yes hl] at hw ⊢
      have e0 : n0 (a ++ b) = n0 a := by
        cases a with
        | nil => simp at hb
        | cons x r => rfl
      have e1 : (a ++ b).take (n0 a + 3) = a.take (n0 a + 3) := List.take_append_of_le_length hb.1
      have e2 : lnT (a ++ b) = lnT a := by
        unfold lnT; rw [e0, List.take_append_of_le_length (by omega)]
      have hl2 : isL (a ++ b) = true := by
        have hq := hl
        simp only [isL, Bool.and_eq_true, decide_eq_true_eq] at hq ⊢
        rw [e0, e1, e2]
        exact ⟨⟨by simp; omega, hq.1.2⟩, hq.2⟩
      rw [rd_yes hl2, e0, e2, List.drop_append_of_le_length hb.1, ih (a.drop (n0 a + 3)) b (by simp; omega) (by simp only at hw; simp; omega)]
      simp; omega
    · rw [rd_no (by simpa using hl)] at hw
      have : a = [] := List.eq_nil_of_length_eq_zero (by simpa using hw.symm)
      subst this
      rw [rd_no isL_nil]; simp
theorem fc1 {a b : Int} (h : a ≠ 0) : firstC [a, b] = a := by rw [firstC_cons, if_neg h]
theorem fc2 {a b : Int} (h : a = 0) : firstC [a, b] = b := by
  rw [firstC_cons, if_pos h, firstC_cons, firstC_nil]
  split
  · rename_i e; exact e.symm
  · rfl
theorem jou_whole {j : TJournal} (h : jouF j = 0) : (rd j.sure).2 = j.sure.length := by
  unfold jouF at h
  simp [whole] at h
  split at h
  · cases h
  · grind
end Go.AM
