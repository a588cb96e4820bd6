/- Plain lemmas: more of lines. -/
import Derived.Test.YtefkpiameojpoaaPj
set_option linter.unusedVariables false
set_option linter.unusedSimpArgs false
namespace Go.AM

theorem rd_small (d : List UInt8) : ∀ e ∈ (rd d).1, e.length ≤ 255 := by
  have key : ∀ (n : Nat) (d : List UInt8), d.length ≤ n → ∀ e ∈ (rd d).1, e.length ≤ 255 := by
    intro n
    induction n with
    | zero =>
      intro d h
      have : d = [] := List.eq_nil_of_length_eq_zero (by omega)
      subst this
      rw [rd_no isL_nil]; simp
    | succ n ih =>
      intro d h e he
      by_cases hl : isL d = true
      · rw [rd_yes hl] at he
        rcases List.mem_cons.1 he with rfl | he
        · exact lnT_le d
        · have hb := isL_bd hl
          exact ih (d.drop (n0 d + 3)) (by simp; omega) e he
      · rw [rd_no (by simpa using hl)] at he; simp at he
  exact key _ d (Nat.le_refl _)
end Go.AM
