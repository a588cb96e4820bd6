/- Plain definitions and lemmas of the small functions. -/
import Derived.Test.YtefkpiameojpoaaPu
set_option linter.unusedVariables false
set_option linter.unusedSimpArgs false
namespace Go.AM

/-! chapter 1 -/
def inR (n lo hi : Int) : Bool := decide (lo ≤ n) && decide (n ≤ hi)
theorem inR_iff {n lo hi : Int} : inR n lo hi = true ↔ lo ≤ n ∧ n ≤ hi := by simp [inR]
theorem inR_not {n lo hi : Int} : inR n lo hi = false ↔ ¬ (lo ≤ n ∧ n ≤ hi) := by rw [← inR_iff]; simp
def isP (c : UInt8) : Bool := decide (32 ≤ (c.toNat : Int)) && decide ((c.toNat : Int) ≤ 126)
theorem all_take {α : Type} {s : List α} {p : α → Bool} {i : Nat} {x : α} (hx : s[i]? = some x) (h : (s.take i).all p = true) : (s.take (i + 1)).all p = p x := by
  rw [List.take_add_one, List.all_append, h, hx]; simp
theorem all_not {α : Type} {s : List α} {p : α → Bool} {i : Nat} {x : α} (hx : s[i]? = some x) (h : p x = false) : s.all p = false := by
  rw [List.all_eq_false]; exact ⟨x, List.mem_of_getElem? hx, by simp [h]⟩
theorem all_end {α : Type} {s : List α} {p : α → Bool} {i : Nat} (hi : s.length ≤ i) (h : (s.take i).all p = true) : s.all p = true := by rwa [List.take_of_length_le hi] at h

def firstC (l : List Int) : Int := (l.find? (fun n => decide (n ≠ 0))).getD 0
theorem firstC_step {l : List Int} {i : Nat} {x : Int} (h : l[i]? = some x) : firstC (l.drop i) = if x = 0 then firstC (l.drop (i + 1)) else x := by
  obtain ⟨hi, hx⟩ := List.getElem?_eq_some_iff.1 h
  rw [List.drop_eq_getElem_cons hi, hx]
  unfold firstC
  by_cases h0 : x = 0
  · simp [h0]
  · simp [h0]
theorem firstC_end {l : List Int} {i : Nat} (h : l.length ≤ i) : firstC (l.drop i) = 0 := by
  rw [List.drop_eq_nil_of_le h]; rfl
theorem firstC_nil : firstC [] = 0 := rfl
theorem firstC_cons (x : Int) (l : List Int) : firstC (x :: l) = if x = 0 then firstC l else x := by
  unfold firstC
  by_cases h0 : x = 0
  · simp [h0]
  · simp [h0]

def lineF (s : List UInt8) : Int := if s.length < 1 ∨ 40 < s.length then 2 else if s.all isP then 0 else 5
theorem lineF_eq (s : List UInt8) : firstC [if (!(inR s.length 1 40)) = true then 2 else 0, if (!s.all isP) = true then 5 else 0] = lineF s := by
  by_cases h : s.length < 1 ∨ 40 < s.length
  · have e : inR s.length 1 40 = false := inR_not.2 (by omega)
    simp only [firstC_cons, firstC_nil, lineF, if_pos h, e]
    simp
  · have e : inR s.length 1 40 = true := inR_iff.2 (by omega)
    simp only [firstC_cons, firstC_nil, lineF, if_neg h, e]
    cases s.all isP <;> simp
theorem lineF_bad {s : List UInt8} (h : s.length < 1 ∨ 40 < s.length) : lineF s = 2 := by rw [lineF, if_pos h]
theorem lineF_good {s : List UInt8} {b : Bool} (h : ¬ (s.length < 1 ∨ 40 < s.length)) (hb : s.all isP = b) : lineF s = if b then 0 else 5 := by rw [lineF, if_neg h, hb]

/-! slices of Go's library -/
/-- the first index of what is so, counted from i; -1: none -/
def idxF {α : Type} (p : α → Bool) : List α → Nat → Int
  | [], _ => -1
  | x :: r, i => if p x then i else idxF p r (i + 1)
theorem idxF_step {α : Type} {p : α → Bool} {l : List α} {i : Nat} {x : α} (h : l[i]? = some x) : idxF p (l.drop i) i = if p x then (i : Int) else idxF p (l.drop (i + 1)) (i + 1) := by
  obtain ⟨hi, hx⟩ := List.getElem?_eq_some_iff.1 h
  rw [List.drop_eq_getElem_cons hi, hx]; rfl
theorem idxF_end {α : Type} {p : α → Bool} {l : List α} {i : Nat} (h : l.length ≤ i) : idxF p (l.drop i) i = -1 := by rw [List.drop_eq_nil_of_le h]; rfl
theorem idxF_any {α : Type} {p : α → Bool} : ∀ (l : List α) (i : Nat), decide (0 ≤ idxF p l i) = l.any p := by
  intro l
  induction l with
  | nil => intro i; simp [idxF]
  | cons x l ih =>
    intro i
    simp only [idxF, List.any_cons]
    by_cases hp : p x = true
    · simp [hp]
    · simpa [hp] using ih (i + 1)

/-! chapter 3 -/
def small (n : Int) : Bool := inR n (-1000000) 1000000
def varsF (l : List Int) : Int := if l.length ≠ 4 then 2 else if l.all small then 0 else 3
theorem varsF_eq (l : List Int) : firstC [if (!decide ((l.length : Int) = 4)) = true then 2 else 0, if (l.any fun n => !small n) = true then 3 else 0] = varsF l := by
  simp only [firstC_cons, firstC_nil, varsF]
  have e : (l.any fun n => !small n) = !l.all small := by simp [List.all_eq_not_any_not]
  rw [e]
  by_cases h : l.length = 4
  · have h2 : (l.length : Int) = 4 := by omega
    by_cases hs : l.all small = true
    · simp [h, h2, hs]
    · simp [h, h2, hs]
  · have h2 : ¬ (l.length : Int) = 4 := by omega
    simp [h, h2]

/-! chapter 10 -/
def actF (a : TAct) : Int :=
  if inR a.kind 1 3 = false ∨ (a.kind ≠ 1 ∧ 0 < a.vars.length) then 1 else if inR a.at_ 0 9999 = false then 3 else if a.kind = 1 then varsF a.vars else 0
end Go.AM
