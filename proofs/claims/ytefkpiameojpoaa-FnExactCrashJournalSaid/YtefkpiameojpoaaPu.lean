/- Plain lemmas for the type-driven functions. -/
import Derived.Test.YtefkpiameojpoaaEnc
set_option linter.unusedVariables false
set_option linter.unusedSimpArgs false
namespace Go.AM

theorem wrap64 {n : Int} (h1 : -9223372036854775808 ≤ n) (h2 : n ≤ 9223372036854775807) : IntKind.wrap .i64 n = n := by
  simp [IntKind.wrap, IntKind.bits, IntKind.signed]
  omega
theorem wrapi {i n : Nat} (h : i < n) (hn : n ≤ 9223372036854775807) : IntKind.wrap .i64 ((i : Int) + 1) = (i : Int) + 1 := wrap64 (by omega) (by omega)

/-! sizes -/
def subz (z : Int) (n : Nat) : Int := if z < n then -1 else z - n
theorem subz_neg {z : Int} {n : Nat} : subz z n < 0 ↔ z < n := by unfold subz; split <;> omega
theorem subz_nn {z : Int} {n : Nat} : 0 ≤ subz z n ↔ n ≤ z := by unfold subz; split <;> omega
theorem subz_ok {z : Int} {n : Nat} (h : n ≤ z) : subz z n = z - n := by unfold subz; split <;> omega
theorem subz_no {z : Int} {n : Nat} (h : z < n) : subz z n = -1 := by unfold subz; rw [if_pos h]
theorem sum_take {α : Type} {l : List α} {i : Nat} {x : α} {f : α → Nat} (h : l[i]? = some x) : ((l.map f).take (i + 1)).sum = ((l.map f).take i).sum + f x := by
  rw [List.take_add_one, List.getElem?_map, h]; simp
theorem sum_le {α : Type} {f : α → Nat} {l : List α} {i : Nat} : ((l.map f).take i).sum ≤ (l.map f).sum := by
  conv => rhs; rw [← List.take_append_drop i (l.map f), List.sum_append]
  omega
theorem sum_mem {α : Type} {f : α → Nat} {l : List α} {x : α} (h : x ∈ l) : f x ≤ (l.map f).sum := by
  induction l with
  | nil => cases h
  | cons y l ih =>
    simp only [List.map_cons, List.sum_cons]
    rcases List.mem_cons.1 h with rfl | h
    · omega
    · have := ih h; omega
theorem sum_at {α : Type} {f : α → Nat} {l : List α} {i : Nat} {x : α} (h : l[i]? = some x) : f x ≤ (l.map f).sum := sum_mem (List.mem_of_getElem? h)
theorem at_some {α : Type} {l : List α} {i : Nat} (h : i < l.length) : ∃ x, l[i]? = some x := ⟨l[i], List.getElem?_eq_getElem h⟩
theorem at_lt {α : Type} {l : List α} {i : Nat} {x : α} (h : l[i]? = some x) : i < l.length := (List.getElem?_eq_some_iff.1 h).1

/-! equal slices -/
theorem eq_ne_len {α : Type} [DecidableEq α] {a b : List α} (h : ¬ a.length = b.length) : decide (a = b) = false := by
  rw [decide_eq_false_iff_not]; rintro rfl; exact h rfl
theorem eq_ne_at {α : Type} [DecidableEq α] {a b : List α} {i : Nat} {x y : α} (hx : a[i]? = some x) (hy : b[i]? = some y) (h : ¬ x = y) : decide (a = b) = false := by
  rw [decide_eq_false_iff_not]; rintro rfl; rw [hx] at hy; cases hy; exact h rfl
theorem eq_end {α : Type} [DecidableEq α] {a b : List α} {i : Nat} (hl : a.length = b.length) (h : a.take i = b.take i) (hi : a.length ≤ i) : decide (a = b) = true := by
  rw [decide_eq_true_eq]; rwa [List.take_of_length_le hi, List.take_of_length_le (by omega)] at h
theorem take_step {α : Type} {a b : List α} {i : Nat} {x y : α} (hx : a[i]? = some x) (hy : b[i]? = some y) (e : x = y) (h : a.take i = b.take i) : a.take (i + 1) = b.take (i + 1) := by
  rw [List.take_add_one, List.take_add_one, h, hx, hy, e]

/-! slices that are filled -/
def fill {α : Type} (f : α → List AV) (z : List AV) (l : List α) (i : Nat) : List (List AV) := (l.take i).map f ++ List.replicate (l.length - i) z
theorem fill_len {α : Type} {f : α → List AV} {z : List AV} {l : List α} {i : Nat} (h : i ≤ l.length) : (fill f z l i).length = l.length := by simp [fill]; omega
theorem fill_at {α : Type} {f : α → List AV} {z : List AV} {l : List α} {i : Nat} (h : i < l.length) : (fill f z l i)[i]? = some z := by
  unfold fill
  rw [List.getElem?_append_right (by simp; omega), List.getElem?_replicate, if_pos (by simp; omega)]
theorem fill_set {α : Type} {f : α → List AV} {z : List AV} {l : List α} {i : Nat} {x : α} (h : l[i]? = some x) : (fill f z l i).set i (f x) = fill f z l (i + 1) := by
  obtain ⟨hi, hx⟩ := List.getElem?_eq_some_iff.1 h
  unfold fill
  have e : l.length - i = (l.length - (i + 1)) + 1 := by omega
  rw [e, List.replicate_succ, List.set_append, if_neg (by simp; omega), List.take_add_one, h]
  have e2 : i - ((l.take i).map f).length = 0 := by simp; omega
  rw [e2]
  simp
theorem fill_zero {α : Type} (f : α → List AV) (z : List AV) (l : List α) : fill f z l 0 = List.replicate l.length z := by simp [fill]
theorem fill_end {α : Type} {f : α → List AV} {z : List AV} {l : List α} {i : Nat} (h : l.length ≤ i) : fill f z l i = l.map f := by
  unfold fill; rw [List.take_of_length_le h, show l.length - i = 0 by omega]; simp
theorem fill_ids {α : Type} {f : α → List AV} {z : List AV} {l : List α} {i : Nat} (hf : ∀ x, idsL (f x) = []) (hz : idsL z = []) : (fill f z l i).flatMap idsL = [] := by
  unfold fill
  rw [List.flatMap_append, flatids hf]
  simp [hz]

def TStep.gok (x : TStep) : Prop := x.name.length ≤ 9223372036854775807 ∧ x.cond.length ≤ 9223372036854775807 ∧ x.expr.length ≤ 9223372036854775807
def TGNode.gok (x : TGNode) : Prop := x.name.length ≤ 9223372036854775807 ∧ x.expr.length ≤ 9223372036854775807
def TFlow.gok (x : TFlow) : Prop := x.cond.length ≤ 9223372036854775807
def TGraph.gok (x : TGraph) : Prop := (x.nodes.length ≤ 9223372036854775807 ∧ ∀ e ∈ x.nodes, e.gok) ∧ (x.flows.length ≤ 9223372036854775807 ∧ ∀ e ∈ x.flows, e.gok)
def TRun.gok (x : TRun) : Prop := x.vars.length ≤ 9223372036854775807 ∧ x.marks.length ≤ 9223372036854775807 ∧ x.dues.length ≤ 9223372036854775807
def TChart.gok (x : TChart) : Prop := x.vars.length ≤ 9223372036854775807 ∧ x.acts.length ≤ 9223372036854775807 ∧ x.dues.length ≤ 9223372036854775807
def TAct.gok (x : TAct) : Prop := x.vars.length ≤ 9223372036854775807
def TProc.gok (x : TProc) : Prop := (x.steps.length ≤ 9223372036854775807 ∧ ∀ e ∈ x.steps, e.gok)
def TInst.gok (x : TInst) : Prop := x.chart.gok
def TEngine.gok (x : TEngine) : Prop := (x.procs.length ≤ 9223372036854775807 ∧ ∀ e ∈ x.procs, e.gok) ∧ (x.insts.length ≤ 9223372036854775807 ∧ ∀ e ∈ x.insts, e.gok)
def TDesk.gok (x : TDesk) : Prop := x.engine.gok ∧ x.claims.length ≤ 9223372036854775807
def TJournal.gok (x : TJournal) : Prop := x.sure.length ≤ 9223372036854775807 ∧ x.loose.length ≤ 9223372036854775807
def TWorld.gok (x : TWorld) : Prop := x.desk.gok ∧ x.journal.gok
end Go.AM
