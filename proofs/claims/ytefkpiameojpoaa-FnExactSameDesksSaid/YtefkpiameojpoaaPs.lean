/- Plain lemmas: what is compared. -/
import Derived.Test.YtefkpiameojpoaaPv
namespace Go.AM
@[go_sem ↓ high] theorem TNode_cells (x y : TNode) : ([x.kind, x.val, x.left, x.right] = ([y.kind, y.val, y.left, y.right] : List Int)) ↔ x = y := by
  cases x; cases y; simp
@[go_sem ↓ high] theorem TClaim_cells (x y : TClaim) : ([x.inst, x.step, x.user] = ([y.inst, y.step, y.user] : List Int)) ↔ x = y := by
  cases x; cases y; simp
theorem eng_end {a b : TEngine} {i j : Nat} (hp : a.procs.take i = b.procs.take i) (h1 : a.procs.length ≤ i) (h2 : b.procs.length ≤ i) (hq : a.insts.take j = b.insts.take j) (h3 : a.insts.length ≤ j) (h4 : b.insts.length ≤ j) (hn : a.now = b.now) : a = b := by
  rw [List.take_of_length_le h1, List.take_of_length_le h2] at hp
  rw [List.take_of_length_le h3, List.take_of_length_le h4] at hq
  cases a; cases b; simp_all
theorem desk_end {a b : TDesk} {i : Nat} (he : a.engine = b.engine) (hp : a.claims.take i = b.claims.take i) (h1 : a.claims.length ≤ i) (h2 : b.claims.length ≤ i) : a = b := by
  rw [List.take_of_length_le h1, List.take_of_length_le h2] at hp
  cases a; cases b; simp_all
end Go.AM
