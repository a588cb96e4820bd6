/- The Go structs as Lean structures, and how they lie in cells. -/
import Derived.Test.YtefkpiameojpoaaAm22
set_option linter.unusedVariables false
set_option linter.unusedSimpArgs false
namespace Go.AM

def I1 (n : Int) : List AV := [.int .i64 n]
def B1 (b : UInt8) : List AV := [.int .u8 b.toNat]
def S1 (s : List UInt8) : List AV := [.str s]
@[go_sem] theorem I1_eq (n : Int) : I1 n = [.int .i64 n] := rfl
@[go_sem] theorem B1_eq (n : UInt8) : B1 n = [.int .u8 n.toNat] := rfl
@[go_sem] theorem S1_eq (n : List UInt8) : S1 n = [.str n] := rfl
/-- an owned slice, or an empty one -/
def owc (es : Nat) (l : List (List AV)) : AV := match l with
  | [] => .isl es []
  | x :: r => .osl es (x :: r)
@[go_sem high] theorem owc_nil (es : Nat) : owc es [] = .isl es [] := rfl
@[go_sem high] theorem owc_cons (es : Nat) (x : List AV) (r : List (List AV)) : owc es (x :: r) = .osl es (x :: r) := rfl
theorem owc_ne {es : Nat} {l : List (List AV)} (h : l ≠ []) : owc es l = .osl es l := by cases l; exact absurd rfl h; rfl
@[go_sem high] theorem owc_tree (es : Nat) (l : List (List AV)) : (owc es l).tree = true := by cases l <;> rfl
@[go_sem high] theorem owc_ids (es : Nat) (l : List (List AV)) : (owc es l).ids = [] := by cases l <;> simp [owc, AV.ids]
@[go_sem high] theorem owc_unown (es : Nat) (l : List (List AV)) : unown (owc es l) = .isl es (unownLL l) := by cases l <;> simp [owc, unown, unownLL]
@[go_sem high] theorem owc_ownd (es : Nat) (l : List (List AV)) : (owc es l).ownd = owndLL l := by cases l <;> simp [owc, AV.ownd, owndLL]
@[go_sem high] theorem owc_le (es : Nat) (l : List (List AV)) : leA0 (.osl es l) (owc es l) := by cases l <;> simp [owc, leA0]
@[go_sem high] theorem owc_le' (es : Nat) (l m : List (List AV)) : leA0 (.osl es l) (owc es m) ↔ l = m := by cases m <;> simp [owc, leA0]
@[go_sem high] theorem owc_lenil (es : Nat) (m : List (List AV)) : leA0 .nils (owc es m) ↔ m = [] := by cases m <;> simp [owc, leA0]
@[go_sem high] theorem owc_lezsl (es : Nat) (m : List (List AV)) : leA0 .zsl (owc es m) ↔ m = [] := by cases m <;> simp [owc, leA0]
@[go_sem high] theorem owc_leisl (es : Nat) (m : List (List AV)) : leA0 (.isl es []) (owc es m) ↔ m = [] := by cases m <;> simp [owc, leA0]
@[go_sem high] theorem owc_leowc (es : Nat) (l : List (List AV)) : leA0 (owc es l) (owc es l) := by cases l <;> simp [owc, leA0]
theorem unownLL_map {α : Type} {f g : α → List AV} (h : ∀ x, (f x).map unown = g x) (l : List α) : unownLL (l.map f) = l.map g := by
  rw [unownLL_eq]; simp [h]
theorem mapun {α : Type} {f g : α → List AV} (h : ∀ x, (f x).map unown = g x) (l : List α) : (l.map f).map (List.map unown) = l.map g := by simp [h]
theorem owndLL_map {α : Type} {f : α → List AV} (h : ∀ x, owndL (f x) = true) (l : List α) : owndLL (l.map f) = true := by rw [owndLL_eq, List.all_map]; exact List.all_eq_true.2 fun x _ => by simpa [owndL_eq] using h x
theorem flatids {α : Type} {f : α → List AV} (h : ∀ x, idsL (f x) = []) (l : List α) : (l.map f).flatMap idsL = [] := by simp [h]
@[go_sem] theorem flat_set {l : List (List AV)} {i : Nat} {c : List AV} (h : l.flatMap idsL = []) (hc : idsL c = []) : (l.set i c).flatMap idsL = [] := by
  simp only [List.flatMap_eq_nil_iff] at h ⊢
  intro x hx
  rcases List.mem_or_eq_of_mem_set hx with hx | rfl
  · exact h x hx
  · exact hc
theorem maptree {α : Type} {f : α → List AV} (h : ∀ a, ∀ x ∈ f a, x.tree = true) (l : List α) : (∀ c ∈ l.map f, ∀ x ∈ c, AV.tree x = true) ↔ True := by simpa using fun a _ => h a
@[go_sem] theorem take_len_map {α β : Type} (f : α → β) (l : List α) : List.take l.length (l.map f) = l.map f := List.take_of_length_le (by simp)
@[go_sem] theorem I1_un (x : Int) : (I1 x).map unown = I1 x := rfl
@[go_sem] theorem B1_un (x : UInt8) : (B1 x).map unown = B1 x := rfl
@[go_sem] theorem S1_un (x : List UInt8) : (S1 x).map unown = S1 x := rfl

@[go_sem high] theorem I1_unL (l : List _) : unownLL (l.map I1) = l.map I1 := unownLL_map I1_un l
@[go_sem high] theorem I1_unM (l : List _) : (l.map I1).map (List.map unown) = l.map I1 := mapun I1_un l
@[go_sem] theorem I1_ownd (x) : owndL (I1 x) = true := by simp [I1, go_sem]
@[go_sem high] theorem I1_owndL (l : List _) : owndLL (l.map I1) = true := owndLL_map I1_ownd l
@[go_sem] theorem I1_ids (x) : idsL (I1 x) = [] := by simp [I1, go_sem]
@[go_sem high] theorem I1_idsL (l : List _) : (l.map I1).flatMap idsL = [] := flatids I1_ids l
theorem I1_tree (a) : ∀ x ∈ I1 a, x.tree = true := by simp [I1, go_sem]
@[go_sem high] theorem I1_treeL (l : List _) : (∀ c ∈ l.map I1, ∀ x ∈ c, AV.tree x = true) ↔ True := maptree I1_tree l
@[go_sem high] theorem B1_unL (l : List _) : unownLL (l.map B1) = l.map B1 := unownLL_map B1_un l
@[go_sem high] theorem B1_unM (l : List _) : (l.map B1).map (List.map unown) = l.map B1 := mapun B1_un l
@[go_sem] theorem B1_ownd (x) : owndL (B1 x) = true := by simp [B1, go_sem]
@[go_sem high] theorem B1_owndL (l : List _) : owndLL (l.map B1) = true := owndLL_map B1_ownd l
@[go_sem] theorem B1_ids (x) : idsL (B1 x) = [] := by simp [B1, go_sem]
@[go_sem high] theorem B1_idsL (l : List _) : (l.map B1).flatMap idsL = [] := flatids B1_ids l
theorem B1_tree (a) : ∀ x ∈ B1 a, x.tree = true := by simp [B1, go_sem]
@[go_sem high] theorem B1_treeL (l : List _) : (∀ c ∈ l.map B1, ∀ x ∈ c, AV.tree x = true) ↔ True := maptree B1_tree l
@[go_sem high] theorem S1_unL (l : List _) : unownLL (l.map S1) = l.map S1 := unownLL_map S1_un l
@[go_sem high] theorem S1_unM (l : List _) : (l.map S1).map (List.map unown) = l.map S1 := mapun S1_un l
@[go_sem] theorem S1_ownd (x) : owndL (S1 x) = true := by simp [S1, go_sem]
@[go_sem high] theorem S1_owndL (l : List _) : owndLL (l.map S1) = true := owndLL_map S1_ownd l
@[go_sem] theorem S1_ids (x) : idsL (S1 x) = [] := by simp [S1, go_sem]
@[go_sem high] theorem S1_idsL (l : List _) : (l.map S1).flatMap idsL = [] := flatids S1_ids l
theorem S1_tree (a) : ∀ x ∈ S1 a, x.tree = true := by simp [S1, go_sem]
@[go_sem high] theorem S1_treeL (l : List _) : (∀ c ∈ l.map S1, ∀ x ∈ c, AV.tree x = true) ↔ True := maptree S1_tree l

/-- impl.Node -/
structure TNode where
  kind : Int
  val : Int
  left : Int
  right : Int
  deriving DecidableEq
def TNode.ro (x : TNode) : List AV := [.int .i64 x.kind, .int .i64 x.val, .int .i64 x.left, .int .i64 x.right]
@[go_sem] theorem TNode_ro_eq (x : TNode) : x.ro = [.int .i64 x.kind, .int .i64 x.val, .int .i64 x.left, .int .i64 x.right] := rfl
theorem TNode_ro_un (x : TNode) : x.ro.map unown = x.ro := by simp [TNode.ro, go_sem]
@[go_sem high] theorem TNode_ro_unL (l : List _) : unownLL (l.map TNode.ro) = l.map TNode.ro := unownLL_map TNode_ro_un l
@[go_sem high] theorem TNode_ro_unM (l : List _) : (l.map TNode.ro).map (List.map unown) = l.map TNode.ro := mapun TNode_ro_un l
@[go_sem] theorem TNode_ro_ownd (x) : owndL (TNode.ro x) = true := by simp [TNode.ro, go_sem]
@[go_sem high] theorem TNode_ro_owndL (l : List _) : owndLL (l.map TNode.ro) = true := owndLL_map TNode_ro_ownd l
@[go_sem] theorem TNode_ro_ids (x) : idsL (TNode.ro x) = [] := by simp [TNode.ro, go_sem]
@[go_sem high] theorem TNode_ro_idsL (l : List _) : (l.map TNode.ro).flatMap idsL = [] := flatids TNode_ro_ids l
theorem TNode_ro_tree (a) : ∀ x ∈ TNode.ro a, x.tree = true := by simp [TNode.ro, go_sem]
@[go_sem high] theorem TNode_ro_treeL (l : List _) : (∀ c ∈ l.map TNode.ro, ∀ x ∈ c, AV.tree x = true) ↔ True := maptree TNode_ro_tree l

/-- impl.Step -/
structure TStep where
  kind : Int
  par : Int
  name : List UInt8
  arg : Int
  cond : List TNode
  expr : List TNode
  deriving DecidableEq
def TStep.ro (x : TStep) : List AV := [.int .i64 x.kind, .int .i64 x.par, .str x.name, .int .i64 x.arg, .isl 4 (x.cond.map TNode.ro), .isl 4 (x.expr.map TNode.ro)]
@[go_sem] theorem TStep_ro_eq (x : TStep) : x.ro = [.int .i64 x.kind, .int .i64 x.par, .str x.name, .int .i64 x.arg, .isl 4 (x.cond.map TNode.ro), .isl 4 (x.expr.map TNode.ro)] := rfl
def TStep.oc (x : TStep) : List AV := [.int .i64 x.kind, .int .i64 x.par, .str x.name, .int .i64 x.arg, owc 4 (x.cond.map TNode.ro), owc 4 (x.expr.map TNode.ro)]
theorem TStep_oc_un (x : TStep) : x.oc.map unown = x.ro := by simp [TStep.oc, TStep.ro, go_sem]
@[go_sem] theorem TStep_oc_eq (x : TStep) : x.oc = [.int .i64 x.kind, .int .i64 x.par, .str x.name, .int .i64 x.arg, owc 4 (x.cond.map TNode.ro), owc 4 (x.expr.map TNode.ro)] := rfl
@[go_sem high] theorem TStep_oc_unL (l : List _) : unownLL (l.map TStep.oc) = l.map TStep.ro := unownLL_map TStep_oc_un l
@[go_sem high] theorem TStep_oc_unM (l : List _) : (l.map TStep.oc).map (List.map unown) = l.map TStep.ro := mapun TStep_oc_un l
@[go_sem] theorem TStep_oc_ownd (x) : owndL (TStep.oc x) = true := by simp [TStep.oc, go_sem]
@[go_sem high] theorem TStep_oc_owndL (l : List _) : owndLL (l.map TStep.oc) = true := owndLL_map TStep_oc_ownd l
@[go_sem] theorem TStep_oc_ids (x) : idsL (TStep.oc x) = [] := by simp [TStep.oc, go_sem]
@[go_sem high] theorem TStep_oc_idsL (l : List _) : (l.map TStep.oc).flatMap idsL = [] := flatids TStep_oc_ids l
theorem TStep_oc_tree (a) : ∀ x ∈ TStep.oc a, x.tree = true := by simp [TStep.oc, go_sem]
@[go_sem high] theorem TStep_oc_treeL (l : List _) : (∀ c ∈ l.map TStep.oc, ∀ x ∈ c, AV.tree x = true) ↔ True := maptree TStep_oc_tree l
def TStep.sz (x : TStep) : Nat := x.name.length + x.cond.length + x.expr.length

/-- impl.GNode -/
structure TGNode where
  kind : Int
  step : Int
  name : List UInt8
  arg : Int
  expr : List TNode
  deriving DecidableEq
def TGNode.ro (x : TGNode) : List AV := [.int .i64 x.kind, .int .i64 x.step, .str x.name, .int .i64 x.arg, .isl 4 (x.expr.map TNode.ro)]
@[go_sem] theorem TGNode_ro_eq (x : TGNode) : x.ro = [.int .i64 x.kind, .int .i64 x.step, .str x.name, .int .i64 x.arg, .isl 4 (x.expr.map TNode.ro)] := rfl
def TGNode.oc (x : TGNode) : List AV := [.int .i64 x.kind, .int .i64 x.step, .str x.name, .int .i64 x.arg, owc 4 (x.expr.map TNode.ro)]
theorem TGNode_oc_un (x : TGNode) : x.oc.map unown = x.ro := by simp [TGNode.oc, TGNode.ro, go_sem]
@[go_sem] theorem TGNode_oc_eq (x : TGNode) : x.oc = [.int .i64 x.kind, .int .i64 x.step, .str x.name, .int .i64 x.arg, owc 4 (x.expr.map TNode.ro)] := rfl
@[go_sem high] theorem TGNode_oc_unL (l : List _) : unownLL (l.map TGNode.oc) = l.map TGNode.ro := unownLL_map TGNode_oc_un l
@[go_sem high] theorem TGNode_oc_unM (l : List _) : (l.map TGNode.oc).map (List.map unown) = l.map TGNode.ro := mapun TGNode_oc_un l
@[go_sem] theorem TGNode_oc_ownd (x) : owndL (TGNode.oc x) = true := by simp [TGNode.oc, go_sem]
@[go_sem high] theorem TGNode_oc_owndL (l : List _) : owndLL (l.map TGNode.oc) = true := owndLL_map TGNode_oc_ownd l
@[go_sem] theorem TGNode_oc_ids (x) : idsL (TGNode.oc x) = [] := by simp [TGNode.oc, go_sem]
@[go_sem high] theorem TGNode_oc_idsL (l : List _) : (l.map TGNode.oc).flatMap idsL = [] := flatids TGNode_oc_ids l
theorem TGNode_oc_tree (a) : ∀ x ∈ TGNode.oc a, x.tree = true := by simp [TGNode.oc, go_sem]
@[go_sem high] theorem TGNode_oc_treeL (l : List _) : (∀ c ∈ l.map TGNode.oc, ∀ x ∈ c, AV.tree x = true) ↔ True := maptree TGNode_oc_tree l
def TGNode.sz (x : TGNode) : Nat := x.name.length + x.expr.length

/-- impl.Flow -/
structure TFlow where
  frm : Int
  to : Int
  cond : List TNode
  deriving DecidableEq
def TFlow.ro (x : TFlow) : List AV := [.int .i64 x.frm, .int .i64 x.to, .isl 4 (x.cond.map TNode.ro)]
@[go_sem] theorem TFlow_ro_eq (x : TFlow) : x.ro = [.int .i64 x.frm, .int .i64 x.to, .isl 4 (x.cond.map TNode.ro)] := rfl
def TFlow.oc (x : TFlow) : List AV := [.int .i64 x.frm, .int .i64 x.to, owc 4 (x.cond.map TNode.ro)]
theorem TFlow_oc_un (x : TFlow) : x.oc.map unown = x.ro := by simp [TFlow.oc, TFlow.ro, go_sem]
@[go_sem] theorem TFlow_oc_eq (x : TFlow) : x.oc = [.int .i64 x.frm, .int .i64 x.to, owc 4 (x.cond.map TNode.ro)] := rfl
@[go_sem high] theorem TFlow_oc_unL (l : List _) : unownLL (l.map TFlow.oc) = l.map TFlow.ro := unownLL_map TFlow_oc_un l
@[go_sem high] theorem TFlow_oc_unM (l : List _) : (l.map TFlow.oc).map (List.map unown) = l.map TFlow.ro := mapun TFlow_oc_un l
@[go_sem] theorem TFlow_oc_ownd (x) : owndL (TFlow.oc x) = true := by simp [TFlow.oc, go_sem]
@[go_sem high] theorem TFlow_oc_owndL (l : List _) : owndLL (l.map TFlow.oc) = true := owndLL_map TFlow_oc_ownd l
@[go_sem] theorem TFlow_oc_ids (x) : idsL (TFlow.oc x) = [] := by simp [TFlow.oc, go_sem]
@[go_sem high] theorem TFlow_oc_idsL (l : List _) : (l.map TFlow.oc).flatMap idsL = [] := flatids TFlow_oc_ids l
theorem TFlow_oc_tree (a) : ∀ x ∈ TFlow.oc a, x.tree = true := by simp [TFlow.oc, go_sem]
@[go_sem high] theorem TFlow_oc_treeL (l : List _) : (∀ c ∈ l.map TFlow.oc, ∀ x ∈ c, AV.tree x = true) ↔ True := maptree TFlow_oc_tree l
def TFlow.sz (x : TFlow) : Nat := x.cond.length

/-- impl.Graph -/
structure TGraph where
  nodes : List TGNode
  flows : List TFlow
  deriving DecidableEq
def TGraph.ro (x : TGraph) : List AV := [.isl 5 (x.nodes.map TGNode.ro), .isl 3 (x.flows.map TFlow.ro)]
@[go_sem] theorem TGraph_ro_eq (x : TGraph) : x.ro = [.isl 5 (x.nodes.map TGNode.ro), .isl 3 (x.flows.map TFlow.ro)] := rfl
def TGraph.oc (x : TGraph) : List AV := [owc 5 (x.nodes.map TGNode.oc), owc 3 (x.flows.map TFlow.oc)]
theorem TGraph_oc_un (x : TGraph) : x.oc.map unown = x.ro := by simp [TGraph.oc, TGraph.ro, go_sem]
@[go_sem] theorem TGraph_oc_eq (x : TGraph) : x.oc = [owc 5 (x.nodes.map TGNode.oc), owc 3 (x.flows.map TFlow.oc)] := rfl
@[go_sem high] theorem TGraph_oc_unL (l : List _) : unownLL (l.map TGraph.oc) = l.map TGraph.ro := unownLL_map TGraph_oc_un l
@[go_sem high] theorem TGraph_oc_unM (l : List _) : (l.map TGraph.oc).map (List.map unown) = l.map TGraph.ro := mapun TGraph_oc_un l
@[go_sem] theorem TGraph_oc_ownd (x) : owndL (TGraph.oc x) = true := by simp [TGraph.oc, go_sem]
@[go_sem high] theorem TGraph_oc_owndL (l : List _) : owndLL (l.map TGraph.oc) = true := owndLL_map TGraph_oc_ownd l
@[go_sem] theorem TGraph_oc_ids (x) : idsL (TGraph.oc x) = [] := by simp [TGraph.oc, go_sem]
@[go_sem high] theorem TGraph_oc_idsL (l : List _) : (l.map TGraph.oc).flatMap idsL = [] := flatids TGraph_oc_ids l
theorem TGraph_oc_tree (a) : ∀ x ∈ TGraph.oc a, x.tree = true := by simp [TGraph.oc, go_sem]
@[go_sem high] theorem TGraph_oc_treeL (l : List _) : (∀ c ∈ l.map TGraph.oc, ∀ x ∈ c, AV.tree x = true) ↔ True := maptree TGraph_oc_tree l
def TGraph.sz (x : TGraph) : Nat := (x.nodes.length + (x.nodes.map TGNode.sz).sum) + (x.flows.length + (x.flows.map TFlow.sz).sum)

/-- impl.Run -/
structure TRun where
  status : Int
  now : Int
  vars : List Int
  marks : List Int
  dues : List Int
  deriving DecidableEq
def TRun.ro (x : TRun) : List AV := [.int .i64 x.status, .int .i64 x.now, .isl 1 (x.vars.map I1), .isl 1 (x.marks.map I1), .isl 1 (x.dues.map I1)]
@[go_sem] theorem TRun_ro_eq (x : TRun) : x.ro = [.int .i64 x.status, .int .i64 x.now, .isl 1 (x.vars.map I1), .isl 1 (x.marks.map I1), .isl 1 (x.dues.map I1)] := rfl
def TRun.oc (x : TRun) : List AV := [.int .i64 x.status, .int .i64 x.now, owc 1 (x.vars.map I1), owc 1 (x.marks.map I1), owc 1 (x.dues.map I1)]
theorem TRun_oc_un (x : TRun) : x.oc.map unown = x.ro := by simp [TRun.oc, TRun.ro, go_sem]
@[go_sem] theorem TRun_oc_eq (x : TRun) : x.oc = [.int .i64 x.status, .int .i64 x.now, owc 1 (x.vars.map I1), owc 1 (x.marks.map I1), owc 1 (x.dues.map I1)] := rfl
@[go_sem high] theorem TRun_oc_unL (l : List _) : unownLL (l.map TRun.oc) = l.map TRun.ro := unownLL_map TRun_oc_un l
@[go_sem high] theorem TRun_oc_unM (l : List _) : (l.map TRun.oc).map (List.map unown) = l.map TRun.ro := mapun TRun_oc_un l
@[go_sem] theorem TRun_oc_ownd (x) : owndL (TRun.oc x) = true := by simp [TRun.oc, go_sem]
@[go_sem high] theorem TRun_oc_owndL (l : List _) : owndLL (l.map TRun.oc) = true := owndLL_map TRun_oc_ownd l
@[go_sem] theorem TRun_oc_ids (x) : idsL (TRun.oc x) = [] := by simp [TRun.oc, go_sem]
@[go_sem high] theorem TRun_oc_idsL (l : List _) : (l.map TRun.oc).flatMap idsL = [] := flatids TRun_oc_ids l
theorem TRun_oc_tree (a) : ∀ x ∈ TRun.oc a, x.tree = true := by simp [TRun.oc, go_sem]
@[go_sem high] theorem TRun_oc_treeL (l : List _) : (∀ c ∈ l.map TRun.oc, ∀ x ∈ c, AV.tree x = true) ↔ True := maptree TRun_oc_tree l
def TRun.sz (x : TRun) : Nat := x.vars.length + x.marks.length + x.dues.length

/-- impl.Chart -/
structure TChart where
  status : Int
  now : Int
  vars : List Int
  acts : List Int
  dues : List Int
  deriving DecidableEq
def TChart.ro (x : TChart) : List AV := [.int .i64 x.status, .int .i64 x.now, .isl 1 (x.vars.map I1), .isl 1 (x.acts.map I1), .isl 1 (x.dues.map I1)]
@[go_sem] theorem TChart_ro_eq (x : TChart) : x.ro = [.int .i64 x.status, .int .i64 x.now, .isl 1 (x.vars.map I1), .isl 1 (x.acts.map I1), .isl 1 (x.dues.map I1)] := rfl
def TChart.oc (x : TChart) : List AV := [.int .i64 x.status, .int .i64 x.now, owc 1 (x.vars.map I1), owc 1 (x.acts.map I1), owc 1 (x.dues.map I1)]
theorem TChart_oc_un (x : TChart) : x.oc.map unown = x.ro := by simp [TChart.oc, TChart.ro, go_sem]
@[go_sem] theorem TChart_oc_eq (x : TChart) : x.oc = [.int .i64 x.status, .int .i64 x.now, owc 1 (x.vars.map I1), owc 1 (x.acts.map I1), owc 1 (x.dues.map I1)] := rfl
@[go_sem high] theorem TChart_oc_unL (l : List _) : unownLL (l.map TChart.oc) = l.map TChart.ro := unownLL_map TChart_oc_un l
@[go_sem high] theorem TChart_oc_unM (l : List _) : (l.map TChart.oc).map (List.map unown) = l.map TChart.ro := mapun TChart_oc_un l
@[go_sem] theorem TChart_oc_ownd (x) : owndL (TChart.oc x) = true := by simp [TChart.oc, go_sem]
@[go_sem high] theorem TChart_oc_owndL (l : List _) : owndLL (l.map TChart.oc) = true := owndLL_map TChart_oc_ownd l
@[go_sem] theorem TChart_oc_ids (x) : idsL (TChart.oc x) = [] := by simp [TChart.oc, go_sem]
@[go_sem high] theorem TChart_oc_idsL (l : List _) : (l.map TChart.oc).flatMap idsL = [] := flatids TChart_oc_ids l
theorem TChart_oc_tree (a) : ∀ x ∈ TChart.oc a, x.tree = true := by simp [TChart.oc, go_sem]
@[go_sem high] theorem TChart_oc_treeL (l : List _) : (∀ c ∈ l.map TChart.oc, ∀ x ∈ c, AV.tree x = true) ↔ True := maptree TChart_oc_tree l
def TChart.sz (x : TChart) : Nat := x.vars.length + x.acts.length + x.dues.length

/-- impl.Act -/
structure TAct where
  kind : Int
  at_ : Int
  vars : List Int
  deriving DecidableEq
def TAct.ro (x : TAct) : List AV := [.int .i64 x.kind, .int .i64 x.at_, .isl 1 (x.vars.map I1)]
@[go_sem] theorem TAct_ro_eq (x : TAct) : x.ro = [.int .i64 x.kind, .int .i64 x.at_, .isl 1 (x.vars.map I1)] := rfl
def TAct.oc (x : TAct) : List AV := [.int .i64 x.kind, .int .i64 x.at_, owc 1 (x.vars.map I1)]
theorem TAct_oc_un (x : TAct) : x.oc.map unown = x.ro := by simp [TAct.oc, TAct.ro, go_sem]
@[go_sem] theorem TAct_oc_eq (x : TAct) : x.oc = [.int .i64 x.kind, .int .i64 x.at_, owc 1 (x.vars.map I1)] := rfl
@[go_sem high] theorem TAct_oc_unL (l : List _) : unownLL (l.map TAct.oc) = l.map TAct.ro := unownLL_map TAct_oc_un l
@[go_sem high] theorem TAct_oc_unM (l : List _) : (l.map TAct.oc).map (List.map unown) = l.map TAct.ro := mapun TAct_oc_un l
@[go_sem] theorem TAct_oc_ownd (x) : owndL (TAct.oc x) = true := by simp [TAct.oc, go_sem]
@[go_sem high] theorem TAct_oc_owndL (l : List _) : owndLL (l.map TAct.oc) = true := owndLL_map TAct_oc_ownd l
@[go_sem] theorem TAct_oc_ids (x) : idsL (TAct.oc x) = [] := by simp [TAct.oc, go_sem]
@[go_sem high] theorem TAct_oc_idsL (l : List _) : (l.map TAct.oc).flatMap idsL = [] := flatids TAct_oc_ids l
theorem TAct_oc_tree (a) : ∀ x ∈ TAct.oc a, x.tree = true := by simp [TAct.oc, go_sem]
@[go_sem high] theorem TAct_oc_treeL (l : List _) : (∀ c ∈ l.map TAct.oc, ∀ x ∈ c, AV.tree x = true) ↔ True := maptree TAct_oc_tree l
def TAct.sz (x : TAct) : Nat := x.vars.length

/-- impl.Proc -/
structure TProc where
  steps : List TStep
  deriving DecidableEq
def TProc.ro (x : TProc) : List AV := [.isl 6 (x.steps.map TStep.ro)]
@[go_sem] theorem TProc_ro_eq (x : TProc) : x.ro = [.isl 6 (x.steps.map TStep.ro)] := rfl
def TProc.oc (x : TProc) : List AV := [owc 6 (x.steps.map TStep.oc)]
theorem TProc_oc_un (x : TProc) : x.oc.map unown = x.ro := by simp [TProc.oc, TProc.ro, go_sem]
@[go_sem] theorem TProc_oc_eq (x : TProc) : x.oc = [owc 6 (x.steps.map TStep.oc)] := rfl
@[go_sem high] theorem TProc_oc_unL (l : List _) : unownLL (l.map TProc.oc) = l.map TProc.ro := unownLL_map TProc_oc_un l
@[go_sem high] theorem TProc_oc_unM (l : List _) : (l.map TProc.oc).map (List.map unown) = l.map TProc.ro := mapun TProc_oc_un l
@[go_sem] theorem TProc_oc_ownd (x) : owndL (TProc.oc x) = true := by simp [TProc.oc, go_sem]
@[go_sem high] theorem TProc_oc_owndL (l : List _) : owndLL (l.map TProc.oc) = true := owndLL_map TProc_oc_ownd l
@[go_sem] theorem TProc_oc_ids (x) : idsL (TProc.oc x) = [] := by simp [TProc.oc, go_sem]
@[go_sem high] theorem TProc_oc_idsL (l : List _) : (l.map TProc.oc).flatMap idsL = [] := flatids TProc_oc_ids l
theorem TProc_oc_tree (a) : ∀ x ∈ TProc.oc a, x.tree = true := by simp [TProc.oc, go_sem]
@[go_sem high] theorem TProc_oc_treeL (l : List _) : (∀ c ∈ l.map TProc.oc, ∀ x ∈ c, AV.tree x = true) ↔ True := maptree TProc_oc_tree l
def TProc.sz (x : TProc) : Nat := (x.steps.length + (x.steps.map TStep.sz).sum)

/-- impl.Inst -/
structure TInst where
  proc : Int
  chart : TChart
  deriving DecidableEq
def TInst.ro (x : TInst) : List AV := [.int .i64 x.proc, .int .i64 x.chart.status, .int .i64 x.chart.now, .isl 1 (x.chart.vars.map I1), .isl 1 (x.chart.acts.map I1), .isl 1 (x.chart.dues.map I1)]
@[go_sem] theorem TInst_ro_eq (x : TInst) : x.ro = [.int .i64 x.proc, .int .i64 x.chart.status, .int .i64 x.chart.now, .isl 1 (x.chart.vars.map I1), .isl 1 (x.chart.acts.map I1), .isl 1 (x.chart.dues.map I1)] := rfl
def TInst.oc (x : TInst) : List AV := [.int .i64 x.proc, .int .i64 x.chart.status, .int .i64 x.chart.now, owc 1 (x.chart.vars.map I1), owc 1 (x.chart.acts.map I1), owc 1 (x.chart.dues.map I1)]
theorem TInst_oc_un (x : TInst) : x.oc.map unown = x.ro := by simp [TInst.oc, TInst.ro, go_sem]
@[go_sem] theorem TInst_oc_eq (x : TInst) : x.oc = [.int .i64 x.proc, .int .i64 x.chart.status, .int .i64 x.chart.now, owc 1 (x.chart.vars.map I1), owc 1 (x.chart.acts.map I1), owc 1 (x.chart.dues.map I1)] := rfl
@[go_sem high] theorem TInst_oc_unL (l : List _) : unownLL (l.map TInst.oc) = l.map TInst.ro := unownLL_map TInst_oc_un l
@[go_sem high] theorem TInst_oc_unM (l : List _) : (l.map TInst.oc).map (List.map unown) = l.map TInst.ro := mapun TInst_oc_un l
@[go_sem] theorem TInst_oc_ownd (x) : owndL (TInst.oc x) = true := by simp [TInst.oc, go_sem]
@[go_sem high] theorem TInst_oc_owndL (l : List _) : owndLL (l.map TInst.oc) = true := owndLL_map TInst_oc_ownd l
@[go_sem] theorem TInst_oc_ids (x) : idsL (TInst.oc x) = [] := by simp [TInst.oc, go_sem]
@[go_sem high] theorem TInst_oc_idsL (l : List _) : (l.map TInst.oc).flatMap idsL = [] := flatids TInst_oc_ids l
theorem TInst_oc_tree (a) : ∀ x ∈ TInst.oc a, x.tree = true := by simp [TInst.oc, go_sem]
@[go_sem high] theorem TInst_oc_treeL (l : List _) : (∀ c ∈ l.map TInst.oc, ∀ x ∈ c, AV.tree x = true) ↔ True := maptree TInst_oc_tree l
def TInst.sz (x : TInst) : Nat := x.chart.sz

/-- impl.Engine -/
structure TEngine where
  procs : List TProc
  insts : List TInst
  now : Int
  deriving DecidableEq
def TEngine.ro (x : TEngine) : List AV := [.isl 1 (x.procs.map TProc.ro), .isl 6 (x.insts.map TInst.ro), .int .i64 x.now]
@[go_sem] theorem TEngine_ro_eq (x : TEngine) : x.ro = [.isl 1 (x.procs.map TProc.ro), .isl 6 (x.insts.map TInst.ro), .int .i64 x.now] := rfl
def TEngine.oc (x : TEngine) : List AV := [owc 1 (x.procs.map TProc.oc), owc 6 (x.insts.map TInst.oc), .int .i64 x.now]
theorem TEngine_oc_un (x : TEngine) : x.oc.map unown = x.ro := by simp [TEngine.oc, TEngine.ro, go_sem]
@[go_sem] theorem TEngine_oc_eq (x : TEngine) : x.oc = [owc 1 (x.procs.map TProc.oc), owc 6 (x.insts.map TInst.oc), .int .i64 x.now] := rfl
@[go_sem high] theorem TEngine_oc_unL (l : List _) : unownLL (l.map TEngine.oc) = l.map TEngine.ro := unownLL_map TEngine_oc_un l
@[go_sem high] theorem TEngine_oc_unM (l : List _) : (l.map TEngine.oc).map (List.map unown) = l.map TEngine.ro := mapun TEngine_oc_un l
@[go_sem] theorem TEngine_oc_ownd (x) : owndL (TEngine.oc x) = true := by simp [TEngine.oc, go_sem]
@[go_sem high] theorem TEngine_oc_owndL (l : List _) : owndLL (l.map TEngine.oc) = true := owndLL_map TEngine_oc_ownd l
@[go_sem] theorem TEngine_oc_ids (x) : idsL (TEngine.oc x) = [] := by simp [TEngine.oc, go_sem]
@[go_sem high] theorem TEngine_oc_idsL (l : List _) : (l.map TEngine.oc).flatMap idsL = [] := flatids TEngine_oc_ids l
theorem TEngine_oc_tree (a) : ∀ x ∈ TEngine.oc a, x.tree = true := by simp [TEngine.oc, go_sem]
@[go_sem high] theorem TEngine_oc_treeL (l : List _) : (∀ c ∈ l.map TEngine.oc, ∀ x ∈ c, AV.tree x = true) ↔ True := maptree TEngine_oc_tree l
def TEngine.sz (x : TEngine) : Nat := (x.procs.length + (x.procs.map TProc.sz).sum) + (x.insts.length + (x.insts.map TInst.sz).sum)

/-- impl.Claim -/
structure TClaim where
  inst : Int
  step : Int
  user : Int
  deriving DecidableEq
def TClaim.ro (x : TClaim) : List AV := [.int .i64 x.inst, .int .i64 x.step, .int .i64 x.user]
@[go_sem] theorem TClaim_ro_eq (x : TClaim) : x.ro = [.int .i64 x.inst, .int .i64 x.step, .int .i64 x.user] := rfl
theorem TClaim_ro_un (x : TClaim) : x.ro.map unown = x.ro := by simp [TClaim.ro, go_sem]
@[go_sem high] theorem TClaim_ro_unL (l : List _) : unownLL (l.map TClaim.ro) = l.map TClaim.ro := unownLL_map TClaim_ro_un l
@[go_sem high] theorem TClaim_ro_unM (l : List _) : (l.map TClaim.ro).map (List.map unown) = l.map TClaim.ro := mapun TClaim_ro_un l
@[go_sem] theorem TClaim_ro_ownd (x) : owndL (TClaim.ro x) = true := by simp [TClaim.ro, go_sem]
@[go_sem high] theorem TClaim_ro_owndL (l : List _) : owndLL (l.map TClaim.ro) = true := owndLL_map TClaim_ro_ownd l
@[go_sem] theorem TClaim_ro_ids (x) : idsL (TClaim.ro x) = [] := by simp [TClaim.ro, go_sem]
@[go_sem high] theorem TClaim_ro_idsL (l : List _) : (l.map TClaim.ro).flatMap idsL = [] := flatids TClaim_ro_ids l
theorem TClaim_ro_tree (a) : ∀ x ∈ TClaim.ro a, x.tree = true := by simp [TClaim.ro, go_sem]
@[go_sem high] theorem TClaim_ro_treeL (l : List _) : (∀ c ∈ l.map TClaim.ro, ∀ x ∈ c, AV.tree x = true) ↔ True := maptree TClaim_ro_tree l

/-- impl.Desk -/
structure TDesk where
  engine : TEngine
  claims : List TClaim
  deriving DecidableEq
def TDesk.ro (x : TDesk) : List AV := [.isl 1 (x.engine.procs.map TProc.ro), .isl 6 (x.engine.insts.map TInst.ro), .int .i64 x.engine.now, .isl 3 (x.claims.map TClaim.ro)]
@[go_sem] theorem TDesk_ro_eq (x : TDesk) : x.ro = [.isl 1 (x.engine.procs.map TProc.ro), .isl 6 (x.engine.insts.map TInst.ro), .int .i64 x.engine.now, .isl 3 (x.claims.map TClaim.ro)] := rfl
def TDesk.oc (x : TDesk) : List AV := [owc 1 (x.engine.procs.map TProc.oc), owc 6 (x.engine.insts.map TInst.oc), .int .i64 x.engine.now, owc 3 (x.claims.map TClaim.ro)]
theorem TDesk_oc_un (x : TDesk) : x.oc.map unown = x.ro := by simp [TDesk.oc, TDesk.ro, go_sem]
@[go_sem] theorem TDesk_oc_eq (x : TDesk) : x.oc = [owc 1 (x.engine.procs.map TProc.oc), owc 6 (x.engine.insts.map TInst.oc), .int .i64 x.engine.now, owc 3 (x.claims.map TClaim.ro)] := rfl
@[go_sem high] theorem TDesk_oc_unL (l : List _) : unownLL (l.map TDesk.oc) = l.map TDesk.ro := unownLL_map TDesk_oc_un l
@[go_sem high] theorem TDesk_oc_unM (l : List _) : (l.map TDesk.oc).map (List.map unown) = l.map TDesk.ro := mapun TDesk_oc_un l
@[go_sem] theorem TDesk_oc_ownd (x) : owndL (TDesk.oc x) = true := by simp [TDesk.oc, go_sem]
@[go_sem high] theorem TDesk_oc_owndL (l : List _) : owndLL (l.map TDesk.oc) = true := owndLL_map TDesk_oc_ownd l
@[go_sem] theorem TDesk_oc_ids (x) : idsL (TDesk.oc x) = [] := by simp [TDesk.oc, go_sem]
@[go_sem high] theorem TDesk_oc_idsL (l : List _) : (l.map TDesk.oc).flatMap idsL = [] := flatids TDesk_oc_ids l
theorem TDesk_oc_tree (a) : ∀ x ∈ TDesk.oc a, x.tree = true := by simp [TDesk.oc, go_sem]
@[go_sem high] theorem TDesk_oc_treeL (l : List _) : (∀ c ∈ l.map TDesk.oc, ∀ x ∈ c, AV.tree x = true) ↔ True := maptree TDesk_oc_tree l
def TDesk.sz (x : TDesk) : Nat := x.engine.sz + x.claims.length

/-- impl.Journal -/
structure TJournal where
  sure : List UInt8
  loose : List UInt8
  deriving DecidableEq
def TJournal.ro (x : TJournal) : List AV := [.isl 1 (x.sure.map B1), .isl 1 (x.loose.map B1)]
@[go_sem] theorem TJournal_ro_eq (x : TJournal) : x.ro = [.isl 1 (x.sure.map B1), .isl 1 (x.loose.map B1)] := rfl
def TJournal.oc (x : TJournal) : List AV := [owc 1 (x.sure.map B1), owc 1 (x.loose.map B1)]
theorem TJournal_oc_un (x : TJournal) : x.oc.map unown = x.ro := by simp [TJournal.oc, TJournal.ro, go_sem]
@[go_sem] theorem TJournal_oc_eq (x : TJournal) : x.oc = [owc 1 (x.sure.map B1), owc 1 (x.loose.map B1)] := rfl
@[go_sem high] theorem TJournal_oc_unL (l : List _) : unownLL (l.map TJournal.oc) = l.map TJournal.ro := unownLL_map TJournal_oc_un l
@[go_sem high] theorem TJournal_oc_unM (l : List _) : (l.map TJournal.oc).map (List.map unown) = l.map TJournal.ro := mapun TJournal_oc_un l
@[go_sem] theorem TJournal_oc_ownd (x) : owndL (TJournal.oc x) = true := by simp [TJournal.oc, go_sem]
@[go_sem high] theorem TJournal_oc_owndL (l : List _) : owndLL (l.map TJournal.oc) = true := owndLL_map TJournal_oc_ownd l
@[go_sem] theorem TJournal_oc_ids (x) : idsL (TJournal.oc x) = [] := by simp [TJournal.oc, go_sem]
@[go_sem high] theorem TJournal_oc_idsL (l : List _) : (l.map TJournal.oc).flatMap idsL = [] := flatids TJournal_oc_ids l
theorem TJournal_oc_tree (a) : ∀ x ∈ TJournal.oc a, x.tree = true := by simp [TJournal.oc, go_sem]
@[go_sem high] theorem TJournal_oc_treeL (l : List _) : (∀ c ∈ l.map TJournal.oc, ∀ x ∈ c, AV.tree x = true) ↔ True := maptree TJournal_oc_tree l
def TJournal.sz (x : TJournal) : Nat := x.sure.length + x.loose.length

/-- impl.World -/
structure TWorld where
  desk : TDesk
  journal : TJournal
  deriving DecidableEq
def TWorld.ro (x : TWorld) : List AV := [.isl 1 (x.desk.engine.procs.map TProc.ro), .isl 6 (x.desk.engine.insts.map TInst.ro), .int .i64 x.desk.engine.now, .isl 3 (x.desk.claims.map TClaim.ro), .isl 1 (x.journal.sure.map B1), .isl 1 (x.journal.loose.map B1)]
@[go_sem] theorem TWorld_ro_eq (x : TWorld) : x.ro = [.isl 1 (x.desk.engine.procs.map TProc.ro), .isl 6 (x.desk.engine.insts.map TInst.ro), .int .i64 x.desk.engine.now, .isl 3 (x.desk.claims.map TClaim.ro), .isl 1 (x.journal.sure.map B1), .isl 1 (x.journal.loose.map B1)] := rfl
def TWorld.oc (x : TWorld) : List AV := [owc 1 (x.desk.engine.procs.map TProc.oc), owc 6 (x.desk.engine.insts.map TInst.oc), .int .i64 x.desk.engine.now, owc 3 (x.desk.claims.map TClaim.ro), owc 1 (x.journal.sure.map B1), owc 1 (x.journal.loose.map B1)]
theorem TWorld_oc_un (x : TWorld) : x.oc.map unown = x.ro := by simp [TWorld.oc, TWorld.ro, go_sem]
@[go_sem] theorem TWorld_oc_eq (x : TWorld) : x.oc = [owc 1 (x.desk.engine.procs.map TProc.oc), owc 6 (x.desk.engine.insts.map TInst.oc), .int .i64 x.desk.engine.now, owc 3 (x.desk.claims.map TClaim.ro), owc 1 (x.journal.sure.map B1), owc 1 (x.journal.loose.map B1)] := rfl
@[go_sem high] theorem TWorld_oc_unL (l : List _) : unownLL (l.map TWorld.oc) = l.map TWorld.ro := unownLL_map TWorld_oc_un l
@[go_sem high] theorem TWorld_oc_unM (l : List _) : (l.map TWorld.oc).map (List.map unown) = l.map TWorld.ro := mapun TWorld_oc_un l
@[go_sem] theorem TWorld_oc_ownd (x) : owndL (TWorld.oc x) = true := by simp [TWorld.oc, go_sem]
@[go_sem high] theorem TWorld_oc_owndL (l : List _) : owndLL (l.map TWorld.oc) = true := owndLL_map TWorld_oc_ownd l
@[go_sem] theorem TWorld_oc_ids (x) : idsL (TWorld.oc x) = [] := by simp [TWorld.oc, go_sem]
@[go_sem high] theorem TWorld_oc_idsL (l : List _) : (l.map TWorld.oc).flatMap idsL = [] := flatids TWorld_oc_ids l
theorem TWorld_oc_tree (a) : ∀ x ∈ TWorld.oc a, x.tree = true := by simp [TWorld.oc, go_sem]
@[go_sem high] theorem TWorld_oc_treeL (l : List _) : (∀ c ∈ l.map TWorld.oc, ∀ x ∈ c, AV.tree x = true) ↔ True := maptree TWorld_oc_tree l
def TWorld.sz (x : TWorld) : Nat := x.desk.sz + x.journal.sz

/-- impl.IntResult -/
structure TIntResult where
  code : Int
  val : Int
  deriving DecidableEq
def TIntResult.ro (x : TIntResult) : List AV := [.int .i64 x.code, .int .i64 x.val]
@[go_sem] theorem TIntResult_ro_eq (x : TIntResult) : x.ro = [.int .i64 x.code, .int .i64 x.val] := rfl
theorem TIntResult_ro_un (x : TIntResult) : x.ro.map unown = x.ro := by simp [TIntResult.ro, go_sem]
@[go_sem high] theorem TIntResult_ro_unL (l : List _) : unownLL (l.map TIntResult.ro) = l.map TIntResult.ro := unownLL_map TIntResult_ro_un l
@[go_sem high] theorem TIntResult_ro_unM (l : List _) : (l.map TIntResult.ro).map (List.map unown) = l.map TIntResult.ro := mapun TIntResult_ro_un l
@[go_sem] theorem TIntResult_ro_ownd (x) : owndL (TIntResult.ro x) = true := by simp [TIntResult.ro, go_sem]
@[go_sem high] theorem TIntResult_ro_owndL (l : List _) : owndLL (l.map TIntResult.ro) = true := owndLL_map TIntResult_ro_ownd l
@[go_sem] theorem TIntResult_ro_ids (x) : idsL (TIntResult.ro x) = [] := by simp [TIntResult.ro, go_sem]
@[go_sem high] theorem TIntResult_ro_idsL (l : List _) : (l.map TIntResult.ro).flatMap idsL = [] := flatids TIntResult_ro_ids l
theorem TIntResult_ro_tree (a) : ∀ x ∈ TIntResult.ro a, x.tree = true := by simp [TIntResult.ro, go_sem]
@[go_sem high] theorem TIntResult_ro_treeL (l : List _) : (∀ c ∈ l.map TIntResult.ro, ∀ x ∈ c, AV.tree x = true) ↔ True := maptree TIntResult_ro_tree l

/-- impl.IntsResult -/
structure TIntsResult where
  code : Int
  list : List Int
  deriving DecidableEq
def TIntsResult.ro (x : TIntsResult) : List AV := [.int .i64 x.code, .isl 1 (x.list.map I1)]
@[go_sem] theorem TIntsResult_ro_eq (x : TIntsResult) : x.ro = [.int .i64 x.code, .isl 1 (x.list.map I1)] := rfl
def TIntsResult.oc (x : TIntsResult) : List AV := [.int .i64 x.code, owc 1 (x.list.map I1)]
theorem TIntsResult_oc_un (x : TIntsResult) : x.oc.map unown = x.ro := by simp [TIntsResult.oc, TIntsResult.ro, go_sem]
@[go_sem] theorem TIntsResult_oc_eq (x : TIntsResult) : x.oc = [.int .i64 x.code, owc 1 (x.list.map I1)] := rfl
@[go_sem high] theorem TIntsResult_oc_unL (l : List _) : unownLL (l.map TIntsResult.oc) = l.map TIntsResult.ro := unownLL_map TIntsResult_oc_un l
@[go_sem high] theorem TIntsResult_oc_unM (l : List _) : (l.map TIntsResult.oc).map (List.map unown) = l.map TIntsResult.ro := mapun TIntsResult_oc_un l
@[go_sem] theorem TIntsResult_oc_ownd (x) : owndL (TIntsResult.oc x) = true := by simp [TIntsResult.oc, go_sem]
@[go_sem high] theorem TIntsResult_oc_owndL (l : List _) : owndLL (l.map TIntsResult.oc) = true := owndLL_map TIntsResult_oc_ownd l
@[go_sem] theorem TIntsResult_oc_ids (x) : idsL (TIntsResult.oc x) = [] := by simp [TIntsResult.oc, go_sem]
@[go_sem high] theorem TIntsResult_oc_idsL (l : List _) : (l.map TIntsResult.oc).flatMap idsL = [] := flatids TIntsResult_oc_ids l
theorem TIntsResult_oc_tree (a) : ∀ x ∈ TIntsResult.oc a, x.tree = true := by simp [TIntsResult.oc, go_sem]
@[go_sem high] theorem TIntsResult_oc_treeL (l : List _) : (∀ c ∈ l.map TIntsResult.oc, ∀ x ∈ c, AV.tree x = true) ↔ True := maptree TIntsResult_oc_tree l
def TIntsResult.sz (x : TIntsResult) : Nat := x.list.length

/-- impl.TextResult -/
structure TTextResult where
  code : Int
  text : List UInt8
  deriving DecidableEq
def TTextResult.ro (x : TTextResult) : List AV := [.int .i64 x.code, .str x.text]
@[go_sem] theorem TTextResult_ro_eq (x : TTextResult) : x.ro = [.int .i64 x.code, .str x.text] := rfl
theorem TTextResult_ro_un (x : TTextResult) : x.ro.map unown = x.ro := by simp [TTextResult.ro, go_sem]
@[go_sem high] theorem TTextResult_ro_unL (l : List _) : unownLL (l.map TTextResult.ro) = l.map TTextResult.ro := unownLL_map TTextResult_ro_un l
@[go_sem high] theorem TTextResult_ro_unM (l : List _) : (l.map TTextResult.ro).map (List.map unown) = l.map TTextResult.ro := mapun TTextResult_ro_un l
@[go_sem] theorem TTextResult_ro_ownd (x) : owndL (TTextResult.ro x) = true := by simp [TTextResult.ro, go_sem]
@[go_sem high] theorem TTextResult_ro_owndL (l : List _) : owndLL (l.map TTextResult.ro) = true := owndLL_map TTextResult_ro_ownd l
@[go_sem] theorem TTextResult_ro_ids (x) : idsL (TTextResult.ro x) = [] := by simp [TTextResult.ro, go_sem]
@[go_sem high] theorem TTextResult_ro_idsL (l : List _) : (l.map TTextResult.ro).flatMap idsL = [] := flatids TTextResult_ro_ids l
theorem TTextResult_ro_tree (a) : ∀ x ∈ TTextResult.ro a, x.tree = true := by simp [TTextResult.ro, go_sem]
@[go_sem high] theorem TTextResult_ro_treeL (l : List _) : (∀ c ∈ l.map TTextResult.ro, ∀ x ∈ c, AV.tree x = true) ↔ True := maptree TTextResult_ro_tree l
def TTextResult.sz (x : TTextResult) : Nat := x.text.length

/-- impl.BytesResult -/
structure TBytesResult where
  code : Int
  bytes : List UInt8
  deriving DecidableEq
def TBytesResult.ro (x : TBytesResult) : List AV := [.int .i64 x.code, .isl 1 (x.bytes.map B1)]
@[go_sem] theorem TBytesResult_ro_eq (x : TBytesResult) : x.ro = [.int .i64 x.code, .isl 1 (x.bytes.map B1)] := rfl
def TBytesResult.oc (x : TBytesResult) : List AV := [.int .i64 x.code, owc 1 (x.bytes.map B1)]
theorem TBytesResult_oc_un (x : TBytesResult) : x.oc.map unown = x.ro := by simp [TBytesResult.oc, TBytesResult.ro, go_sem]
@[go_sem] theorem TBytesResult_oc_eq (x : TBytesResult) : x.oc = [.int .i64 x.code, owc 1 (x.bytes.map B1)] := rfl
@[go_sem high] theorem TBytesResult_oc_unL (l : List _) : unownLL (l.map TBytesResult.oc) = l.map TBytesResult.ro := unownLL_map TBytesResult_oc_un l
@[go_sem high] theorem TBytesResult_oc_unM (l : List _) : (l.map TBytesResult.oc).map (List.map unown) = l.map TBytesResult.ro := mapun TBytesResult_oc_un l
@[go_sem] theorem TBytesResult_oc_ownd (x) : owndL (TBytesResult.oc x) = true := by simp [TBytesResult.oc, go_sem]
@[go_sem high] theorem TBytesResult_oc_owndL (l : List _) : owndLL (l.map TBytesResult.oc) = true := owndLL_map TBytesResult_oc_ownd l
@[go_sem] theorem TBytesResult_oc_ids (x) : idsL (TBytesResult.oc x) = [] := by simp [TBytesResult.oc, go_sem]
@[go_sem high] theorem TBytesResult_oc_idsL (l : List _) : (l.map TBytesResult.oc).flatMap idsL = [] := flatids TBytesResult_oc_ids l
theorem TBytesResult_oc_tree (a) : ∀ x ∈ TBytesResult.oc a, x.tree = true := by simp [TBytesResult.oc, go_sem]
@[go_sem high] theorem TBytesResult_oc_treeL (l : List _) : (∀ c ∈ l.map TBytesResult.oc, ∀ x ∈ c, AV.tree x = true) ↔ True := maptree TBytesResult_oc_tree l
def TBytesResult.sz (x : TBytesResult) : Nat := x.bytes.length

/-- impl.LinesResult -/
structure TLinesResult where
  code : Int
  broken : Bool
  lines : List (List UInt8)
  deriving DecidableEq
def TLinesResult.ro (x : TLinesResult) : List AV := [.int .i64 x.code, .bool x.broken, .isl 1 (x.lines.map S1)]
@[go_sem] theorem TLinesResult_ro_eq (x : TLinesResult) : x.ro = [.int .i64 x.code, .bool x.broken, .isl 1 (x.lines.map S1)] := rfl
def TLinesResult.oc (x : TLinesResult) : List AV := [.int .i64 x.code, .bool x.broken, owc 1 (x.lines.map S1)]
theorem TLinesResult_oc_un (x : TLinesResult) : x.oc.map unown = x.ro := by simp [TLinesResult.oc, TLinesResult.ro, go_sem]
@[go_sem] theorem TLinesResult_oc_eq (x : TLinesResult) : x.oc = [.int .i64 x.code, .bool x.broken, owc 1 (x.lines.map S1)] := rfl
@[go_sem high] theorem TLinesResult_oc_unL (l : List _) : unownLL (l.map TLinesResult.oc) = l.map TLinesResult.ro := unownLL_map TLinesResult_oc_un l
@[go_sem high] theorem TLinesResult_oc_unM (l : List _) : (l.map TLinesResult.oc).map (List.map unown) = l.map TLinesResult.ro := mapun TLinesResult_oc_un l
@[go_sem] theorem TLinesResult_oc_ownd (x) : owndL (TLinesResult.oc x) = true := by simp [TLinesResult.oc, go_sem]
@[go_sem high] theorem TLinesResult_oc_owndL (l : List _) : owndLL (l.map TLinesResult.oc) = true := owndLL_map TLinesResult_oc_ownd l
@[go_sem] theorem TLinesResult_oc_ids (x) : idsL (TLinesResult.oc x) = [] := by simp [TLinesResult.oc, go_sem]
@[go_sem high] theorem TLinesResult_oc_idsL (l : List _) : (l.map TLinesResult.oc).flatMap idsL = [] := flatids TLinesResult_oc_ids l
theorem TLinesResult_oc_tree (a) : ∀ x ∈ TLinesResult.oc a, x.tree = true := by simp [TLinesResult.oc, go_sem]
@[go_sem high] theorem TLinesResult_oc_treeL (l : List _) : (∀ c ∈ l.map TLinesResult.oc, ∀ x ∈ c, AV.tree x = true) ↔ True := maptree TLinesResult_oc_tree l
def TLinesResult.sz (x : TLinesResult) : Nat := (x.lines.length + (x.lines.map List.length).sum)

/-- impl.JournalResult -/
structure TJournalResult where
  code : Int
  count : Int
  journal : TJournal
  deriving DecidableEq
def TJournalResult.ro (x : TJournalResult) : List AV := [.int .i64 x.code, .int .i64 x.count, .isl 1 (x.journal.sure.map B1), .isl 1 (x.journal.loose.map B1)]
@[go_sem] theorem TJournalResult_ro_eq (x : TJournalResult) : x.ro = [.int .i64 x.code, .int .i64 x.count, .isl 1 (x.journal.sure.map B1), .isl 1 (x.journal.loose.map B1)] := rfl
def TJournalResult.oc (x : TJournalResult) : List AV := [.int .i64 x.code, .int .i64 x.count, owc 1 (x.journal.sure.map B1), owc 1 (x.journal.loose.map B1)]
theorem TJournalResult_oc_un (x : TJournalResult) : x.oc.map unown = x.ro := by simp [TJournalResult.oc, TJournalResult.ro, go_sem]
@[go_sem] theorem TJournalResult_oc_eq (x : TJournalResult) : x.oc = [.int .i64 x.code, .int .i64 x.count, owc 1 (x.journal.sure.map B1), owc 1 (x.journal.loose.map B1)] := rfl
@[go_sem high] theorem TJournalResult_oc_unL (l : List _) : unownLL (l.map TJournalResult.oc) = l.map TJournalResult.ro := unownLL_map TJournalResult_oc_un l
@[go_sem high] theorem TJournalResult_oc_unM (l : List _) : (l.map TJournalResult.oc).map (List.map unown) = l.map TJournalResult.ro := mapun TJournalResult_oc_un l
@[go_sem] theorem TJournalResult_oc_ownd (x) : owndL (TJournalResult.oc x) = true := by simp [TJournalResult.oc, go_sem]
@[go_sem high] theorem TJournalResult_oc_owndL (l : List _) : owndLL (l.map TJournalResult.oc) = true := owndLL_map TJournalResult_oc_ownd l
@[go_sem] theorem TJournalResult_oc_ids (x) : idsL (TJournalResult.oc x) = [] := by simp [TJournalResult.oc, go_sem]
@[go_sem high] theorem TJournalResult_oc_idsL (l : List _) : (l.map TJournalResult.oc).flatMap idsL = [] := flatids TJournalResult_oc_ids l
theorem TJournalResult_oc_tree (a) : ∀ x ∈ TJournalResult.oc a, x.tree = true := by simp [TJournalResult.oc, go_sem]
@[go_sem high] theorem TJournalResult_oc_treeL (l : List _) : (∀ c ∈ l.map TJournalResult.oc, ∀ x ∈ c, AV.tree x = true) ↔ True := maptree TJournalResult_oc_tree l
def TJournalResult.sz (x : TJournalResult) : Nat := x.journal.sz

/-- impl.ProcResult -/
structure TProcResult where
  code : Int
  proc : List TStep
  deriving DecidableEq
def TProcResult.ro (x : TProcResult) : List AV := [.int .i64 x.code, .isl 6 (x.proc.map TStep.ro)]
@[go_sem] theorem TProcResult_ro_eq (x : TProcResult) : x.ro = [.int .i64 x.code, .isl 6 (x.proc.map TStep.ro)] := rfl
def TProcResult.oc (x : TProcResult) : List AV := [.int .i64 x.code, owc 6 (x.proc.map TStep.oc)]
theorem TProcResult_oc_un (x : TProcResult) : x.oc.map unown = x.ro := by simp [TProcResult.oc, TProcResult.ro, go_sem]
@[go_sem] theorem TProcResult_oc_eq (x : TProcResult) : x.oc = [.int .i64 x.code, owc 6 (x.proc.map TStep.oc)] := rfl
@[go_sem high] theorem TProcResult_oc_unL (l : List _) : unownLL (l.map TProcResult.oc) = l.map TProcResult.ro := unownLL_map TProcResult_oc_un l
@[go_sem high] theorem TProcResult_oc_unM (l : List _) : (l.map TProcResult.oc).map (List.map unown) = l.map TProcResult.ro := mapun TProcResult_oc_un l
@[go_sem] theorem TProcResult_oc_ownd (x) : owndL (TProcResult.oc x) = true := by simp [TProcResult.oc, go_sem]
@[go_sem high] theorem TProcResult_oc_owndL (l : List _) : owndLL (l.map TProcResult.oc) = true := owndLL_map TProcResult_oc_ownd l
@[go_sem] theorem TProcResult_oc_ids (x) : idsL (TProcResult.oc x) = [] := by simp [TProcResult.oc, go_sem]
@[go_sem high] theorem TProcResult_oc_idsL (l : List _) : (l.map TProcResult.oc).flatMap idsL = [] := flatids TProcResult_oc_ids l
theorem TProcResult_oc_tree (a) : ∀ x ∈ TProcResult.oc a, x.tree = true := by simp [TProcResult.oc, go_sem]
@[go_sem high] theorem TProcResult_oc_treeL (l : List _) : (∀ c ∈ l.map TProcResult.oc, ∀ x ∈ c, AV.tree x = true) ↔ True := maptree TProcResult_oc_tree l
def TProcResult.sz (x : TProcResult) : Nat := (x.proc.length + (x.proc.map TStep.sz).sum)

/-- impl.GraphResult -/
structure TGraphResult where
  code : Int
  graph : TGraph
  deriving DecidableEq
def TGraphResult.ro (x : TGraphResult) : List AV := [.int .i64 x.code, .isl 5 (x.graph.nodes.map TGNode.ro), .isl 3 (x.graph.flows.map TFlow.ro)]
@[go_sem] theorem TGraphResult_ro_eq (x : TGraphResult) : x.ro = [.int .i64 x.code, .isl 5 (x.graph.nodes.map TGNode.ro), .isl 3 (x.graph.flows.map TFlow.ro)] := rfl
def TGraphResult.oc (x : TGraphResult) : List AV := [.int .i64 x.code, owc 5 (x.graph.nodes.map TGNode.oc), owc 3 (x.graph.flows.map TFlow.oc)]
theorem TGraphResult_oc_un (x : TGraphResult) : x.oc.map unown = x.ro := by simp [TGraphResult.oc, TGraphResult.ro, go_sem]
@[go_sem] theorem TGraphResult_oc_eq (x : TGraphResult) : x.oc = [.int .i64 x.code, owc 5 (x.graph.nodes.map TGNode.oc), owc 3 (x.graph.flows.map TFlow.oc)] := rfl
@[go_sem high] theorem TGraphResult_oc_unL (l : List _) : unownLL (l.map TGraphResult.oc) = l.map TGraphResult.ro := unownLL_map TGraphResult_oc_un l
@[go_sem high] theorem TGraphResult_oc_unM (l : List _) : (l.map TGraphResult.oc).map (List.map unown) = l.map TGraphResult.ro := mapun TGraphResult_oc_un l
@[go_sem] theorem TGraphResult_oc_ownd (x) : owndL (TGraphResult.oc x) = true := by simp [TGraphResult.oc, go_sem]
@[go_sem high] theorem TGraphResult_oc_owndL (l : List _) : owndLL (l.map TGraphResult.oc) = true := owndLL_map TGraphResult_oc_ownd l
@[go_sem] theorem TGraphResult_oc_ids (x) : idsL (TGraphResult.oc x) = [] := by simp [TGraphResult.oc, go_sem]
@[go_sem high] theorem TGraphResult_oc_idsL (l : List _) : (l.map TGraphResult.oc).flatMap idsL = [] := flatids TGraphResult_oc_ids l
theorem TGraphResult_oc_tree (a) : ∀ x ∈ TGraphResult.oc a, x.tree = true := by simp [TGraphResult.oc, go_sem]
@[go_sem high] theorem TGraphResult_oc_treeL (l : List _) : (∀ c ∈ l.map TGraphResult.oc, ∀ x ∈ c, AV.tree x = true) ↔ True := maptree TGraphResult_oc_tree l
def TGraphResult.sz (x : TGraphResult) : Nat := x.graph.sz

/-- impl.RunResult -/
structure TRunResult where
  code : Int
  run : TRun
  deriving DecidableEq
def TRunResult.ro (x : TRunResult) : List AV := [.int .i64 x.code, .int .i64 x.run.status, .int .i64 x.run.now, .isl 1 (x.run.vars.map I1), .isl 1 (x.run.marks.map I1), .isl 1 (x.run.dues.map I1)]
@[go_sem] theorem TRunResult_ro_eq (x : TRunResult) : x.ro = [.int .i64 x.code, .int .i64 x.run.status, .int .i64 x.run.now, .isl 1 (x.run.vars.map I1), .isl 1 (x.run.marks.map I1), .isl 1 (x.run.dues.map I1)] := rfl
def TRunResult.oc (x : TRunResult) : List AV := [.int .i64 x.code, .int .i64 x.run.status, .int .i64 x.run.now, owc 1 (x.run.vars.map I1), owc 1 (x.run.marks.map I1), owc 1 (x.run.dues.map I1)]
theorem TRunResult_oc_un (x : TRunResult) : x.oc.map unown = x.ro := by simp [TRunResult.oc, TRunResult.ro, go_sem]
@[go_sem] theorem TRunResult_oc_eq (x : TRunResult) : x.oc = [.int .i64 x.code, .int .i64 x.run.status, .int .i64 x.run.now, owc 1 (x.run.vars.map I1), owc 1 (x.run.marks.map I1), owc 1 (x.run.dues.map I1)] := rfl
@[go_sem high] theorem TRunResult_oc_unL (l : List _) : unownLL (l.map TRunResult.oc) = l.map TRunResult.ro := unownLL_map TRunResult_oc_un l
@[go_sem high] theorem TRunResult_oc_unM (l : List _) : (l.map TRunResult.oc).map (List.map unown) = l.map TRunResult.ro := mapun TRunResult_oc_un l
@[go_sem] theorem TRunResult_oc_ownd (x) : owndL (TRunResult.oc x) = true := by simp [TRunResult.oc, go_sem]
@[go_sem high] theorem TRunResult_oc_owndL (l : List _) : owndLL (l.map TRunResult.oc) = true := owndLL_map TRunResult_oc_ownd l
@[go_sem] theorem TRunResult_oc_ids (x) : idsL (TRunResult.oc x) = [] := by simp [TRunResult.oc, go_sem]
@[go_sem high] theorem TRunResult_oc_idsL (l : List _) : (l.map TRunResult.oc).flatMap idsL = [] := flatids TRunResult_oc_ids l
theorem TRunResult_oc_tree (a) : ∀ x ∈ TRunResult.oc a, x.tree = true := by simp [TRunResult.oc, go_sem]
@[go_sem high] theorem TRunResult_oc_treeL (l : List _) : (∀ c ∈ l.map TRunResult.oc, ∀ x ∈ c, AV.tree x = true) ↔ True := maptree TRunResult_oc_tree l
def TRunResult.sz (x : TRunResult) : Nat := x.run.sz

/-- impl.ChartResult -/
structure TChartResult where
  code : Int
  chart : TChart
  deriving DecidableEq
def TChartResult.ro (x : TChartResult) : List AV := [.int .i64 x.code, .int .i64 x.chart.status, .int .i64 x.chart.now, .isl 1 (x.chart.vars.map I1), .isl 1 (x.chart.acts.map I1), .isl 1 (x.chart.dues.map I1)]
@[go_sem] theorem TChartResult_ro_eq (x : TChartResult) : x.ro = [.int .i64 x.code, .int .i64 x.chart.status, .int .i64 x.chart.now, .isl 1 (x.chart.vars.map I1), .isl 1 (x.chart.acts.map I1), .isl 1 (x.chart.dues.map I1)] := rfl
def TChartResult.oc (x : TChartResult) : List AV := [.int .i64 x.code, .int .i64 x.chart.status, .int .i64 x.chart.now, owc 1 (x.chart.vars.map I1), owc 1 (x.chart.acts.map I1), owc 1 (x.chart.dues.map I1)]
theorem TChartResult_oc_un (x : TChartResult) : x.oc.map unown = x.ro := by simp [TChartResult.oc, TChartResult.ro, go_sem]
@[go_sem] theorem TChartResult_oc_eq (x : TChartResult) : x.oc = [.int .i64 x.code, .int .i64 x.chart.status, .int .i64 x.chart.now, owc 1 (x.chart.vars.map I1), owc 1 (x.chart.acts.map I1), owc 1 (x.chart.dues.map I1)] := rfl
@[go_sem high] theorem TChartResult_oc_unL (l : List _) : unownLL (l.map TChartResult.oc) = l.map TChartResult.ro := unownLL_map TChartResult_oc_un l
@[go_sem high] theorem TChartResult_oc_unM (l : List _) : (l.map TChartResult.oc).map (List.map unown) = l.map TChartResult.ro := mapun TChartResult_oc_un l
@[go_sem] theorem TChartResult_oc_ownd (x) : owndL (TChartResult.oc x) = true := by simp [TChartResult.oc, go_sem]
@[go_sem high] theorem TChartResult_oc_owndL (l : List _) : owndLL (l.map TChartResult.oc) = true := owndLL_map TChartResult_oc_ownd l
@[go_sem] theorem TChartResult_oc_ids (x) : idsL (TChartResult.oc x) = [] := by simp [TChartResult.oc, go_sem]
@[go_sem high] theorem TChartResult_oc_idsL (l : List _) : (l.map TChartResult.oc).flatMap idsL = [] := flatids TChartResult_oc_ids l
theorem TChartResult_oc_tree (a) : ∀ x ∈ TChartResult.oc a, x.tree = true := by simp [TChartResult.oc, go_sem]
@[go_sem high] theorem TChartResult_oc_treeL (l : List _) : (∀ c ∈ l.map TChartResult.oc, ∀ x ∈ c, AV.tree x = true) ↔ True := maptree TChartResult_oc_tree l
def TChartResult.sz (x : TChartResult) : Nat := x.chart.sz

/-- impl.EngineResult -/
structure TEngineResult where
  code : Int
  val : Int
  engine : TEngine
  deriving DecidableEq
def TEngineResult.ro (x : TEngineResult) : List AV := [.int .i64 x.code, .int .i64 x.val, .isl 1 (x.engine.procs.map TProc.ro), .isl 6 (x.engine.insts.map TInst.ro), .int .i64 x.engine.now]
@[go_sem] theorem TEngineResult_ro_eq (x : TEngineResult) : x.ro = [.int .i64 x.code, .int .i64 x.val, .isl 1 (x.engine.procs.map TProc.ro), .isl 6 (x.engine.insts.map TInst.ro), .int .i64 x.engine.now] := rfl
def TEngineResult.oc (x : TEngineResult) : List AV := [.int .i64 x.code, .int .i64 x.val, owc 1 (x.engine.procs.map TProc.oc), owc 6 (x.engine.insts.map TInst.oc), .int .i64 x.engine.now]
theorem TEngineResult_oc_un (x : TEngineResult) : x.oc.map unown = x.ro := by simp [TEngineResult.oc, TEngineResult.ro, go_sem]
@[go_sem] theorem TEngineResult_oc_eq (x : TEngineResult) : x.oc = [.int .i64 x.code, .int .i64 x.val, owc 1 (x.engine.procs.map TProc.oc), owc 6 (x.engine.insts.map TInst.oc), .int .i64 x.engine.now] := rfl
@[go_sem high] theorem TEngineResult_oc_unL (l : List _) : unownLL (l.map TEngineResult.oc) = l.map TEngineResult.ro := unownLL_map TEngineResult_oc_un l
@[go_sem high] theorem TEngineResult_oc_unM (l : List _) : (l.map TEngineResult.oc).map (List.map unown) = l.map TEngineResult.ro := mapun TEngineResult_oc_un l
@[go_sem] theorem TEngineResult_oc_ownd (x) : owndL (TEngineResult.oc x) = true := by simp [TEngineResult.oc, go_sem]
@[go_sem high] theorem TEngineResult_oc_owndL (l : List _) : owndLL (l.map TEngineResult.oc) = true := owndLL_map TEngineResult_oc_ownd l
@[go_sem] theorem TEngineResult_oc_ids (x) : idsL (TEngineResult.oc x) = [] := by simp [TEngineResult.oc, go_sem]
@[go_sem high] theorem TEngineResult_oc_idsL (l : List _) : (l.map TEngineResult.oc).flatMap idsL = [] := flatids TEngineResult_oc_ids l
theorem TEngineResult_oc_tree (a) : ∀ x ∈ TEngineResult.oc a, x.tree = true := by simp [TEngineResult.oc, go_sem]
@[go_sem high] theorem TEngineResult_oc_treeL (l : List _) : (∀ c ∈ l.map TEngineResult.oc, ∀ x ∈ c, AV.tree x = true) ↔ True := maptree TEngineResult_oc_tree l
def TEngineResult.sz (x : TEngineResult) : Nat := x.engine.sz

/-- impl.DeskResult -/
structure TDeskResult where
  code : Int
  val : Int
  desk : TDesk
  deriving DecidableEq
def TDeskResult.ro (x : TDeskResult) : List AV := [.int .i64 x.code, .int .i64 x.val, .isl 1 (x.desk.engine.procs.map TProc.ro), .isl 6 (x.desk.engine.insts.map TInst.ro), .int .i64 x.desk.engine.now, .isl 3 (x.desk.claims.map TClaim.ro)]
@[go_sem] theorem TDeskResult_ro_eq (x : TDeskResult) : x.ro = [.int .i64 x.code, .int .i64 x.val, .isl 1 (x.desk.engine.procs.map TProc.ro), .isl 6 (x.desk.engine.insts.map TInst.ro), .int .i64 x.desk.engine.now, .isl 3 (x.desk.claims.map TClaim.ro)] := rfl
def TDeskResult.oc (x : TDeskResult) : List AV := [.int .i64 x.code, .int .i64 x.val, owc 1 (x.desk.engine.procs.map TProc.oc), owc 6 (x.desk.engine.insts.map TInst.oc), .int .i64 x.desk.engine.now, owc 3 (x.desk.claims.map TClaim.ro)]
theorem TDeskResult_oc_un (x : TDeskResult) : x.oc.map unown = x.ro := by simp [TDeskResult.oc, TDeskResult.ro, go_sem]
@[go_sem] theorem TDeskResult_oc_eq (x : TDeskResult) : x.oc = [.int .i64 x.code, .int .i64 x.val, owc 1 (x.desk.engine.procs.map TProc.oc), owc 6 (x.desk.engine.insts.map TInst.oc), .int .i64 x.desk.engine.now, owc 3 (x.desk.claims.map TClaim.ro)] := rfl
@[go_sem high] theorem TDeskResult_oc_unL (l : List _) : unownLL (l.map TDeskResult.oc) = l.map TDeskResult.ro := unownLL_map TDeskResult_oc_un l
@[go_sem high] theorem TDeskResult_oc_unM (l : List _) : (l.map TDeskResult.oc).map (List.map unown) = l.map TDeskResult.ro := mapun TDeskResult_oc_un l
@[go_sem] theorem TDeskResult_oc_ownd (x) : owndL (TDeskResult.oc x) = true := by simp [TDeskResult.oc, go_sem]
@[go_sem high] theorem TDeskResult_oc_owndL (l : List _) : owndLL (l.map TDeskResult.oc) = true := owndLL_map TDeskResult_oc_ownd l
@[go_sem] theorem TDeskResult_oc_ids (x) : idsL (TDeskResult.oc x) = [] := by simp [TDeskResult.oc, go_sem]
@[go_sem high] theorem TDeskResult_oc_idsL (l : List _) : (l.map TDeskResult.oc).flatMap idsL = [] := flatids TDeskResult_oc_ids l
theorem TDeskResult_oc_tree (a) : ∀ x ∈ TDeskResult.oc a, x.tree = true := by simp [TDeskResult.oc, go_sem]
@[go_sem high] theorem TDeskResult_oc_treeL (l : List _) : (∀ c ∈ l.map TDeskResult.oc, ∀ x ∈ c, AV.tree x = true) ↔ True := maptree TDeskResult_oc_tree l
def TDeskResult.sz (x : TDeskResult) : Nat := x.desk.sz

/-- impl.OfferResult -/
structure TOfferResult where
  code : Int
  claims : List TClaim
  deriving DecidableEq
def TOfferResult.ro (x : TOfferResult) : List AV := [.int .i64 x.code, .isl 3 (x.claims.map TClaim.ro)]
@[go_sem] theorem TOfferResult_ro_eq (x : TOfferResult) : x.ro = [.int .i64 x.code, .isl 3 (x.claims.map TClaim.ro)] := rfl
def TOfferResult.oc (x : TOfferResult) : List AV := [.int .i64 x.code, owc 3 (x.claims.map TClaim.ro)]
theorem TOfferResult_oc_un (x : TOfferResult) : x.oc.map unown = x.ro := by simp [TOfferResult.oc, TOfferResult.ro, go_sem]
@[go_sem] theorem TOfferResult_oc_eq (x : TOfferResult) : x.oc = [.int .i64 x.code, owc 3 (x.claims.map TClaim.ro)] := rfl
@[go_sem high] theorem TOfferResult_oc_unL (l : List _) : unownLL (l.map TOfferResult.oc) = l.map TOfferResult.ro := unownLL_map TOfferResult_oc_un l
@[go_sem high] theorem TOfferResult_oc_unM (l : List _) : (l.map TOfferResult.oc).map (List.map unown) = l.map TOfferResult.ro := mapun TOfferResult_oc_un l
@[go_sem] theorem TOfferResult_oc_ownd (x) : owndL (TOfferResult.oc x) = true := by simp [TOfferResult.oc, go_sem]
@[go_sem high] theorem TOfferResult_oc_owndL (l : List _) : owndLL (l.map TOfferResult.oc) = true := owndLL_map TOfferResult_oc_ownd l
@[go_sem] theorem TOfferResult_oc_ids (x) : idsL (TOfferResult.oc x) = [] := by simp [TOfferResult.oc, go_sem]
@[go_sem high] theorem TOfferResult_oc_idsL (l : List _) : (l.map TOfferResult.oc).flatMap idsL = [] := flatids TOfferResult_oc_ids l
theorem TOfferResult_oc_tree (a) : ∀ x ∈ TOfferResult.oc a, x.tree = true := by simp [TOfferResult.oc, go_sem]
@[go_sem high] theorem TOfferResult_oc_treeL (l : List _) : (∀ c ∈ l.map TOfferResult.oc, ∀ x ∈ c, AV.tree x = true) ↔ True := maptree TOfferResult_oc_tree l
def TOfferResult.sz (x : TOfferResult) : Nat := x.claims.length
end Go.AM
