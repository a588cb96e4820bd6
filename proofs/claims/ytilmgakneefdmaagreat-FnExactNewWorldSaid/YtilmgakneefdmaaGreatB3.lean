/- Joined texts: Enc Am23 Pu Ty Rd T1 T2 Pv Pw M1 Px Py Pz En2 Pe. -/
import Derived.Test.YtilmgakneefdmaaGreatB1
import Derived.Test.YtilmgakneefdmaaGreatB2
import Derived.ChangeArms
import Derived.WideKeyArgs
import Derived.Test.YtilmgakneefdmaaGreatProg
set_option linter.unusedVariables false
set_option linter.unusedSimpArgs false
/-! ### Enc -/
set_option linter.unusedVariables false
set_option linter.unusedSimpArgs false
namespace Go.AM

def I1 (n : Int) : List AV := [.int .i64 n]
def B1 (b : UInt8) : List AV := [.int .u8 b.toNat]
def S1 (s : List UInt8) : List AV := [.str s]
@[go_sem] theorem I1_eq (n : Int) : I1 n = [.int .i64 n] := rfl
@[go_sem] theorem B1_eq (n : UInt8) : B1 n = [.int .u8 n.toNat] := rfl
@[go_sem] theorem S1_eq (n : List UInt8) : S1 n = [.str n] := rfl
/-- an owned slice, or an empty one -/
def owc (es : Nat) (l : List (List AV)) : AV := match l with
  | [] => .isl es []
  | x :: r => .osl es (x :: r)
@[go_sem high] theorem owc_nil (es : Nat) : owc es [] = .isl es [] := rfl
@[go_sem high] theorem owc_cons (es : Nat) (x : List AV) (r : List (List AV)) : owc es (x :: r) = .osl es (x :: r) := rfl
theorem owc_ne {es : Nat} {l : List (List AV)} (h : l ≠ []) : owc es l = .osl es l := by cases l; exact absurd rfl h; rfl
@[go_sem high] theorem owc_tree (es : Nat) (l : List (List AV)) : (owc es l).tree = true := by cases l <;> rfl
@[go_sem high] theorem owc_ids (es : Nat) (l : List (List AV)) : (owc es l).ids = [] := by cases l <;> simp [owc, AV.ids]
@[go_sem high] theorem owc_unown (es : Nat) (l : List (List AV)) : unown (owc es l) = .isl es (unownLL l) := by cases l <;> simp [owc, unown, unownLL]
@[go_sem high] theorem owc_ownd (es : Nat) (l : List (List AV)) : (owc es l).ownd = owndLL l := by cases l <;> simp [owc, AV.ownd, owndLL]
@[go_sem high] theorem owc_le (es : Nat) (l : List (List AV)) : leA0 (.osl es l) (owc es l) := by cases l <;> simp [owc, leA0]
@[go_sem high] theorem owc_le' (es : Nat) (l m : List (List AV)) : leA0 (.osl es l) (owc es m) ↔ l = m := by cases m <;> simp [owc, leA0]
@[go_sem high] theorem owc_lenil (es : Nat) (m : List (List AV)) : leA0 .nils (owc es m) ↔ m = [] := by cases m <;> simp [owc, leA0]
@[go_sem high] theorem owc_lezsl (es : Nat) (m : List (List AV)) : leA0 .zsl (owc es m) ↔ m = [] := by cases m <;> simp [owc, leA0]
@[go_sem high] theorem owc_leisl (es : Nat) (m : List (List AV)) : leA0 (.isl es []) (owc es m) ↔ m = [] := by cases m <;> simp [owc, leA0]
@[go_sem high] theorem owc_leowc (es : Nat) (l : List (List AV)) : leA0 (owc es l) (owc es l) := by cases l <;> simp [owc, leA0]
theorem unownLL_map {α : Type} {f g : α → List AV} (h : ∀ x, (f x).map unown = g x) (l : List α) : unownLL (l.map f) = l.map g := by
  rw [unownLL_eq]; simp [h]
theorem mapun {α : Type} {f g : α → List AV} (h : ∀ x, (f x).map unown = g x) (l : List α) : (l.map f).map (List.map unown) = l.map g := by simp [h]
theorem owndLL_map {α : Type} {f : α → List AV} (h : ∀ x, owndL (f x) = true) (l : List α) : owndLL (l.map f) = true := by rw [owndLL_eq, List.all_map]; exact List.all_eq_true.2 fun x _ => by simpa [owndL_eq] using h x
theorem flatids {α : Type} {f : α → List AV} (h : ∀ x, idsL (f x) = []) (l : List α) : (l.map f).flatMap idsL = [] := by simp [h]
@[go_sem] theorem flat_set {l : List (List AV)} {i : Nat} {c : List AV} (h : l.flatMap idsL = []) (hc : idsL c = []) : (l.set i c).flatMap idsL = [] := by
  simp only [List.flatMap_eq_nil_iff] at h ⊢
  intro x hx
  rcases List.mem_or_eq_of_mem_set hx with hx | rfl
  · exact h x hx
  · exact hc
theorem maptree {α : Type} {f : α → List AV} (h : ∀ a, ∀ x ∈ f a, x.tree = true) (l : List α) : (∀ c ∈ l.map f, ∀ x ∈ c, AV.tree x = true) ↔ True := by simpa using fun a _ => h a
@[go_sem] theorem take_len_map {α β : Type} (f : α → β) (l : List α) : List.take l.length (l.map f) = l.map f := List.take_of_length_le (by simp)
@[go_sem] theorem I1_un (x : Int) : (I1 x).map unown = I1 x := rfl
@[go_sem] theorem B1_un (x : UInt8) : (B1 x).map unown = B1 x := rfl
@[go_sem] theorem S1_un (x : List UInt8) : (S1 x).map unown = S1 x := rfl

@[go_sem high] theorem I1_unL (l : List _) : unownLL (l.map I1) = l.map I1 := unownLL_map I1_un l
@[go_sem high] theorem I1_unM (l : List _) : (l.map I1).map (List.map unown) = l.map I1 := mapun I1_un l
@[go_sem] theorem I1_ownd (x) : owndL (I1 x) = true := by simp [I1, go_sem]
@[go_sem high] theorem I1_owndL (l : List _) : owndLL (l.map I1) = true := owndLL_map I1_ownd l
@[go_sem] theorem I1_ids (x) : idsL (I1 x) = [] := by simp [I1, go_sem]
@[go_sem high] theorem I1_idsL (l : List _) : (l.map I1).flatMap idsL = [] := flatids I1_ids l
theorem I1_tree (a) : ∀ x ∈ I1 a, x.tree = true := by simp [I1, go_sem]
@[go_sem high] theorem I1_treeL (l : List _) : (∀ c ∈ l.map I1, ∀ x ∈ c, AV.tree x = true) ↔ True := maptree I1_tree l
@[go_sem high] theorem B1_unL (l : List _) : unownLL (l.map B1) = l.map B1 := unownLL_map B1_un l
@[go_sem high] theorem B1_unM (l : List _) : (l.map B1).map (List.map unown) = l.map B1 := mapun B1_un l
@[go_sem] theorem B1_ownd (x) : owndL (B1 x) = true := by simp [B1, go_sem]
@[go_sem high] theorem B1_owndL (l : List _) : owndLL (l.map B1) = true := owndLL_map B1_ownd l
@[go_sem] theorem B1_ids (x) : idsL (B1 x) = [] := by simp [B1, go_sem]
@[go_sem high] theorem B1_idsL (l : List _) : (l.map B1).flatMap idsL = [] := flatids B1_ids l
theorem B1_tree (a) : ∀ x ∈ B1 a, x.tree = true := by simp [B1, go_sem]
@[go_sem high] theorem B1_treeL (l : List _) : (∀ c ∈ l.map B1, ∀ x ∈ c, AV.tree x = true) ↔ True := maptree B1_tree l
@[go_sem high] theorem S1_unL (l : List _) : unownLL (l.map S1) = l.map S1 := unownLL_map S1_un l
@[go_sem high] theorem S1_unM (l : List _) : (l.map S1).map (List.map unown) = l.map S1 := mapun S1_un l
@[go_sem] theorem S1_ownd (x) : owndL (S1 x) = true := by simp [S1, go_sem]
@[go_sem high] theorem S1_owndL (l : List _) : owndLL (l.map S1) = true := owndLL_map S1_ownd l
@[go_sem] theorem S1_ids (x) : idsL (S1 x) = [] := by simp [S1, go_sem]
@[go_sem high] theorem S1_idsL (l : List _) : (l.map S1).flatMap idsL = [] := flatids S1_ids l
theorem S1_tree (a) : ∀ x ∈ S1 a, x.tree = true := by simp [S1, go_sem]
@[go_sem high] theorem S1_treeL (l : List _) : (∀ c ∈ l.map S1, ∀ x ∈ c, AV.tree x = true) ↔ True := maptree S1_tree l

/-- impl.Node -/
structure TNode where
  kind : Int
  val : Int
  left : Int
  right : Int
  deriving DecidableEq
def TNode.ro (x : TNode) : List AV := [.int .i64 x.kind, .int .i64 x.val, .int .i64 x.left, .int .i64 x.right]
@[go_sem] theorem TNode_ro_eq (x : TNode) : x.ro = [.int .i64 x.kind, .int .i64 x.val, .int .i64 x.left, .int .i64 x.right] := rfl
theorem TNode_ro_un (x : TNode) : x.ro.map unown = x.ro := by simp [TNode.ro, go_sem]
@[go_sem high] theorem TNode_ro_unL (l : List _) : unownLL (l.map TNode.ro) = l.map TNode.ro := unownLL_map TNode_ro_un l
@[go_sem high] theorem TNode_ro_unM (l : List _) : (l.map TNode.ro).map (List.map unown) = l.map TNode.ro := mapun TNode_ro_un l
@[go_sem] theorem TNode_ro_ownd (x) : owndL (TNode.ro x) = true := by simp [TNode.ro, go_sem]
@[go_sem high] theorem TNode_ro_owndL (l : List _) : owndLL (l.map TNode.ro) = true := owndLL_map TNode_ro_ownd l
@[go_sem] theorem TNode_ro_ids (x) : idsL (TNode.ro x) = [] := by simp [TNode.ro, go_sem]
@[go_sem high] theorem TNode_ro_idsL (l : List _) : (l.map TNode.ro).flatMap idsL = [] := flatids TNode_ro_ids l
theorem TNode_ro_tree (a) : ∀ x ∈ TNode.ro a, x.tree = true := by simp [TNode.ro, go_sem]
@[go_sem high] theorem TNode_ro_treeL (l : List _) : (∀ c ∈ l.map TNode.ro, ∀ x ∈ c, AV.tree x = true) ↔ True := maptree TNode_ro_tree l

/-- impl.Step -/
structure TStep where
  kind : Int
  par : Int
  name : List UInt8
  arg : Int
  cond : List TNode
  expr : List TNode
  deriving DecidableEq
def TStep.ro (x : TStep) : List AV := [.int .i64 x.kind, .int .i64 x.par, .str x.name, .int .i64 x.arg, .isl 4 (x.cond.map TNode.ro), .isl 4 (x.expr.map TNode.ro)]
@[go_sem] theorem TStep_ro_eq (x : TStep) : x.ro = [.int .i64 x.kind, .int .i64 x.par, .str x.name, .int .i64 x.arg, .isl 4 (x.cond.map TNode.ro), .isl 4 (x.expr.map TNode.ro)] := rfl
def TStep.oc (x : TStep) : List AV := [.int .i64 x.kind, .int .i64 x.par, .str x.name, .int .i64 x.arg, owc 4 (x.cond.map TNode.ro), owc 4 (x.expr.map TNode.ro)]
theorem TStep_oc_un (x : TStep) : x.oc.map unown = x.ro := by simp [TStep.oc, TStep.ro, go_sem]
@[go_sem] theorem TStep_oc_eq (x : TStep) : x.oc = [.int .i64 x.kind, .int .i64 x.par, .str x.name, .int .i64 x.arg, owc 4 (x.cond.map TNode.ro), owc 4 (x.expr.map TNode.ro)] := rfl
@[go_sem high] theorem TStep_oc_unL (l : List _) : unownLL (l.map TStep.oc) = l.map TStep.ro := unownLL_map TStep_oc_un l
@[go_sem high] theorem TStep_oc_unM (l : List _) : (l.map TStep.oc).map (List.map unown) = l.map TStep.ro := mapun TStep_oc_un l
@[go_sem] theorem TStep_oc_ownd (x) : owndL (TStep.oc x) = true := by simp [TStep.oc, go_sem]
@[go_sem high] theorem TStep_oc_owndL (l : List _) : owndLL (l.map TStep.oc) = true := owndLL_map TStep_oc_ownd l
@[go_sem] theorem TStep_oc_ids (x) : idsL (TStep.oc x) = [] := by simp [TStep.oc, go_sem]
@[go_sem high] theorem TStep_oc_idsL (l : List _) : (l.map TStep.oc).flatMap idsL = [] := flatids TStep_oc_ids l
theorem TStep_oc_tree (a) : ∀ x ∈ TStep.oc a, x.tree = true := by simp [TStep.oc, go_sem]
@[go_sem high] theorem TStep_oc_treeL (l : List _) : (∀ c ∈ l.map TStep.oc, ∀ x ∈ c, AV.tree x = true) ↔ True := maptree TStep_oc_tree l
def TStep.sz (x : TStep) : Nat := x.name.length + x.cond.length + x.expr.length

/-- impl.GNode -/
structure TGNode where
  kind : Int
  step : Int
  name : List UInt8
  arg : Int
  expr : List TNode
  deriving DecidableEq
def TGNode.ro (x : TGNode) : List AV := [.int .i64 x.kind, .int .i64 x.step, .str x.name, .int .i64 x.arg, .isl 4 (x.expr.map TNode.ro)]
@[go_sem] theorem TGNode_ro_eq (x : TGNode) : x.ro = [.int .i64 x.kind, .int .i64 x.step, .str x.name, .int .i64 x.arg, .isl 4 (x.expr.map TNode.ro)] := rfl
def TGNode.oc (x : TGNode) : List AV := [.int .i64 x.kind, .int .i64 x.step, .str x.name, .int .i64 x.arg, owc 4 (x.expr.map TNode.ro)]
theorem TGNode_oc_un (x : TGNode) : x.oc.map unown = x.ro := by simp [TGNode.oc, TGNode.ro, go_sem]
@[go_sem] theorem TGNode_oc_eq (x : TGNode) : x.oc = [.int .i64 x.kind, .int .i64 x.step, .str x.name, .int .i64 x.arg, owc 4 (x.expr.map TNode.ro)] := rfl
@[go_sem high] theorem TGNode_oc_unL (l : List _) : unownLL (l.map TGNode.oc) = l.map TGNode.ro := unownLL_map TGNode_oc_un l
@[go_sem high] theorem TGNode_oc_unM (l : List _) : (l.map TGNode.oc).map (List.map unown) = l.map TGNode.ro := mapun TGNode_oc_un l
@[go_sem] theorem TGNode_oc_ownd (x) : owndL (TGNode.oc x) = true := by simp [TGNode.oc, go_sem]
@[go_sem high] theorem TGNode_oc_owndL (l : List _) : owndLL (l.map TGNode.oc) = true := owndLL_map TGNode_oc_ownd l
@[go_sem] theorem TGNode_oc_ids (x) : idsL (TGNode.oc x) = [] := by simp [TGNode.oc, go_sem]
@[go_sem high] theorem TGNode_oc_idsL (l : List _) : (l.map TGNode.oc).flatMap idsL = [] := flatids TGNode_oc_ids l
theorem TGNode_oc_tree (a) : ∀ x ∈ TGNode.oc a, x.tree = true := by simp [TGNode.oc, go_sem]
@[go_sem high] theorem TGNode_oc_treeL (l : List _) : (∀ c ∈ l.map TGNode.oc, ∀ x ∈ c, AV.tree x = true) ↔ True := maptree TGNode_oc_tree l
def TGNode.sz (x : TGNode) : Nat := x.name.length + x.expr.length

/-- impl.Flow -/
structure TFlow where
  frm : Int
  to : Int
  cond : List TNode
  deriving DecidableEq
def TFlow.ro (x : TFlow) : List AV := [.int .i64 x.frm, .int .i64 x.to, .isl 4 (x.cond.map TNode.ro)]
@[go_sem] theorem TFlow_ro_eq (x : TFlow) : x.ro = [.int .i64 x.frm, .int .i64 x.to, .isl 4 (x.cond.map TNode.ro)] := rfl
def TFlow.oc (x : TFlow) : List AV := [.int .i64 x.frm, .int .i64 x.to, owc 4 (x.cond.map TNode.ro)]
theorem TFlow_oc_un (x : TFlow) : x.oc.map unown = x.ro := by simp [TFlow.oc, TFlow.ro, go_sem]
@[go_sem] theorem TFlow_oc_eq (x : TFlow) : x.oc = [.int .i64 x.frm, .int .i64 x.to, owc 4 (x.cond.map TNode.ro)] := rfl
@[go_sem high] theorem TFlow_oc_unL (l : List _) : unownLL (l.map TFlow.oc) = l.map TFlow.ro := unownLL_map TFlow_oc_un l
@[go_sem high] theorem TFlow_oc_unM (l : List _) : (l.map TFlow.oc).map (List.map unown) = l.map TFlow.ro := mapun TFlow_oc_un l
@[go_sem] theorem TFlow_oc_ownd (x) : owndL (TFlow.oc x) = true := by simp [TFlow.oc, go_sem]
@[go_sem high] theorem TFlow_oc_owndL (l : List _) : owndLL (l.map TFlow.oc) = true := owndLL_map TFlow_oc_ownd l
@[go_sem] theorem TFlow_oc_ids (x) : idsL (TFlow.oc x) = [] := by simp [TFlow.oc, go_sem]
@[go_sem high] theorem TFlow_oc_idsL (l : List _) : (l.map TFlow.oc).flatMap idsL = [] := flatids TFlow_oc_ids l
theorem TFlow_oc_tree (a) : ∀ x ∈ TFlow.oc a, x.tree = true := by simp [TFlow.oc, go_sem]
@[go_sem high] theorem TFlow_oc_treeL (l : List _) : (∀ c ∈ l.map TFlow.oc, ∀ x ∈ c, AV.tree x = true) ↔ True := maptree TFlow_oc_tree l
def TFlow.sz (x : TFlow) : Nat := x.cond.length

/-- impl.Graph -/
structure TGraph where
  nodes : List TGNode
  flows : List TFlow
  deriving DecidableEq
def TGraph.ro (x : TGraph) : List AV := [.isl 5 (x.nodes.map TGNode.ro), .isl 3 (x.flows.map TFlow.ro)]
@[go_sem] theorem TGraph_ro_eq (x : TGraph) : x.ro = [.isl 5 (x.nodes.map TGNode.ro), .isl 3 (x.flows.map TFlow.ro)] := rfl
def TGraph.oc (x : TGraph) : List AV := [owc 5 (x.nodes.map TGNode.oc), owc 3 (x.flows.map TFlow.oc)]
theorem TGraph_oc_un (x : TGraph) : x.oc.map unown = x.ro := by simp [TGraph.oc, TGraph.ro, go_sem]
@[go_sem] theorem TGraph_oc_eq (x : TGraph) : x.oc = [owc 5 (x.nodes.map TGNode.oc), owc 3 (x.flows.map TFlow.oc)] := rfl
@[go_sem high] theorem TGraph_oc_unL (l : List _) : unownLL (l.map TGraph.oc) = l.map TGraph.ro := unownLL_map TGraph_oc_un l
@[go_sem high] theorem TGraph_oc_unM (l : List _) : (l.map TGraph.oc).map (List.map unown) = l.map TGraph.ro := mapun TGraph_oc_un l
@[go_sem] theorem TGraph_oc_ownd (x) : owndL (TGraph.oc x) = true := by simp [TGraph.oc, go_sem]
@[go_sem high] theorem TGraph_oc_owndL (l : List _) : owndLL (l.map TGraph.oc) = true := owndLL_map TGraph_oc_ownd l
@[go_sem] theorem TGraph_oc_ids (x) : idsL (TGraph.oc x) = [] := by simp [TGraph.oc, go_sem]
@[go_sem high] theorem TGraph_oc_idsL (l : List _) : (l.map TGraph.oc).flatMap idsL = [] := flatids TGraph_oc_ids l
theorem TGraph_oc_tree (a) : ∀ x ∈ TGraph.oc a, x.tree = true := by simp [TGraph.oc, go_sem]
@[go_sem high] theorem TGraph_oc_treeL (l : List _) : (∀ c ∈ l.map TGraph.oc, ∀ x ∈ c, AV.tree x = true) ↔ True := maptree TGraph_oc_tree l
def TGraph.sz (x : TGraph) : Nat := (x.nodes.length + (x.nodes.map TGNode.sz).sum) + (x.flows.length + (x.flows.map TFlow.sz).sum)

/-- impl.Run -/
structure TRun where
  status : Int
  now : Int
  vars : List Int
  marks : List Int
  dues : List Int
  deriving DecidableEq
def TRun.ro (x : TRun) : List AV := [.int .i64 x.status, .int .i64 x.now, .isl 1 (x.vars.map I1), .isl 1 (x.marks.map I1), .isl 1 (x.dues.map I1)]
@[go_sem] theorem TRun_ro_eq (x : TRun) : x.ro = [.int .i64 x.status, .int .i64 x.now, .isl 1 (x.vars.map I1), .isl 1 (x.marks.map I1), .isl 1 (x.dues.map I1)] := rfl
def TRun.oc (x : TRun) : List AV := [.int .i64 x.status, .int .i64 x.now, owc 1 (x.vars.map I1), owc 1 (x.marks.map I1), owc 1 (x.dues.map I1)]
theorem TRun_oc_un (x : TRun) : x.oc.map unown = x.ro := by simp [TRun.oc, TRun.ro, go_sem]
@[go_sem] theorem TRun_oc_eq (x : TRun) : x.oc = [.int .i64 x.status, .int .i64 x.now, owc 1 (x.vars.map I1), owc 1 (x.marks.map I1), owc 1 (x.dues.map I1)] := rfl
@[go_sem high] theorem TRun_oc_unL (l : List _) : unownLL (l.map TRun.oc) = l.map TRun.ro := unownLL_map TRun_oc_un l
@[go_sem high] theorem TRun_oc_unM (l : List _) : (l.map TRun.oc).map (List.map unown) = l.map TRun.ro := mapun TRun_oc_un l
@[go_sem] theorem TRun_oc_ownd (x) : owndL (TRun.oc x) = true := by simp [TRun.oc, go_sem]
@[go_sem high] theorem TRun_oc_owndL (l : List _) : owndLL (l.map TRun.oc) = true := owndLL_map TRun_oc_ownd l
@[go_sem] theorem TRun_oc_ids (x) : idsL (TRun.oc x) = [] := by simp [TRun.oc, go_sem]
@[go_sem high] theorem TRun_oc_idsL (l : List _) : (l.map TRun.oc).flatMap idsL = [] := flatids TRun_oc_ids l
theorem TRun_oc_tree (a) : ∀ x ∈ TRun.oc a, x.tree = true := by simp [TRun.oc, go_sem]
@[go_sem high] theorem TRun_oc_treeL (l : List _) : (∀ c ∈ l.map TRun.oc, ∀ x ∈ c, AV.tree x = true) ↔ True := maptree TRun_oc_tree l
def TRun.sz (x : TRun) : Nat := x.vars.length + x.marks.length + x.dues.length

/-- impl.Chart -/
structure TChart where
  status : Int
  now : Int
  vars : List Int
  acts : List Int
  dues : List Int
  deriving DecidableEq
def TChart.ro (x : TChart) : List AV := [.int .i64 x.status, .int .i64 x.now, .isl 1 (x.vars.map I1), .isl 1 (x.acts.map I1), .isl 1 (x.dues.map I1)]
@[go_sem] theorem TChart_ro_eq (x : TChart) : x.ro = [.int .i64 x.status, .int .i64 x.now, .isl 1 (x.vars.map I1), .isl 1 (x.acts.map I1), .isl 1 (x.dues.map I1)] := rfl
def TChart.oc (x : TChart) : List AV := [.int .i64 x.status, .int .i64 x.now, owc 1 (x.vars.map I1), owc 1 (x.acts.map I1), owc 1 (x.dues.map I1)]
theorem TChart_oc_un (x : TChart) : x.oc.map unown = x.ro := by simp [TChart.oc, TChart.ro, go_sem]
@[go_sem] theorem TChart_oc_eq (x : TChart) : x.oc = [.int .i64 x.status, .int .i64 x.now, owc 1 (x.vars.map I1), owc 1 (x.acts.map I1), owc 1 (x.dues.map I1)] := rfl
@[go_sem high] theorem TChart_oc_unL (l : List _) : unownLL (l.map TChart.oc) = l.map TChart.ro := unownLL_map TChart_oc_un l
@[go_sem high] theorem TChart_oc_unM (l : List _) : (l.map TChart.oc).map (List.map unown) = l.map TChart.ro := mapun TChart_oc_un l
@[go_sem] theorem TChart_oc_ownd (x) : owndL (TChart.oc x) = true := by simp [TChart.oc, go_sem]
@[go_sem high] theorem TChart_oc_owndL (l : List _) : owndLL (l.map TChart.oc) = true := owndLL_map TChart_oc_ownd l
@[go_sem] theorem TChart_oc_ids (x) : idsL (TChart.oc x) = [] := by simp [TChart.oc, go_sem]
@[go_sem high] theorem TChart_oc_idsL (l : List _) : (l.map TChart.oc).flatMap idsL = [] := flatids TChart_oc_ids l
theorem TChart_oc_tree (a) : ∀ x ∈ TChart.oc a, x.tree = true := by simp [TChart.oc, go_sem]
@[go_sem high] theorem TChart_oc_treeL (l : List _) : (∀ c ∈ l.map TChart.oc, ∀ x ∈ c, AV.tree x = true) ↔ True := maptree TChart_oc_tree l
def TChart.sz (x : TChart) : Nat := x.vars.length + x.acts.length + x.dues.length

/-- impl.Act -/
structure TAct where
  kind : Int
  at_ : Int
  vars : List Int
  deriving DecidableEq
def TAct.ro (x : TAct) : List AV := [.int .i64 x.kind, .int .i64 x.at_, .isl 1 (x.vars.map I1)]
@[go_sem] theorem TAct_ro_eq (x : TAct) : x.ro = [.int .i64 x.kind, .int .i64 x.at_, .isl 1 (x.vars.map I1)] := rfl
def TAct.oc (x : TAct) : List AV := [.int .i64 x.kind, .int .i64 x.at_, owc 1 (x.vars.map I1)]
theorem TAct_oc_un (x : TAct) : x.oc.map unown = x.ro := by simp [TAct.oc, TAct.ro, go_sem]
@[go_sem] theorem TAct_oc_eq (x : TAct) : x.oc = [.int .i64 x.kind, .int .i64 x.at_, owc 1 (x.vars.map I1)] := rfl
@[go_sem high] theorem TAct_oc_unL (l : List _) : unownLL (l.map TAct.oc) = l.map TAct.ro := unownLL_map TAct_oc_un l
@[go_sem high] theorem TAct_oc_unM (l : List _) : (l.map TAct.oc).map (List.map unown) = l.map TAct.ro := mapun TAct_oc_un l
@[go_sem] theorem TAct_oc_ownd (x) : owndL (TAct.oc x) = true := by simp [TAct.oc, go_sem]
@[go_sem high] theorem TAct_oc_owndL (l : List _) : owndLL (l.map TAct.oc) = true := owndLL_map TAct_oc_ownd l
@[go_sem] theorem TAct_oc_ids (x) : idsL (TAct.oc x) = [] := by simp [TAct.oc, go_sem]
@[go_sem high] theorem TAct_oc_idsL (l : List _) : (l.map TAct.oc).flatMap idsL = [] := flatids TAct_oc_ids l
theorem TAct_oc_tree (a) : ∀ x ∈ TAct.oc a, x.tree = true := by simp [TAct.oc, go_sem]
@[go_sem high] theorem TAct_oc_treeL (l : List _) : (∀ c ∈ l.map TAct.oc, ∀ x ∈ c, AV.tree x = true) ↔ True := maptree TAct_oc_tree l
def TAct.sz (x : TAct) : Nat := x.vars.length

/-- impl.Proc -/
structure TProc where
  steps : List TStep
  deriving DecidableEq
def TProc.ro (x : TProc) : List AV := [.isl 6 (x.steps.map TStep.ro)]
@[go_sem] theorem TProc_ro_eq (x : TProc) : x.ro = [.isl 6 (x.steps.map TStep.ro)] := rfl
def TProc.oc (x : TProc) : List AV := [owc 6 (x.steps.map TStep.oc)]
theorem TProc_oc_un (x : TProc) : x.oc.map unown = x.ro := by simp [TProc.oc, TProc.ro, go_sem]
@[go_sem] theorem TProc_oc_eq (x : TProc) : x.oc = [owc 6 (x.steps.map TStep.oc)] := rfl
@[go_sem high] theorem TProc_oc_unL (l : List _) : unownLL (l.map TProc.oc) = l.map TProc.ro := unownLL_map TProc_oc_un l
@[go_sem high] theorem TProc_oc_unM (l : List _) : (l.map TProc.oc).map (List.map unown) = l.map TProc.ro := mapun TProc_oc_un l
@[go_sem] theorem TProc_oc_ownd (x) : owndL (TProc.oc x) = true := by simp [TProc.oc, go_sem]
@[go_sem high] theorem TProc_oc_owndL (l : List _) : owndLL (l.map TProc.oc) = true := owndLL_map TProc_oc_ownd l
@[go_sem] theorem TProc_oc_ids (x) : idsL (TProc.oc x) = [] := by simp [TProc.oc, go_sem]
@[go_sem high] theorem TProc_oc_idsL (l : List _) : (l.map TProc.oc).flatMap idsL = [] := flatids TProc_oc_ids l
theorem TProc_oc_tree (a) : ∀ x ∈ TProc.oc a, x.tree = true := by simp [TProc.oc, go_sem]
@[go_sem high] theorem TProc_oc_treeL (l : List _) : (∀ c ∈ l.map TProc.oc, ∀ x ∈ c, AV.tree x = true) ↔ True := maptree TProc_oc_tree l
def TProc.sz (x : TProc) : Nat := (x.steps.length + (x.steps.map TStep.sz).sum)

/-- impl.Inst -/
structure TInst where
  proc : Int
  chart : TChart
  deriving DecidableEq
def TInst.ro (x : TInst) : List AV := [.int .i64 x.proc, .int .i64 x.chart.status, .int .i64 x.chart.now, .isl 1 (x.chart.vars.map I1), .isl 1 (x.chart.acts.map I1), .isl 1 (x.chart.dues.map I1)]
@[go_sem] theorem TInst_ro_eq (x : TInst) : x.ro = [.int .i64 x.proc, .int .i64 x.chart.status, .int .i64 x.chart.now, .isl 1 (x.chart.vars.map I1), .isl 1 (x.chart.acts.map I1), .isl 1 (x.chart.dues.map I1)] := rfl
def TInst.oc (x : TInst) : List AV := [.int .i64 x.proc, .int .i64 x.chart.status, .int .i64 x.chart.now, owc 1 (x.chart.vars.map I1), owc 1 (x.chart.acts.map I1), owc 1 (x.chart.dues.map I1)]
theorem TInst_oc_un (x : TInst) : x.oc.map unown = x.ro := by simp [TInst.oc, TInst.ro, go_sem]
@[go_sem] theorem TInst_oc_eq (x : TInst) : x.oc = [.int .i64 x.proc, .int .i64 x.chart.status, .int .i64 x.chart.now, owc 1 (x.chart.vars.map I1), owc 1 (x.chart.acts.map I1), owc 1 (x.chart.dues.map I1)] := rfl
@[go_sem high] theorem TInst_oc_unL (l : List _) : unownLL (l.map TInst.oc) = l.map TInst.ro := unownLL_map TInst_oc_un l
@[go_sem high] theorem TInst_oc_unM (l : List _) : (l.map TInst.oc).map (List.map unown) = l.map TInst.ro := mapun TInst_oc_un l
@[go_sem] theorem TInst_oc_ownd (x) : owndL (TInst.oc x) = true := by simp [TInst.oc, go_sem]
@[go_sem high] theorem TInst_oc_owndL (l : List _) : owndLL (l.map TInst.oc) = true := owndLL_map TInst_oc_ownd l
@[go_sem] theorem TInst_oc_ids (x) : idsL (TInst.oc x) = [] := by simp [TInst.oc, go_sem]
@[go_sem high] theorem TInst_oc_idsL (l : List _) : (l.map TInst.oc).flatMap idsL = [] := flatids TInst_oc_ids l
theorem TInst_oc_tree (a) : ∀ x ∈ TInst.oc a, x.tree = true := by simp [TInst.oc, go_sem]
@[go_sem high] theorem TInst_oc_treeL (l : List _) : (∀ c ∈ l.map TInst.oc, ∀ x ∈ c, AV.tree x = true) ↔ True := maptree TInst_oc_tree l
def TInst.sz (x : TInst) : Nat := x.chart.sz

/-- impl.Engine -/
structure TEngine where
  procs : List TProc
  insts : List TInst
  now : Int
  deriving DecidableEq
def TEngine.ro (x : TEngine) : List AV := [.isl 1 (x.procs.map TProc.ro), .isl 6 (x.insts.map TInst.ro), .int .i64 x.now]
@[go_sem] theorem TEngine_ro_eq (x : TEngine) : x.ro = [.isl 1 (x.procs.map TProc.ro), .isl 6 (x.insts.map TInst.ro), .int .i64 x.now] := rfl
def TEngine.oc (x : TEngine) : List AV := [owc 1 (x.procs.map TProc.oc), owc 6 (x.insts.map TInst.oc), .int .i64 x.now]
theorem TEngine_oc_un (x : TEngine) : x.oc.map unown = x.ro := by simp [TEngine.oc, TEngine.ro, go_sem]
@[go_sem] theorem TEngine_oc_eq (x : TEngine) : x.oc = [owc 1 (x.procs.map TProc.oc), owc 6 (x.insts.map TInst.oc), .int .i64 x.now] := rfl
@[go_sem high] theorem TEngine_oc_unL (l : List _) : unownLL (l.map TEngine.oc) = l.map TEngine.ro := unownLL_map TEngine_oc_un l
@[go_sem high] theorem TEngine_oc_unM (l : List _) : (l.map TEngine.oc).map (List.map unown) = l.map TEngine.ro := mapun TEngine_oc_un l
@[go_sem] theorem TEngine_oc_ownd (x) : owndL (TEngine.oc x) = true := by simp [TEngine.oc, go_sem]
@[go_sem high] theorem TEngine_oc_owndL (l : List _) : owndLL (l.map TEngine.oc) = true := owndLL_map TEngine_oc_ownd l
@[go_sem] theorem TEngine_oc_ids (x) : idsL (TEngine.oc x) = [] := by simp [TEngine.oc, go_sem]
@[go_sem high] theorem TEngine_oc_idsL (l : List _) : (l.map TEngine.oc).flatMap idsL = [] := flatids TEngine_oc_ids l
theorem TEngine_oc_tree (a) : ∀ x ∈ TEngine.oc a, x.tree = true := by simp [TEngine.oc, go_sem]
@[go_sem high] theorem TEngine_oc_treeL (l : List _) : (∀ c ∈ l.map TEngine.oc, ∀ x ∈ c, AV.tree x = true) ↔ True := maptree TEngine_oc_tree l
def TEngine.sz (x : TEngine) : Nat := (x.procs.length + (x.procs.map TProc.sz).sum) + (x.insts.length + (x.insts.map TInst.sz).sum)

/-- impl.Claim -/
structure TClaim where
  inst : Int
  step : Int
  user : Int
  deriving DecidableEq
def TClaim.ro (x : TClaim) : List AV := [.int .i64 x.inst, .int .i64 x.step, .int .i64 x.user]
@[go_sem] theorem TClaim_ro_eq (x : TClaim) : x.ro = [.int .i64 x.inst, .int .i64 x.step, .int .i64 x.user] := rfl
theorem TClaim_ro_un (x : TClaim) : x.ro.map unown = x.ro := by simp [TClaim.ro, go_sem]
@[go_sem high] theorem TClaim_ro_unL (l : List _) : unownLL (l.map TClaim.ro) = l.map TClaim.ro := unownLL_map TClaim_ro_un l
@[go_sem high] theorem TClaim_ro_unM (l : List _) : (l.map TClaim.ro).map (List.map unown) = l.map TClaim.ro := mapun TClaim_ro_un l
@[go_sem] theorem TClaim_ro_ownd (x) : owndL (TClaim.ro x) = true := by simp [TClaim.ro, go_sem]
@[go_sem high] theorem TClaim_ro_owndL (l : List _) : owndLL (l.map TClaim.ro) = true := owndLL_map TClaim_ro_ownd l
@[go_sem] theorem TClaim_ro_ids (x) : idsL (TClaim.ro x) = [] := by simp [TClaim.ro, go_sem]
@[go_sem high] theorem TClaim_ro_idsL (l : List _) : (l.map TClaim.ro).flatMap idsL = [] := flatids TClaim_ro_ids l
theorem TClaim_ro_tree (a) : ∀ x ∈ TClaim.ro a, x.tree = true := by simp [TClaim.ro, go_sem]
@[go_sem high] theorem TClaim_ro_treeL (l : List _) : (∀ c ∈ l.map TClaim.ro, ∀ x ∈ c, AV.tree x = true) ↔ True := maptree TClaim_ro_tree l

/-- impl.Desk -/
structure TDesk where
  engine : TEngine
  claims : List TClaim
  deriving DecidableEq
def TDesk.ro (x : TDesk) : List AV := [.isl 1 (x.engine.procs.map TProc.ro), .isl 6 (x.engine.insts.map TInst.ro), .int .i64 x.engine.now, .isl 3 (x.claims.map TClaim.ro)]
@[go_sem] theorem TDesk_ro_eq (x : TDesk) : x.ro = [.isl 1 (x.engine.procs.map TProc.ro), .isl 6 (x.engine.insts.map TInst.ro), .int .i64 x.engine.now, .isl 3 (x.claims.map TClaim.ro)] := rfl
def TDesk.oc (x : TDesk) : List AV := [owc 1 (x.engine.procs.map TProc.oc), owc 6 (x.engine.insts.map TInst.oc), .int .i64 x.engine.now, owc 3 (x.claims.map TClaim.ro)]
theorem TDesk_oc_un (x : TDesk) : x.oc.map unown = x.ro := by simp [TDesk.oc, TDesk.ro, go_sem]
@[go_sem] theorem TDesk_oc_eq (x : TDesk) : x.oc = [owc 1 (x.engine.procs.map TProc.oc), owc 6 (x.engine.insts.map TInst.oc), .int .i64 x.engine.now, owc 3 (x.claims.map TClaim.ro)] := rfl
@[go_sem high] theorem TDesk_oc_unL (l : List _) : unownLL (l.map TDesk.oc) = l.map TDesk.ro := unownLL_map TDesk_oc_un l
@[go_sem high] theorem TDesk_oc_unM (l : List _) : (l.map TDesk.oc).map (List.map unown) = l.map TDesk.ro := mapun TDesk_oc_un l
@[go_sem] theorem TDesk_oc_ownd (x) : owndL (TDesk.oc x) = true := by simp [TDesk.oc, go_sem]
@[go_sem high] theorem TDesk_oc_owndL (l : List _) : owndLL (l.map TDesk.oc) = true := owndLL_map TDesk_oc_ownd l
@[go_sem] theorem TDesk_oc_ids (x) : idsL (TDesk.oc x) = [] := by simp [TDesk.oc, go_sem]
@[go_sem high] theorem TDesk_oc_idsL (l : List _) : (l.map TDesk.oc).flatMap idsL = [] := flatids TDesk_oc_ids l
theorem TDesk_oc_tree (a) : ∀ x ∈ TDesk.oc a, x.tree = true := by simp [TDesk.oc, go_sem]
@[go_sem high] theorem TDesk_oc_treeL (l : List _) : (∀ c ∈ l.map TDesk.oc, ∀ x ∈ c, AV.tree x = true) ↔ True := maptree TDesk_oc_tree l
def TDesk.sz (x : TDesk) : Nat := x.engine.sz + x.claims.length

/-- impl.Journal -/
structure TJournal where
  sure : List UInt8
  loose : List UInt8
  deriving DecidableEq
def TJournal.ro (x : TJournal) : List AV := [.isl 1 (x.sure.map B1), .isl 1 (x.loose.map B1)]
@[go_sem] theorem TJournal_ro_eq (x : TJournal) : x.ro = [.isl 1 (x.sure.map B1), .isl 1 (x.loose.map B1)] := rfl
def TJournal.oc (x : TJournal) : List AV := [owc 1 (x.sure.map B1), owc 1 (x.loose.map B1)]
theorem TJournal_oc_un (x : TJournal) : x.oc.map unown = x.ro := by simp [TJournal.oc, TJournal.ro, go_sem]
@[go_sem] theorem TJournal_oc_eq (x : TJournal) : x.oc = [owc 1 (x.sure.map B1), owc 1 (x.loose.map B1)] := rfl
@[go_sem high] theorem TJournal_oc_unL (l : List _) : unownLL (l.map TJournal.oc) = l.map TJournal.ro := unownLL_map TJournal_oc_un l
@[go_sem high] theorem TJournal_oc_unM (l : List _) : (l.map TJournal.oc).map (List.map unown) = l.map TJournal.ro := mapun TJournal_oc_un l
@[go_sem] theorem TJournal_oc_ownd (x) : owndL (TJournal.oc x) = true := by simp [TJournal.oc, go_sem]
@[go_sem high] theorem TJournal_oc_owndL (l : List _) : owndLL (l.map TJournal.oc) = true := owndLL_map TJournal_oc_ownd l
@[go_sem] theorem TJournal_oc_ids (x) : idsL (TJournal.oc x) = [] := by simp [TJournal.oc, go_sem]
@[go_sem high] theorem TJournal_oc_idsL (l : List _) : (l.map TJournal.oc).flatMap idsL = [] := flatids TJournal_oc_ids l
theorem TJournal_oc_tree (a) : ∀ x ∈ TJournal.oc a, x.tree = true := by simp [TJournal.oc, go_sem]
@[go_sem high] theorem TJournal_oc_treeL (l : List _) : (∀ c ∈ l.map TJournal.oc, ∀ x ∈ c, AV.tree x = true) ↔ True := maptree TJournal_oc_tree l
def TJournal.sz (x : TJournal) : Nat := x.sure.length + x.loose.length

/-- impl.World -/
structure TWorld where
  desk : TDesk
  journal : TJournal
  deriving DecidableEq
def TWorld.ro (x : TWorld) : List AV := [.isl 1 (x.desk.engine.procs.map TProc.ro), .isl 6 (x.desk.engine.insts.map TInst.ro), .int .i64 x.desk.engine.now, .isl 3 (x.desk.claims.map TClaim.ro), .isl 1 (x.journal.sure.map B1), .isl 1 (x.journal.loose.map B1)]
@[go_sem] theorem TWorld_ro_eq (x : TWorld) : x.ro = [.isl 1 (x.desk.engine.procs.map TProc.ro), .isl 6 (x.desk.engine.insts.map TInst.ro), .int .i64 x.desk.engine.now, .isl 3 (x.desk.claims.map TClaim.ro), .isl 1 (x.journal.sure.map B1), .isl 1 (x.journal.loose.map B1)] := rfl
def TWorld.oc (x : TWorld) : List AV := [owc 1 (x.desk.engine.procs.map TProc.oc), owc 6 (x.desk.engine.insts.map TInst.oc), .int .i64 x.desk.engine.now, owc 3 (x.desk.claims.map TClaim.ro), owc 1 (x.journal.sure.map B1), owc 1 (x.journal.loose.map B1)]
theorem TWorld_oc_un (x : TWorld) : x.oc.map unown = x.ro := by simp [TWorld.oc, TWorld.ro, go_sem]
@[go_sem] theorem TWorld_oc_eq (x : TWorld) : x.oc = [owc 1 (x.desk.engine.procs.map TProc.oc), owc 6 (x.desk.engine.insts.map TInst.oc), .int .i64 x.desk.engine.now, owc 3 (x.desk.claims.map TClaim.ro), owc 1 (x.journal.sure.map B1), owc 1 (x.journal.loose.map B1)] := rfl
@[go_sem high] theorem TWorld_oc_unL (l : List _) : unownLL (l.map TWorld.oc) = l.map TWorld.ro := unownLL_map TWorld_oc_un l
@[go_sem high] theorem TWorld_oc_unM (l : List _) : (l.map TWorld.oc).map (List.map unown) = l.map TWorld.ro := mapun TWorld_oc_un l
@[go_sem] theorem TWorld_oc_ownd (x) : owndL (TWorld.oc x) = true := by simp [TWorld.oc, go_sem]
@[go_sem high] theorem TWorld_oc_owndL (l : List _) : owndLL (l.map TWorld.oc) = true := owndLL_map TWorld_oc_ownd l
@[go_sem] theorem TWorld_oc_ids (x) : idsL (TWorld.oc x) = [] := by simp [TWorld.oc, go_sem]
@[go_sem high] theorem TWorld_oc_idsL (l : List _) : (l.map TWorld.oc).flatMap idsL = [] := flatids TWorld_oc_ids l
theorem TWorld_oc_tree (a) : ∀ x ∈ TWorld.oc a, x.tree = true := by simp [TWorld.oc, go_sem]
@[go_sem high] theorem TWorld_oc_treeL (l : List _) : (∀ c ∈ l.map TWorld.oc, ∀ x ∈ c, AV.tree x = true) ↔ True := maptree TWorld_oc_tree l
def TWorld.sz (x : TWorld) : Nat := x.desk.sz + x.journal.sz

/-- impl.IntResult -/
structure TIntResult where
  code : Int
  val : Int
  deriving DecidableEq
def TIntResult.ro (x : TIntResult) : List AV := [.int .i64 x.code, .int .i64 x.val]
@[go_sem] theorem TIntResult_ro_eq (x : TIntResult) : x.ro = [.int .i64 x.code, .int .i64 x.val] := rfl
theorem TIntResult_ro_un (x : TIntResult) : x.ro.map unown = x.ro := by simp [TIntResult.ro, go_sem]
@[go_sem high] theorem TIntResult_ro_unL (l : List _) : unownLL (l.map TIntResult.ro) = l.map TIntResult.ro := unownLL_map TIntResult_ro_un l
@[go_sem high] theorem TIntResult_ro_unM (l : List _) : (l.map TIntResult.ro).map (List.map unown) = l.map TIntResult.ro := mapun TIntResult_ro_un l
@[go_sem] theorem TIntResult_ro_ownd (x) : owndL (TIntResult.ro x) = true := by simp [TIntResult.ro, go_sem]
@[go_sem high] theorem TIntResult_ro_owndL (l : List _) : owndLL (l.map TIntResult.ro) = true := owndLL_map TIntResult_ro_ownd l
@[go_sem] theorem TIntResult_ro_ids (x) : idsL (TIntResult.ro x) = [] := by simp [TIntResult.ro, go_sem]
@[go_sem high] theorem TIntResult_ro_idsL (l : List _) : (l.map TIntResult.ro).flatMap idsL = [] := flatids TIntResult_ro_ids l
theorem TIntResult_ro_tree (a) : ∀ x ∈ TIntResult.ro a, x.tree = true := by simp [TIntResult.ro, go_sem]
@[go_sem high] theorem TIntResult_ro_treeL (l : List _) : (∀ c ∈ l.map TIntResult.ro, ∀ x ∈ c, AV.tree x = true) ↔ True := maptree TIntResult_ro_tree l

/-- impl.IntsResult -/
structure TIntsResult where
  code : Int
  list : List Int
  deriving DecidableEq
def TIntsResult.ro (x : TIntsResult) : List AV := [.int .i64 x.code, .isl 1 (x.list.map I1)]
@[go_sem] theorem TIntsResult_ro_eq (x : TIntsResult) : x.ro = [.int .i64 x.code, .isl 1 (x.list.map I1)] := rfl
def TIntsResult.oc (x : TIntsResult) : List AV := [.int .i64 x.code, owc 1 (x.list.map I1)]
theorem TIntsResult_oc_un (x : TIntsResult) : x.oc.map unown = x.ro := by simp [TIntsResult.oc, TIntsResult.ro, go_sem]
@[go_sem] theorem TIntsResult_oc_eq (x : TIntsResult) : x.oc = [.int .i64 x.code, owc 1 (x.list.map I1)] := rfl
@[go_sem high] theorem TIntsResult_oc_unL (l : List _) : unownLL (l.map TIntsResult.oc) = l.map TIntsResult.ro := unownLL_map TIntsResult_oc_un l
@[go_sem high] theorem TIntsResult_oc_unM (l : List _) : (l.map TIntsResult.oc).map (List.map unown) = l.map TIntsResult.ro := mapun TIntsResult_oc_un l
@[go_sem] theorem TIntsResult_oc_ownd (x) : owndL (TIntsResult.oc x) = true := by simp [TIntsResult.oc, go_sem]
@[go_sem high] theorem TIntsResult_oc_owndL (l : List _) : owndLL (l.map TIntsResult.oc) = true := owndLL_map TIntsResult_oc_ownd l
@[go_sem] theorem TIntsResult_oc_ids (x) : idsL (TIntsResult.oc x) = [] := by simp [TIntsResult.oc, go_sem]
@[go_sem high] theorem TIntsResult_oc_idsL (l : List _) : (l.map TIntsResult.oc).flatMap idsL = [] := flatids TIntsResult_oc_ids l
theorem TIntsResult_oc_tree (a) : ∀ x ∈ TIntsResult.oc a, x.tree = true := by simp [TIntsResult.oc, go_sem]
@[go_sem high] theorem TIntsResult_oc_treeL (l : List _) : (∀ c ∈ l.map TIntsResult.oc, ∀ x ∈ c, AV.tree x = true) ↔ True := maptree TIntsResult_oc_tree l
def TIntsResult.sz (x : TIntsResult) : Nat := x.list.length

/-- impl.TextResult -/
structure TTextResult where
  code : Int
  text : List UInt8
  deriving DecidableEq
def TTextResult.ro (x : TTextResult) : List AV := [.int .i64 x.code, .str x.text]
@[go_sem] theorem TTextResult_ro_eq (x : TTextResult) : x.ro = [.int .i64 x.code, .str x.text] := rfl
theorem TTextResult_ro_un (x : TTextResult) : x.ro.map unown = x.ro := by simp [TTextResult.ro, go_sem]
@[go_sem high] theorem TTextResult_ro_unL (l : List _) : unownLL (l.map TTextResult.ro) = l.map TTextResult.ro := unownLL_map TTextResult_ro_un l
@[go_sem high] theorem TTextResult_ro_unM (l : List _) : (l.map TTextResult.ro).map (List.map unown) = l.map TTextResult.ro := mapun TTextResult_ro_un l
@[go_sem] theorem TTextResult_ro_ownd (x) : owndL (TTextResult.ro x) = true := by simp [TTextResult.ro, go_sem]
@[go_sem high] theorem TTextResult_ro_owndL (l : List _) : owndLL (l.map TTextResult.ro) = true := owndLL_map TTextResult_ro_ownd l
@[go_sem] theorem TTextResult_ro_ids (x) : idsL (TTextResult.ro x) = [] := by simp [TTextResult.ro, go_sem]
@[go_sem high] theorem TTextResult_ro_idsL (l : List _) : (l.map TTextResult.ro).flatMap idsL = [] := flatids TTextResult_ro_ids l
theorem TTextResult_ro_tree (a) : ∀ x ∈ TTextResult.ro a, x.tree = true := by simp [TTextResult.ro, go_sem]
@[go_sem high] theorem TTextResult_ro_treeL (l : List _) : (∀ c ∈ l.map TTextResult.ro, ∀ x ∈ c, AV.tree x = true) ↔ True := maptree TTextResult_ro_tree l
def TTextResult.sz (x : TTextResult) : Nat := x.text.length

/-- impl.BytesResult -/
structure TBytesResult where
  code : Int
  bytes : List UInt8
  deriving DecidableEq
def TBytesResult.ro (x : TBytesResult) : List AV := [.int .i64 x.code, .isl 1 (x.bytes.map B1)]
@[go_sem] theorem TBytesResult_ro_eq (x : TBytesResult) : x.ro = [.int .i64 x.code, .isl 1 (x.bytes.map B1)] := rfl
def TBytesResult.oc (x : TBytesResult) : List AV := [.int .i64 x.code, owc 1 (x.bytes.map B1)]
theorem TBytesResult_oc_un (x : TBytesResult) : x.oc.map unown = x.ro := by simp [TBytesResult.oc, TBytesResult.ro, go_sem]
@[go_sem] theorem TBytesResult_oc_eq (x : TBytesResult) : x.oc = [.int .i64 x.code, owc 1 (x.bytes.map B1)] := rfl
@[go_sem high] theorem TBytesResult_oc_unL (l : List _) : unownLL (l.map TBytesResult.oc) = l.map TBytesResult.ro := unownLL_map TBytesResult_oc_un l
@[go_sem high] theorem TBytesResult_oc_unM (l : List _) : (l.map TBytesResult.oc).map (List.map unown) = l.map TBytesResult.ro := mapun TBytesResult_oc_un l
@[go_sem] theorem TBytesResult_oc_ownd (x) : owndL (TBytesResult.oc x) = true := by simp [TBytesResult.oc, go_sem]
@[go_sem high] theorem TBytesResult_oc_owndL (l : List _) : owndLL (l.map TBytesResult.oc) = true := owndLL_map TBytesResult_oc_ownd l
@[go_sem] theorem TBytesResult_oc_ids (x) : idsL (TBytesResult.oc x) = [] := by simp [TBytesResult.oc, go_sem]
@[go_sem high] theorem TBytesResult_oc_idsL (l : List _) : (l.map TBytesResult.oc).flatMap idsL = [] := flatids TBytesResult_oc_ids l
theorem TBytesResult_oc_tree (a) : ∀ x ∈ TBytesResult.oc a, x.tree = true := by simp [TBytesResult.oc, go_sem]
@[go_sem high] theorem TBytesResult_oc_treeL (l : List _) : (∀ c ∈ l.map TBytesResult.oc, ∀ x ∈ c, AV.tree x = true) ↔ True := maptree TBytesResult_oc_tree l
def TBytesResult.sz (x : TBytesResult) : Nat := x.bytes.length

/-- impl.LinesResult -/
structure TLinesResult where
  code : Int
  broken : Bool
  lines : List (List UInt8)
  deriving DecidableEq
def TLinesResult.ro (x : TLinesResult) : List AV := [.int .i64 x.code, .bool x.broken, .isl 1 (x.lines.map S1)]
@[go_sem] theorem TLinesResult_ro_eq (x : TLinesResult) : x.ro = [.int .i64 x.code, .bool x.broken, .isl 1 (x.lines.map S1)] := rfl
def TLinesResult.oc (x : TLinesResult) : List AV := [.int .i64 x.code, .bool x.broken, owc 1 (x.lines.map S1)]
theorem TLinesResult_oc_un (x : TLinesResult) : x.oc.map unown = x.ro := by simp [TLinesResult.oc, TLinesResult.ro, go_sem]
@[go_sem] theorem TLinesResult_oc_eq (x : TLinesResult) : x.oc = [.int .i64 x.code, .bool x.broken, owc 1 (x.lines.map S1)] := rfl
@[go_sem high] theorem TLinesResult_oc_unL (l : List _) : unownLL (l.map TLinesResult.oc) = l.map TLinesResult.ro := unownLL_map TLinesResult_oc_un l
@[go_sem high] theorem TLinesResult_oc_unM (l : List _) : (l.map TLinesResult.oc).map (List.map unown) = l.map TLinesResult.ro := mapun TLinesResult_oc_un l
@[go_sem] theorem TLinesResult_oc_ownd (x) : owndL (TLinesResult.oc x) = true := by simp [TLinesResult.oc, go_sem]
@[go_sem high] theorem TLinesResult_oc_owndL (l : List _) : owndLL (l.map TLinesResult.oc) = true := owndLL_map TLinesResult_oc_ownd l
@[go_sem] theorem TLinesResult_oc_ids (x) : idsL (TLinesResult.oc x) = [] := by simp [TLinesResult.oc, go_sem]
@[go_sem high] theorem TLinesResult_oc_idsL (l : List _) : (l.map TLinesResult.oc).flatMap idsL = [] := flatids TLinesResult_oc_ids l
theorem TLinesResult_oc_tree (a) : ∀ x ∈ TLinesResult.oc a, x.tree = true := by simp [TLinesResult.oc, go_sem]
@[go_sem high] theorem TLinesResult_oc_treeL (l : List _) : (∀ c ∈ l.map TLinesResult.oc, ∀ x ∈ c, AV.tree x = true) ↔ True := maptree TLinesResult_oc_tree l
def TLinesResult.sz (x : TLinesResult) : Nat := (x.lines.length + (x.lines.map List.length).sum)

/-- impl.JournalResult -/
structure TJournalResult where
  code : Int
  count : Int
  journal : TJournal
  deriving DecidableEq
def TJournalResult.ro (x : TJournalResult) : List AV := [.int .i64 x.code, .int .i64 x.count, .isl 1 (x.journal.sure.map B1), .isl 1 (x.journal.loose.map B1)]
@[go_sem] theorem TJournalResult_ro_eq (x : TJournalResult) : x.ro = [.int .i64 x.code, .int .i64 x.count, .isl 1 (x.journal.sure.map B1), .isl 1 (x.journal.loose.map B1)] := rfl
def TJournalResult.oc (x : TJournalResult) : List AV := [.int .i64 x.code, .int .i64 x.count, owc 1 (x.journal.sure.map B1), owc 1 (x.journal.loose.map B1)]
theorem TJournalResult_oc_un (x : TJournalResult) : x.oc.map unown = x.ro := by simp [TJournalResult.oc, TJournalResult.ro, go_sem]
@[go_sem] theorem TJournalResult_oc_eq (x : TJournalResult) : x.oc = [.int .i64 x.code, .int .i64 x.count, owc 1 (x.journal.sure.map B1), owc 1 (x.journal.loose.map B1)] := rfl
@[go_sem high] theorem TJournalResult_oc_unL (l : List _) : unownLL (l.map TJournalResult.oc) = l.map TJournalResult.ro := unownLL_map TJournalResult_oc_un l
@[go_sem high] theorem TJournalResult_oc_unM (l : List _) : (l.map TJournalResult.oc).map (List.map unown) = l.map TJournalResult.ro := mapun TJournalResult_oc_un l
@[go_sem] theorem TJournalResult_oc_ownd (x) : owndL (TJournalResult.oc x) = true := by simp [TJournalResult.oc, go_sem]
@[go_sem high] theorem TJournalResult_oc_owndL (l : List _) : owndLL (l.map TJournalResult.oc) = true := owndLL_map TJournalResult_oc_ownd l
@[go_sem] theorem TJournalResult_oc_ids (x) : idsL (TJournalResult.oc x) = [] := by simp [TJournalResult.oc, go_sem]
@[go_sem high] theorem TJournalResult_oc_idsL (l : List _) : (l.map TJournalResult.oc).flatMap idsL = [] := flatids TJournalResult_oc_ids l
theorem TJournalResult_oc_tree (a) : ∀ x ∈ TJournalResult.oc a, x.tree = true := by simp [TJournalResult.oc, go_sem]
@[go_sem high] theorem TJournalResult_oc_treeL (l : List _) : (∀ c ∈ l.map TJournalResult.oc, ∀ x ∈ c, AV.tree x = true) ↔ True := maptree TJournalResult_oc_tree l
def TJournalResult.sz (x : TJournalResult) : Nat := x.journal.sz

/-- impl.ProcResult -/
structure TProcResult where
  code : Int
  proc : List TStep
  deriving DecidableEq
def TProcResult.ro (x : TProcResult) : List AV := [.int .i64 x.code, .isl 6 (x.proc.map TStep.ro)]
@[go_sem] theorem TProcResult_ro_eq (x : TProcResult) : x.ro = [.int .i64 x.code, .isl 6 (x.proc.map TStep.ro)] := rfl
def TProcResult.oc (x : TProcResult) : List AV := [.int .i64 x.code, owc 6 (x.proc.map TStep.oc)]
theorem TProcResult_oc_un (x : TProcResult) : x.oc.map unown = x.ro := by simp [TProcResult.oc, TProcResult.ro, go_sem]
@[go_sem] theorem TProcResult_oc_eq (x : TProcResult) : x.oc = [.int .i64 x.code, owc 6 (x.proc.map TStep.oc)] := rfl
@[go_sem high] theorem TProcResult_oc_unL (l : List _) : unownLL (l.map TProcResult.oc) = l.map TProcResult.ro := unownLL_map TProcResult_oc_un l
@[go_sem high] theorem TProcResult_oc_unM (l : List _) : (l.map TProcResult.oc).map (List.map unown) = l.map TProcResult.ro := mapun TProcResult_oc_un l
@[go_sem] theorem TProcResult_oc_ownd (x) : owndL (TProcResult.oc x) = true := by simp [TProcResult.oc, go_sem]
@[go_sem high] theorem TProcResult_oc_owndL (l : List _) : owndLL (l.map TProcResult.oc) = true := owndLL_map TProcResult_oc_ownd l
@[go_sem] theorem TProcResult_oc_ids (x) : idsL (TProcResult.oc x) = [] := by simp [TProcResult.oc, go_sem]
@[go_sem high] theorem TProcResult_oc_idsL (l : List _) : (l.map TProcResult.oc).flatMap idsL = [] := flatids TProcResult_oc_ids l
theorem TProcResult_oc_tree (a) : ∀ x ∈ TProcResult.oc a, x.tree = true := by simp [TProcResult.oc, go_sem]
@[go_sem high] theorem TProcResult_oc_treeL (l : List _) : (∀ c ∈ l.map TProcResult.oc, ∀ x ∈ c, AV.tree x = true) ↔ True := maptree TProcResult_oc_tree l
def TProcResult.sz (x : TProcResult) : Nat := (x.proc.length + (x.proc.map TStep.sz).sum)

/-- impl.GraphResult -/
structure TGraphResult where
  code : Int
  graph : TGraph
  deriving DecidableEq
def TGraphResult.ro (x : TGraphResult) : List AV := [.int .i64 x.code, .isl 5 (x.graph.nodes.map TGNode.ro), .isl 3 (x.graph.flows.map TFlow.ro)]
@[go_sem] theorem TGraphResult_ro_eq (x : TGraphResult) : x.ro = [.int .i64 x.code, .isl 5 (x.graph.nodes.map TGNode.ro), .isl 3 (x.graph.flows.map TFlow.ro)] := rfl
def TGraphResult.oc (x : TGraphResult) : List AV := [.int .i64 x.code, owc 5 (x.graph.nodes.map TGNode.oc), owc 3 (x.graph.flows.map TFlow.oc)]
theorem TGraphResult_oc_un (x : TGraphResult) : x.oc.map unown = x.ro := by simp [TGraphResult.oc, TGraphResult.ro, go_sem]
@[go_sem] theorem TGraphResult_oc_eq (x : TGraphResult) : x.oc = [.int .i64 x.code, owc 5 (x.graph.nodes.map TGNode.oc), owc 3 (x.graph.flows.map TFlow.oc)] := rfl
@[go_sem high] theorem TGraphResult_oc_unL (l : List _) : unownLL (l.map TGraphResult.oc) = l.map TGraphResult.ro := unownLL_map TGraphResult_oc_un l
@[go_sem high] theorem TGraphResult_oc_unM (l : List _) : (l.map TGraphResult.oc).map (List.map unown) = l.map TGraphResult.ro := mapun TGraphResult_oc_un l
@[go_sem] theorem TGraphResult_oc_ownd (x) : owndL (TGraphResult.oc x) = true := by simp [TGraphResult.oc, go_sem]
@[go_sem high] theorem TGraphResult_oc_owndL (l : List _) : owndLL (l.map TGraphResult.oc) = true := owndLL_map TGraphResult_oc_ownd l
@[go_sem] theorem TGraphResult_oc_ids (x) : idsL (TGraphResult.oc x) = [] := by simp [TGraphResult.oc, go_sem]
@[go_sem high] theorem TGraphResult_oc_idsL (l : List _) : (l.map TGraphResult.oc).flatMap idsL = [] := flatids TGraphResult_oc_ids l
theorem TGraphResult_oc_tree (a) : ∀ x ∈ TGraphResult.oc a, x.tree = true := by simp [TGraphResult.oc, go_sem]
@[go_sem high] theorem TGraphResult_oc_treeL (l : List _) : (∀ c ∈ l.map TGraphResult.oc, ∀ x ∈ c, AV.tree x = true) ↔ True := maptree TGraphResult_oc_tree l
def TGraphResult.sz (x : TGraphResult) : Nat := x.graph.sz

/-- impl.RunResult -/
structure TRunResult where
  code : Int
  run : TRun
  deriving DecidableEq
def TRunResult.ro (x : TRunResult) : List AV := [.int .i64 x.code, .int .i64 x.run.status, .int .i64 x.run.now, .isl 1 (x.run.vars.map I1), .isl 1 (x.run.marks.map I1), .isl 1 (x.run.dues.map I1)]
@[go_sem] theorem TRunResult_ro_eq (x : TRunResult) : x.ro = [.int .i64 x.code, .int .i64 x.run.status, .int .i64 x.run.now, .isl 1 (x.run.vars.map I1), .isl 1 (x.run.marks.map I1), .isl 1 (x.run.dues.map I1)] := rfl
def TRunResult.oc (x : TRunResult) : List AV := [.int .i64 x.code, .int .i64 x.run.status, .int .i64 x.run.now, owc 1 (x.run.vars.map I1), owc 1 (x.run.marks.map I1), owc 1 (x.run.dues.map I1)]
theorem TRunResult_oc_un (x : TRunResult) : x.oc.map unown = x.ro := by simp [TRunResult.oc, TRunResult.ro, go_sem]
@[go_sem] theorem TRunResult_oc_eq (x : TRunResult) : x.oc = [.int .i64 x.code, .int .i64 x.run.status, .int .i64 x.run.now, owc 1 (x.run.vars.map I1), owc 1 (x.run.marks.map I1), owc 1 (x.run.dues.map I1)] := rfl
@[go_sem high] theorem TRunResult_oc_unL (l : List _) : unownLL (l.map TRunResult.oc) = l.map TRunResult.ro := unownLL_map TRunResult_oc_un l
@[go_sem high] theorem TRunResult_oc_unM (l : List _) : (l.map TRunResult.oc).map (List.map unown) = l.map TRunResult.ro := mapun TRunResult_oc_un l
@[go_sem] theorem TRunResult_oc_ownd (x) : owndL (TRunResult.oc x) = true := by simp [TRunResult.oc, go_sem]
@[go_sem high] theorem TRunResult_oc_owndL (l : List _) : owndLL (l.map TRunResult.oc) = true := owndLL_map TRunResult_oc_ownd l
@[go_sem] theorem TRunResult_oc_ids (x) : idsL (TRunResult.oc x) = [] := by simp [TRunResult.oc, go_sem]
@[go_sem high] theorem TRunResult_oc_idsL (l : List _) : (l.map TRunResult.oc).flatMap idsL = [] := flatids TRunResult_oc_ids l
theorem TRunResult_oc_tree (a) : ∀ x ∈ TRunResult.oc a, x.tree = true := by simp [TRunResult.oc, go_sem]
@[go_sem high] theorem TRunResult_oc_treeL (l : List _) : (∀ c ∈ l.map TRunResult.oc, ∀ x ∈ c, AV.tree x = true) ↔ True := maptree TRunResult_oc_tree l
def TRunResult.sz (x : TRunResult) : Nat := x.run.sz

/-- impl.ChartResult -/
structure TChartResult where
  code : Int
  chart : TChart
  deriving DecidableEq
def TChartResult.ro (x : TChartResult) : List AV := [.int .i64 x.code, .int .i64 x.chart.status, .int .i64 x.chart.now, .isl 1 (x.chart.vars.map I1), .isl 1 (x.chart.acts.map I1), .isl 1 (x.chart.dues.map I1)]
@[go_sem] theorem TChartResult_ro_eq (x : TChartResult) : x.ro = [.int .i64 x.code, .int .i64 x.chart.status, .int .i64 x.chart.now, .isl 1 (x.chart.vars.map I1), .isl 1 (x.chart.acts.map I1), .isl 1 (x.chart.dues.map I1)] := rfl
def TChartResult.oc (x : TChartResult) : List AV := [.int .i64 x.code, .int .i64 x.chart.status, .int .i64 x.chart.now, owc 1 (x.chart.vars.map I1), owc 1 (x.chart.acts.map I1), owc 1 (x.chart.dues.map I1)]
theorem TChartResult_oc_un (x : TChartResult) : x.oc.map unown = x.ro := by simp [TChartResult.oc, TChartResult.ro, go_sem]
@[go_sem] theorem TChartResult_oc_eq (x : TChartResult) : x.oc = [.int .i64 x.code, .int .i64 x.chart.status, .int .i64 x.chart.now, owc 1 (x.chart.vars.map I1), owc 1 (x.chart.acts.map I1), owc 1 (x.chart.dues.map I1)] := rfl
@[go_sem high] theorem TChartResult_oc_unL (l : List _) : unownLL (l.map TChartResult.oc) = l.map TChartResult.ro := unownLL_map TChartResult_oc_un l
@[go_sem high] theorem TChartResult_oc_unM (l : List _) : (l.map TChartResult.oc).map (List.map unown) = l.map TChartResult.ro := mapun TChartResult_oc_un l
@[go_sem] theorem TChartResult_oc_ownd (x) : owndL (TChartResult.oc x) = true := by simp [TChartResult.oc, go_sem]
@[go_sem high] theorem TChartResult_oc_owndL (l : List _) : owndLL (l.map TChartResult.oc) = true := owndLL_map TChartResult_oc_ownd l
@[go_sem] theorem TChartResult_oc_ids (x) : idsL (TChartResult.oc x) = [] := by simp [TChartResult.oc, go_sem]
@[go_sem high] theorem TChartResult_oc_idsL (l : List _) : (l.map TChartResult.oc).flatMap idsL = [] := flatids TChartResult_oc_ids l
theorem TChartResult_oc_tree (a) : ∀ x ∈ TChartResult.oc a, x.tree = true := by simp [TChartResult.oc, go_sem]
@[go_sem high] theorem TChartResult_oc_treeL (l : List _) : (∀ c ∈ l.map TChartResult.oc, ∀ x ∈ c, AV.tree x = true) ↔ True := maptree TChartResult_oc_tree l
def TChartResult.sz (x : TChartResult) : Nat := x.chart.sz

/-- impl.EngineResult -/
structure TEngineResult where
  code : Int
  val : Int
  engine : TEngine
  deriving DecidableEq
def TEngineResult.ro (x : TEngineResult) : List AV := [.int .i64 x.code, .int .i64 x.val, .isl 1 (x.engine.procs.map TProc.ro), .isl 6 (x.engine.insts.map TInst.ro), .int .i64 x.engine.now]
@[go_sem] theorem TEngineResult_ro_eq (x : TEngineResult) : x.ro = [.int .i64 x.code, .int .i64 x.val, .isl 1 (x.engine.procs.map TProc.ro), .isl 6 (x.engine.insts.map TInst.ro), .int .i64 x.engine.now] := rfl
def TEngineResult.oc (x : TEngineResult) : List AV := [.int .i64 x.code, .int .i64 x.val, owc 1 (x.engine.procs.map TProc.oc), owc 6 (x.engine.insts.map TInst.oc), .int .i64 x.engine.now]
theorem TEngineResult_oc_un (x : TEngineResult) : x.oc.map unown = x.ro := by simp [TEngineResult.oc, TEngineResult.ro, go_sem]
@[go_sem] theorem TEngineResult_oc_eq (x : TEngineResult) : x.oc = [.int .i64 x.code, .int .i64 x.val, owc 1 (x.engine.procs.map TProc.oc), owc 6 (x.engine.insts.map TInst.oc), .int .i64 x.engine.now] := rfl
@[go_sem high] theorem TEngineResult_oc_unL (l : List _) : unownLL (l.map TEngineResult.oc) = l.map TEngineResult.ro := unownLL_map TEngineResult_oc_un l
@[go_sem high] theorem TEngineResult_oc_unM (l : List _) : (l.map TEngineResult.oc).map (List.map unown) = l.map TEngineResult.ro := mapun TEngineResult_oc_un l
@[go_sem] theorem TEngineResult_oc_ownd (x) : owndL (TEngineResult.oc x) = true := by simp [TEngineResult.oc, go_sem]
@[go_sem high] theorem TEngineResult_oc_owndL (l : List _) : owndLL (l.map TEngineResult.oc) = true := owndLL_map TEngineResult_oc_ownd l
@[go_sem] theorem TEngineResult_oc_ids (x) : idsL (TEngineResult.oc x) = [] := by simp [TEngineResult.oc, go_sem]
@[go_sem high] theorem TEngineResult_oc_idsL (l : List _) : (l.map TEngineResult.oc).flatMap idsL = [] := flatids TEngineResult_oc_ids l
theorem TEngineResult_oc_tree (a) : ∀ x ∈ TEngineResult.oc a, x.tree = true := by simp [TEngineResult.oc, go_sem]
@[go_sem high] theorem TEngineResult_oc_treeL (l : List _) : (∀ c ∈ l.map TEngineResult.oc, ∀ x ∈ c, AV.tree x = true) ↔ True := maptree TEngineResult_oc_tree l
def TEngineResult.sz (x : TEngineResult) : Nat := x.engine.sz

/-- impl.DeskResult -/
structure TDeskResult where
  code : Int
  val : Int
  desk : TDesk
  deriving DecidableEq
def TDeskResult.ro (x : TDeskResult) : List AV := [.int .i64 x.code, .int .i64 x.val, .isl 1 (x.desk.engine.procs.map TProc.ro), .isl 6 (x.desk.engine.insts.map TInst.ro), .int .i64 x.desk.engine.now, .isl 3 (x.desk.claims.map TClaim.ro)]
@[go_sem] theorem TDeskResult_ro_eq (x : TDeskResult) : x.ro = [.int .i64 x.code, .int .i64 x.val, .isl 1 (x.desk.engine.procs.map TProc.ro), .isl 6 (x.desk.engine.insts.map TInst.ro), .int .i64 x.desk.engine.now, .isl 3 (x.desk.claims.map TClaim.ro)] := rfl
def TDeskResult.oc (x : TDeskResult) : List AV := [.int .i64 x.code, .int .i64 x.val, owc 1 (x.desk.engine.procs.map TProc.oc), owc 6 (x.desk.engine.insts.map TInst.oc), .int .i64 x.desk.engine.now, owc 3 (x.desk.claims.map TClaim.ro)]
theorem TDeskResult_oc_un (x : TDeskResult) : x.oc.map unown = x.ro := by simp [TDeskResult.oc, TDeskResult.ro, go_sem]
@[go_sem] theorem TDeskResult_oc_eq (x : TDeskResult) : x.oc = [.int .i64 x.code, .int .i64 x.val, owc 1 (x.desk.engine.procs.map TProc.oc), owc 6 (x.desk.engine.insts.map TInst.oc), .int .i64 x.desk.engine.now, owc 3 (x.desk.claims.map TClaim.ro)] := rfl
@[go_sem high] theorem TDeskResult_oc_unL (l : List _) : unownLL (l.map TDeskResult.oc) = l.map TDeskResult.ro := unownLL_map TDeskResult_oc_un l
@[go_sem high] theorem TDeskResult_oc_unM (l : List _) : (l.map TDeskResult.oc).map (List.map unown) = l.map TDeskResult.ro := mapun TDeskResult_oc_un l
@[go_sem] theorem TDeskResult_oc_ownd (x) : owndL (TDeskResult.oc x) = true := by simp [TDeskResult.oc, go_sem]
@[go_sem high] theorem TDeskResult_oc_owndL (l : List _) : owndLL (l.map TDeskResult.oc) = true := owndLL_map TDeskResult_oc_ownd l
@[go_sem] theorem TDeskResult_oc_ids (x) : idsL (TDeskResult.oc x) = [] := by simp [TDeskResult.oc, go_sem]
@[go_sem high] theorem TDeskResult_oc_idsL (l : List _) : (l.map TDeskResult.oc).flatMap idsL = [] := flatids TDeskResult_oc_ids l
theorem TDeskResult_oc_tree (a) : ∀ x ∈ TDeskResult.oc a, x.tree = true := by simp [TDeskResult.oc, go_sem]
@[go_sem high] theorem TDeskResult_oc_treeL (l : List _) : (∀ c ∈ l.map TDeskResult.oc, ∀ x ∈ c, AV.tree x = true) ↔ True := maptree TDeskResult_oc_tree l
def TDeskResult.sz (x : TDeskResult) : Nat := x.desk.sz

/-- impl.OfferResult -/
structure TOfferResult where
  code : Int
  claims : List TClaim
  deriving DecidableEq
def TOfferResult.ro (x : TOfferResult) : List AV := [.int .i64 x.code, .isl 3 (x.claims.map TClaim.ro)]
@[go_sem] theorem TOfferResult_ro_eq (x : TOfferResult) : x.ro = [.int .i64 x.code, .isl 3 (x.claims.map TClaim.ro)] := rfl
def TOfferResult.oc (x : TOfferResult) : List AV := [.int .i64 x.code, owc 3 (x.claims.map TClaim.ro)]
theorem TOfferResult_oc_un (x : TOfferResult) : x.oc.map unown = x.ro := by simp [TOfferResult.oc, TOfferResult.ro, go_sem]
@[go_sem] theorem TOfferResult_oc_eq (x : TOfferResult) : x.oc = [.int .i64 x.code, owc 3 (x.claims.map TClaim.ro)] := rfl
@[go_sem high] theorem TOfferResult_oc_unL (l : List _) : unownLL (l.map TOfferResult.oc) = l.map TOfferResult.ro := unownLL_map TOfferResult_oc_un l
@[go_sem high] theorem TOfferResult_oc_unM (l : List _) : (l.map TOfferResult.oc).map (List.map unown) = l.map TOfferResult.ro := mapun TOfferResult_oc_un l
@[go_sem] theorem TOfferResult_oc_ownd (x) : owndL (TOfferResult.oc x) = true := by simp [TOfferResult.oc, go_sem]
@[go_sem high] theorem TOfferResult_oc_owndL (l : List _) : owndLL (l.map TOfferResult.oc) = true := owndLL_map TOfferResult_oc_ownd l
@[go_sem] theorem TOfferResult_oc_ids (x) : idsL (TOfferResult.oc x) = [] := by simp [TOfferResult.oc, go_sem]
@[go_sem high] theorem TOfferResult_oc_idsL (l : List _) : (l.map TOfferResult.oc).flatMap idsL = [] := flatids TOfferResult_oc_ids l
theorem TOfferResult_oc_tree (a) : ∀ x ∈ TOfferResult.oc a, x.tree = true := by simp [TOfferResult.oc, go_sem]
@[go_sem high] theorem TOfferResult_oc_treeL (l : List _) : (∀ c ∈ l.map TOfferResult.oc, ∀ x ∈ c, AV.tree x = true) ↔ True := maptree TOfferResult_oc_tree l
def TOfferResult.sz (x : TOfferResult) : Nat := x.claims.length

/-- impl.WorldResult -/
structure TWorldResult where
  code : Int
  reply : Int
  val : Int
  world : TWorld
  deriving DecidableEq
def TWorldResult.ro (x : TWorldResult) : List AV := [.int .i64 x.code, .int .i64 x.reply, .int .i64 x.val, .isl 1 (x.world.desk.engine.procs.map TProc.ro), .isl 6 (x.world.desk.engine.insts.map TInst.ro), .int .i64 x.world.desk.engine.now, .isl 3 (x.world.desk.claims.map TClaim.ro), .isl 1 (x.world.journal.sure.map B1), .isl 1 (x.world.journal.loose.map B1)]
@[go_sem] theorem TWorldResult_ro_eq (x : TWorldResult) : x.ro = [.int .i64 x.code, .int .i64 x.reply, .int .i64 x.val, .isl 1 (x.world.desk.engine.procs.map TProc.ro), .isl 6 (x.world.desk.engine.insts.map TInst.ro), .int .i64 x.world.desk.engine.now, .isl 3 (x.world.desk.claims.map TClaim.ro), .isl 1 (x.world.journal.sure.map B1), .isl 1 (x.world.journal.loose.map B1)] := rfl
def TWorldResult.oc (x : TWorldResult) : List AV := [.int .i64 x.code, .int .i64 x.reply, .int .i64 x.val, owc 1 (x.world.desk.engine.procs.map TProc.oc), owc 6 (x.world.desk.engine.insts.map TInst.oc), .int .i64 x.world.desk.engine.now, owc 3 (x.world.desk.claims.map TClaim.ro), owc 1 (x.world.journal.sure.map B1), owc 1 (x.world.journal.loose.map B1)]
theorem TWorldResult_oc_un (x : TWorldResult) : x.oc.map unown = x.ro := by simp [TWorldResult.oc, TWorldResult.ro, go_sem]
@[go_sem] theorem TWorldResult_oc_eq (x : TWorldResult) : x.oc = [.int .i64 x.code, .int .i64 x.reply, .int .i64 x.val, owc 1 (x.world.desk.engine.procs.map TProc.oc), owc 6 (x.world.desk.engine.insts.map TInst.oc), .int .i64 x.world.desk.engine.now, owc 3 (x.world.desk.claims.map TClaim.ro), owc 1 (x.world.journal.sure.map B1), owc 1 (x.world.journal.loose.map B1)] := rfl
@[go_sem high] theorem TWorldResult_oc_unL (l : List _) : unownLL (l.map TWorldResult.oc) = l.map TWorldResult.ro := unownLL_map TWorldResult_oc_un l
@[go_sem high] theorem TWorldResult_oc_unM (l : List _) : (l.map TWorldResult.oc).map (List.map unown) = l.map TWorldResult.ro := mapun TWorldResult_oc_un l
@[go_sem] theorem TWorldResult_oc_ownd (x) : owndL (TWorldResult.oc x) = true := by simp [TWorldResult.oc, go_sem]
@[go_sem high] theorem TWorldResult_oc_owndL (l : List _) : owndLL (l.map TWorldResult.oc) = true := owndLL_map TWorldResult_oc_ownd l
@[go_sem] theorem TWorldResult_oc_ids (x) : idsL (TWorldResult.oc x) = [] := by simp [TWorldResult.oc, go_sem]
@[go_sem high] theorem TWorldResult_oc_idsL (l : List _) : (l.map TWorldResult.oc).flatMap idsL = [] := flatids TWorldResult_oc_ids l
theorem TWorldResult_oc_tree (a) : ∀ x ∈ TWorldResult.oc a, x.tree = true := by simp [TWorldResult.oc, go_sem]
@[go_sem high] theorem TWorldResult_oc_treeL (l : List _) : (∀ c ∈ l.map TWorldResult.oc, ∀ x ∈ c, AV.tree x = true) ↔ True := maptree TWorldResult_oc_tree l
def TWorldResult.sz (x : TWorldResult) : Nat := x.world.sz
end Go.AM

/-! ### Am23 -/
set_option linter.unusedVariables false
set_option linter.unusedSimpArgs false
namespace Go.AM
open Go.ChangeShapes Go.WideShapes Go.RowKit

/-- cells that read as abstract values -/
def RdC (w : World) (cs : List Value) (ys : List AV) : Prop :=
  ys.length = cs.length ∧ (∀ (j : Nat) y v, ys[j]? = some y → cs[j]? = some v → I w (fun _ => none) y v) ∧ ∀ y ∈ ys, AV.plain y = true

theorem RdC.nil {w : World} {cs : List Value} (h : cs = []) : RdC w cs [] := by subst h; exact ⟨rfl, by intro j y v h; simp at h, by simp⟩

theorem RdC.one {w : World} {v : Value} {y : AV} (h : I w (fun _ => none) y v) (hp : y.plain = true) : RdC w [v] [y] := by
  refine ⟨rfl, ?_, by simpa using hp⟩
  intro j y' v' hy hv
  cases j with
  | zero => simp at hy hv; subst hy; subst hv; exact h
  | succ j => simp at hy

theorem RdC.cons {w : World} {cs : List Value} {o s : Nat} {ys zs : List AV} (h1 : RdC w ((cs.drop o).take s) ys) (h2 : RdC w (cs.drop (o + s)) zs) : RdC w (cs.drop o) (ys ++ zs) := by
  have e : cs.drop o = (cs.drop o).take s ++ cs.drop (o + s) := by rw [← List.drop_drop, List.take_append_drop]
  rw [e]
  obtain ⟨a1, a2, a3⟩ := h1
  obtain ⟨b1, b2, b3⟩ := h2
  refine ⟨by rw [List.length_append, List.length_append, a1, b1], ?_, ?_⟩
  · intro j y v hy hv
    rw [List.getElem?_append] at hy hv
    rw [a1] at hy
    split at hy
    · rename_i h; rw [if_pos h] at hv; exact a2 j y v hy hv
    · rename_i h; rw [if_neg h] at hv; exact b2 _ y v hy hv
  · intro y hy
    rcases List.mem_append.1 hy with hy | hy
    · exact a3 y hy
    · exact b3 y hy

/-- a type's data, read -/
structure Rd (P : Program) (t : TypeId) (α : Type) (f : α → List AV) (ok : α → Prop) (n : Nat) : Prop where
  size : P.cellsOf t = n
  read : ∀ {H : Type} (enc : TypeId × Value → H) (w : World) (base : Nat) (spare : Nat → Bool) (held : Bool) (fuel : Nat) (cs : List Value) (x : DataW H × List MemPlace),
    DataW.trod enc P w base spare held fuel t cs = some x → ∃ a : α, ok a ∧ RdC w cs (f a) ∧ cs.length = n

theorem cellsOf_of {P : Program} {ti : TI} (hT : TOk P ti) {t : Nat} {i : TInfo} (h : ti t = some i) : P.cellsOf t = i.size := by
  obtain ⟨info, h1, h2, _⟩ := (hT t i h).info
  simp [Program.cellsOf, h1, h2]

section
variable {P : Program} {t : TypeId}

theorem trod_int' {k : IntKind} {H : Type} {enc : TypeId × Value → H} {w : World} {base : Nat} {spare : Nat → Bool} {held : Bool} {fuel : Nat} {cs : List Value} {x : DataW H × List MemPlace} (ht : P.underlying t = some (.int k))
    (h : DataW.trod enc P w base spare held fuel t cs = some x) : ∃ n, cs = [.int k n] ∧ (Lit.int k n).wf = true := by
  cases fuel with
  | zero => simp [DataW.trod] at h
  | succ m =>
    unfold DataW.trod at h
    rw [ht] at h
    split at h <;> simp_all

theorem Rd.int (hs : P.cellsOf t = 1) (ht : P.underlying t = some (.int .i64)) : Rd P t Int I1 (fun n => -9223372036854775808 ≤ n ∧ n ≤ 9223372036854775807) 1 := by
  refine ⟨hs, ?_⟩
  intro H enc w base spare held fuel cs x h
  obtain ⟨n, rfl, hw⟩ := trod_int' ht h
  refine ⟨n, ?_, .one (.int _ _) rfl, rfl⟩
  simp [Lit.wf, IntKind.min, IntKind.max, IntKind.bits, IntKind.signed] at hw
  first | exact hw | omega

theorem Rd.byte (hs : P.cellsOf t = 1) (ht : P.underlying t = some (.int .u8)) : Rd P t UInt8 B1 (fun _ => True) 1 := by
  refine ⟨hs, ?_⟩
  intro H enc w base spare held fuel cs x h
  obtain ⟨n, rfl, hw⟩ := trod_int' ht h
  simp [Lit.wf, IntKind.min, IntKind.max, IntKind.bits, IntKind.signed] at hw
  refine ⟨UInt8.ofNat n.toNat, trivial, ?_, rfl⟩
  have e : ((UInt8.ofNat n.toNat).toNat : Int) = n := by rw [UInt8.toNat_ofNat']; omega
  unfold B1
  rw [e]
  exact .one (.int _ _) rfl

theorem trod_str' {H : Type} {enc : TypeId × Value → H} {w : World} {base : Nat} {spare : Nat → Bool} {held : Bool} {fuel : Nat} {cs : List Value} {x : DataW H × List MemPlace} (ht : P.underlying t = some .string)
    (h : DataW.trod enc P w base spare held fuel t cs = some x) : ∃ s, cs = [.string s] ∧ s.size ≤ maxLen := by
  cases fuel with
  | zero => simp [DataW.trod] at h
  | succ m =>
    unfold DataW.trod at h
    rw [ht] at h
    split at h <;> simp_all

theorem Rd.str (hs : P.cellsOf t = 1) (ht : P.underlying t = some .string) : Rd P t (List UInt8) S1 (fun s => s.length ≤ 9223372036854775807) 1 := by
  refine ⟨hs, ?_⟩
  intro H enc w base spare held fuel cs x h
  obtain ⟨s, rfl, hw⟩ := trod_str' ht h
  refine ⟨s.data.toList, ?_, .one (I.ofString s) rfl, rfl⟩
  unfold maxLen at hw
  exact hw

theorem trod_bool' {H : Type} {enc : TypeId × Value → H} {w : World} {base : Nat} {spare : Nat → Bool} {held : Bool} {fuel : Nat} {cs : List Value} {x : DataW H × List MemPlace} (ht : P.underlying t = some .bool)
    (h : DataW.trod enc P w base spare held fuel t cs = some x) : ∃ b, cs = [.bool b] := by
  cases fuel with
  | zero => simp [DataW.trod] at h
  | succ m =>
    unfold DataW.trod at h
    rw [ht] at h
    split at h <;> simp_all

theorem cell_spot {w : World} {a : Addr} {v : Value} (h : w.cell? a = some v) : a.spot = none ∧ a.block < w.heap.size := by
  unfold World.cell? at h
  split at h
  · rename_i hb
    refine ⟨?_, ?_⟩
    · split at h
      · cases h
      · rename_i hs; simpa using hs
    rcases Nat.lt_or_ge a.block w.heap.size with h1 | h1
    · exact h1
    · simp [Array.getElem?_eq_none h1] at hb
  · cases h

theorem mapM_get {α β : Type} {f : α → Option β} : ∀ {l : List α} {r : List β}, l.mapM f = some r → r.length = l.length ∧ ∀ (i : Nat) a, l[i]? = some a → f a = r[i]? := by
  intro l
  induction l with
  | nil => intro r h; simp at h; subst h; exact ⟨rfl, by intro i a h; simp at h⟩
  | cons x l ih =>
    intro r h
    simp only [List.mapM_cons, Option.bind_eq_bind] at h
    cases hx : f x with
    | none => simp [hx] at h
    | some y =>
      cases hl : l.mapM f with
      | none => simp [hx, hl] at h
      | some ys =>
        simp [hx, hl] at h
        subst h
        obtain ⟨h1, h2⟩ := ih hl
        refine ⟨by simp [h1], ?_⟩
        intro i a hi
        cases i with
        | zero => simp at hi; subst hi; simp [hx]
        | succ i => simpa using h2 i a (by simpa using hi)

theorem Rd.slice {e : TypeId} {α : Type} {f : α → List AV} {ok : α → Prop} {n : Nat} (he : Rd P e α f ok n) (hn : 0 < n) (hs : P.cellsOf t = 1) (ht : P.underlying t = some (.slice e)) :
    Rd P t (List α) (fun l => [.isl n (l.map f)]) (fun l => l.length ≤ 9223372036854775807 ∧ ∀ a ∈ l, ok a) 1 := by
  refine ⟨hs, ?_⟩
  intro H enc w base spare held fuel cs x h
  rcases DataW.trod_slice ht h with ⟨rfl, _⟩ | ⟨a, len, cap, elems, rest, m, rfl, rfl, _, hb, hlc, hcap, hel, hget, _⟩
  · exact ⟨[], ⟨Nat.zero_le _, by simp⟩, .one (.nsl _) rfl, rfl⟩
  · rw [he.size] at hget
    have hrow : ∀ i, i < len → ∃ (b : α) (vs : List Value), ok b ∧ RdC w vs (f b) ∧ vs.length = n ∧ ∀ j, j < n → w.cell? ((a.add (i * n)).add j) = vs[j]? := by
      intro i hi
      have h1 := hget i hi
      have h2 : ∃ y, elems[i]? = some y := ⟨elems[i]'(by omega), List.getElem?_eq_getElem _⟩
      obtain ⟨y, hy⟩ := h2
      rw [hy, Option.bind_eq_some_iff] at h1
      obtain ⟨vs, h3, h4⟩ := h1
      obtain ⟨b, h5, h6, h7⟩ := he.read enc w base spare held m vs y h4
      refine ⟨b, vs, h5, h6, h7, ?_⟩
      unfold World.cells? at h3
      split at h3
      · obtain ⟨_, h8⟩ := mapM_get h3
        intro j hj
        exact h8 j j (by simp [hj])
      · cases h3
    by_cases hz : len = 0
    · subst hz
      exact ⟨[], ⟨Nat.zero_le _, by simp⟩, .one (.esl _ _ _) rfl, rfl⟩
    obtain ⟨b0, vs0, hb0⟩ := hrow 0 (by omega)
    obtain ⟨g, gv, hg⟩ : ∃ (g : Nat → α) (gv : Nat → List Value), ∀ i, i < len → ok (g i) ∧ RdC w (gv i) (f (g i)) ∧ (gv i).length = n ∧ ∀ j, j < n → w.cell? ((a.add (i * n)).add j) = (gv i)[j]? := by
      refine ⟨fun i => if h : i < len then (hrow i h).choose else b0, fun i => if h : i < len then (hrow i h).choose_spec.choose else vs0, ?_⟩
      intro i hi
      simp only [dif_pos hi]
      exact (hrow i hi).choose_spec.choose_spec
    have hsp : a.spot = none ∧ a.block < w.heap.size := by
      obtain ⟨_, _, h3, h4⟩ := hg 0 (by omega)
      have h5 := h4 0 hn
      have h6 : ∃ v, (gv 0)[0]? = some v := ⟨(gv 0)[0]'(by omega), List.getElem?_eq_getElem _⟩
      obtain ⟨v, h6⟩ := h6
      rw [h6] at h5
      have h7 := cell_spot h5
      simpa [Addr.add] using h7
    obtain ⟨ab, ao, asp⟩ := a
    obtain ⟨hsp1, hsp2⟩ := hsp
    simp only at hsp1 hsp2
    subst hsp1
    simp only [addr_add] at hg
    have hmap : ∀ i, i < len → ((List.range len).map g)[i]? = some (g i) := by intro i hi; simp [hi]
    refine ⟨(List.range len).map g, ⟨by simp; unfold maxLen at hcap; omega, ?_⟩, .one ?_ rfl, rfl⟩
    · intro b hb
      obtain ⟨i, hi, rfl⟩ := List.mem_map.1 hb
      exact (hg i (by simpa using hi)).1
    · have := I.isl (w := w) (lab := fun _ => none) n (((List.range len).map g).map f) ab ao cap (fun i j => (gv i).getD j undef) rfl hsp2 (by simpa using hlc) ?_ ?_ ?_ ?_
      · simpa using this
      · intro c hc
        obtain ⟨b, hb, rfl⟩ := List.mem_map.1 hc
        obtain ⟨i, hi, rfl⟩ := List.mem_map.1 hb
        obtain ⟨_, h2, h3, _⟩ := hg i (by simpa using hi)
        rw [h2.1, h3]
      · intro c hc y hy
        obtain ⟨b, hb, rfl⟩ := List.mem_map.1 hc
        obtain ⟨i, hi, rfl⟩ := List.mem_map.1 hb
        exact (hg i (by simpa using hi)).2.1.2.2 y hy
      · intro i j hi hj
        have hi : i < len := by simpa using hi
        obtain ⟨_, h2, h3, h4⟩ := hg i hi
        rw [h4 j hj]
        simp [List.getD, h3, hj]
      · intro i c j y hi hj
        have hi' : i < len := by have := (List.getElem?_eq_some_iff.1 hi).1; simpa using this
        obtain ⟨_, h2, h3, h4⟩ := hg i hi'
        rw [List.getElem?_map, hmap i hi'] at hi
        cases hi
        have hj' : j < (gv i).length := by rw [← h2.1]; exact (List.getElem?_eq_some_iff.1 hj).1
        have := h2.2.1 j y (gv i)[j] hj (List.getElem?_eq_getElem hj')
        simpa [List.getD, hj'] using this

/-- an argument, read -/
theorem Rd.arg {α : Type} {f : α → List AV} {ok : α → Prop} {n : Nat} (h : Rd P t α f ok n) {w : World} {H : Type} {enc : TypeId × Value → H} {base : Nat} {spare : Nat → Bool} {held : Bool} {v : Value} {d : DataW H} {ps : List MemPlace}
    (hd : DataW.Trod enc P w base spare held t v d ps) : ∃ a, ok a ∧ RdC w v.cells.toList (f a) := by
  obtain ⟨fuel, hd⟩ := hd
  obtain ⟨a, h1, h2, _⟩ := h.read enc w base spare held fuel _ _ hd
  exact ⟨a, h1, h2⟩

theorem RdC.agg {w : World} {cs : Array Value} {ys : List AV} (h : RdC w cs.toList ys) : I w (fun _ => none) (.agg ys) (.agg cs) := by
  have := I.agg (w := w) (lab := fun _ => none) ys cs.toList h.1 h.2.1
  simpa using this

theorem cells_agg {w : World} {base : Nat} {fs : Array Field} {v : Value} (ht : P.underlying t = some (.struct fs)) (hv : Value.okWide P w .any base t v) : ∃ cs, v = .agg cs := by
  unfold Value.okWide at hv
  rw [ht] at hv
  obtain ⟨cs, h, _⟩ := hv
  exact ⟨cs, h⟩

/-- an argument of a struct's type -/
theorem Rd.argS {α : Type} {f : α → List AV} {ok : α → Prop} {n : Nat} (h : Rd P t α f ok n) {fs : Array Field} (ht : P.underlying t = some (.struct fs)) {w : World} {H : Type} {enc : TypeId × Value → H} {base base' : Nat} {spare : Nat → Bool} {held : Bool} {v : Value} {d : DataW H} {ps : List MemPlace}
    (hv : Value.okWide P w .any base' t v) (hd : DataW.Trod enc P w base spare held t v d ps) : ∃ a, ok a ∧ I w (fun _ => none) (.agg (f a)) v := by
  obtain ⟨cs, rfl⟩ := cells_agg ht hv
  obtain ⟨a, h1, h2⟩ := h.arg hd
  exact ⟨a, h1, h2.agg⟩

theorem cells_slice {w : World} {base : Nat} {e : TypeId} {v : Value} (ht : P.underlying t = some (.slice e)) (hv : Value.okWide P w .any base t v) : v.cells.toList = [v] := by
  unfold Value.okWide at hv
  rw [ht] at hv
  unfold Cell.okWide at hv
  rw [ht] at hv
  cases v with
  | agg cs => simp [Cell.ok, ht] at hv
  | _ => rfl

theorem cells_int {w : World} {base : Nat} {k : IntKind} {v : Value} (ht : P.underlying t = some (.int k)) (hv : Value.okWide P w .any base t v) : v.cells.toList = [v] := by
  unfold Value.okWide at hv
  rw [ht] at hv
  unfold Cell.okWide at hv
  rw [ht] at hv
  cases v with
  | agg cs => simp [Cell.ok, ht] at hv
  | _ => rfl

theorem cells_str {w : World} {base : Nat} {v : Value} (ht : P.underlying t = some .string) (hv : Value.okWide P w .any base t v) : v.cells.toList = [v] := by
  unfold Value.okWide at hv
  rw [ht] at hv
  unfold Cell.okWide at hv
  rw [ht] at hv
  cases v with
  | agg cs => simp [Cell.ok, ht] at hv
  | _ => rfl

/-- an argument of one cell -/
theorem Rd.arg1 {α : Type} {f : α → List AV} {ok : α → Prop} {n : Nat} (h : Rd P t α f ok n) {g : α → AV} (hg : ∀ a, f a = [g a]) {w : World} {H : Type} {enc : TypeId × Value → H} {base : Nat} {spare : Nat → Bool} {held : Bool} {v : Value} {d : DataW H} {ps : List MemPlace}
    (hv : v.cells.toList = [v]) (hd : DataW.Trod enc P w base spare held t v d ps) : ∃ a, ok a ∧ I w (fun _ => none) (g a) v := by
  obtain ⟨a, h1, h2⟩ := h.arg hd
  rw [hv, hg] at h2
  exact ⟨a, h1, h2.2.1 0 _ _ rfl rfl⟩

/-- an argument reads behind the call as it did -/
theorem Kept.trod {H : Type} {enc : TypeId × Value → H} (hl : laidOutB P = true) (hr : P.readableRec t = true) (hrow : t < P.types.size) {W W' : World} {v : Value} {d : DataW H} {ps : List MemPlace} (hk : Kept W W')
    (h : DataW.Trod enc P W 0 (fun _ => true) true t v d ps) (hlt : ∀ x ∈ ps, x.block < W.heap.size) {sp : Nat → Bool} (hs : ∀ p ∈ ps, sp p.block = true) : DataW.Trod enc P W' 0 sp true t v d ps := by
  refine WideElems.Trod_stays hl hr hrow h (fun x hx => ?_) hs
  cases x with
  | cell b o => exact World.cell?_of_block (w := W) (hk.heap b (hlt _ hx))
  | map b => exact hk.heap b (hlt _ hx)
end
end Go.AM

/-! ### Pu -/
set_option linter.unusedVariables false
set_option linter.unusedSimpArgs false
namespace Go.AM

theorem wrap64 {n : Int} (h1 : -9223372036854775808 ≤ n) (h2 : n ≤ 9223372036854775807) : IntKind.wrap .i64 n = n := by
  simp [IntKind.wrap, IntKind.bits, IntKind.signed]
  omega
theorem wrapi {i n : Nat} (h : i < n) (hn : n ≤ 9223372036854775807) : IntKind.wrap .i64 ((i : Int) + 1) = (i : Int) + 1 := wrap64 (by omega) (by omega)

/-! sizes -/
def subz (z : Int) (n : Nat) : Int := if z < n then -1 else z - n
theorem subz_neg {z : Int} {n : Nat} : subz z n < 0 ↔ z < n := by unfold subz; split <;> omega
theorem subz_nn {z : Int} {n : Nat} : 0 ≤ subz z n ↔ n ≤ z := by unfold subz; split <;> omega
theorem subz_ok {z : Int} {n : Nat} (h : n ≤ z) : subz z n = z - n := by unfold subz; split <;> omega
theorem subz_no {z : Int} {n : Nat} (h : z < n) : subz z n = -1 := by unfold subz; rw [if_pos h]
theorem sum_take {α : Type} {l : List α} {i : Nat} {x : α} {f : α → Nat} (h : l[i]? = some x) : ((l.map f).take (i + 1)).sum = ((l.map f).take i).sum + f x := by
  rw [List.take_add_one, List.getElem?_map, h]; simp
theorem sum_le {α : Type} {f : α → Nat} {l : List α} {i : Nat} : ((l.map f).take i).sum ≤ (l.map f).sum := by
  conv => rhs; rw [← List.take_append_drop i (l.map f), List.sum_append]
  omega
theorem sum_mem {α : Type} {f : α → Nat} {l : List α} {x : α} (h : x ∈ l) : f x ≤ (l.map f).sum := by
  induction l with
  | nil => cases h
  | cons y l ih =>
    simp only [List.map_cons, List.sum_cons]
    rcases List.mem_cons.1 h with rfl | h
    · omega
    · have := ih h; omega
theorem sum_at {α : Type} {f : α → Nat} {l : List α} {i : Nat} {x : α} (h : l[i]? = some x) : f x ≤ (l.map f).sum := sum_mem (List.mem_of_getElem? h)
theorem at_some {α : Type} {l : List α} {i : Nat} (h : i < l.length) : ∃ x, l[i]? = some x := ⟨l[i], List.getElem?_eq_getElem h⟩
theorem at_lt {α : Type} {l : List α} {i : Nat} {x : α} (h : l[i]? = some x) : i < l.length := (List.getElem?_eq_some_iff.1 h).1

/-! equal slices -/
theorem eq_ne_len {α : Type} [DecidableEq α] {a b : List α} (h : ¬ a.length = b.length) : decide (a = b) = false := by
  rw [decide_eq_false_iff_not]; rintro rfl; exact h rfl
theorem eq_ne_at {α : Type} [DecidableEq α] {a b : List α} {i : Nat} {x y : α} (hx : a[i]? = some x) (hy : b[i]? = some y) (h : ¬ x = y) : decide (a = b) = false := by
  rw [decide_eq_false_iff_not]; rintro rfl; rw [hx] at hy; cases hy; exact h rfl
theorem eq_end {α : Type} [DecidableEq α] {a b : List α} {i : Nat} (hl : a.length = b.length) (h : a.take i = b.take i) (hi : a.length ≤ i) : decide (a = b) = true := by
  rw [decide_eq_true_eq]; rwa [List.take_of_length_le hi, List.take_of_length_le (by omega)] at h
theorem take_step {α : Type} {a b : List α} {i : Nat} {x y : α} (hx : a[i]? = some x) (hy : b[i]? = some y) (e : x = y) (h : a.take i = b.take i) : a.take (i + 1) = b.take (i + 1) := by
  rw [List.take_add_one, List.take_add_one, h, hx, hy, e]

/-! slices that are filled -/
def fill {α : Type} (f : α → List AV) (z : List AV) (l : List α) (i : Nat) : List (List AV) := (l.take i).map f ++ List.replicate (l.length - i) z
theorem fill_len {α : Type} {f : α → List AV} {z : List AV} {l : List α} {i : Nat} (h : i ≤ l.length) : (fill f z l i).length = l.length := by simp [fill]; omega
theorem fill_at {α : Type} {f : α → List AV} {z : List AV} {l : List α} {i : Nat} (h : i < l.length) : (fill f z l i)[i]? = some z := by
  unfold fill
  rw [List.getElem?_append_right (by simp; omega), List.getElem?_replicate, if_pos (by simp; omega)]
theorem fill_set {α : Type} {f : α → List AV} {z : List AV} {l : List α} {i : Nat} {x : α} (h : l[i]? = some x) : (fill f z l i).set i (f x) = fill f z l (i + 1) := by
  obtain ⟨hi, hx⟩ := List.getElem?_eq_some_iff.1 h
  unfold fill
  have e : l.length - i = (l.length - (i + 1)) + 1 := by omega
  rw [e, List.replicate_succ, List.set_append, if_neg (by simp; omega), List.take_add_one, h]
  have e2 : i - ((l.take i).map f).length = 0 := by simp; omega
  rw [e2]
  simp
theorem fill_zero {α : Type} (f : α → List AV) (z : List AV) (l : List α) : fill f z l 0 = List.replicate l.length z := by simp [fill]
theorem fill_end {α : Type} {f : α → List AV} {z : List AV} {l : List α} {i : Nat} (h : l.length ≤ i) : fill f z l i = l.map f := by
  unfold fill; rw [List.take_of_length_le h, show l.length - i = 0 by omega]; simp
theorem fill_ids {α : Type} {f : α → List AV} {z : List AV} {l : List α} {i : Nat} (hf : ∀ x, idsL (f x) = []) (hz : idsL z = []) : (fill f z l i).flatMap idsL = [] := by
  unfold fill
  rw [List.flatMap_append, flatids hf]
  simp [hz]

def TStep.gok (x : TStep) : Prop := x.name.length ≤ 9223372036854775807 ∧ x.cond.length ≤ 9223372036854775807 ∧ x.expr.length ≤ 9223372036854775807
def TGNode.gok (x : TGNode) : Prop := x.name.length ≤ 9223372036854775807 ∧ x.expr.length ≤ 9223372036854775807
def TFlow.gok (x : TFlow) : Prop := x.cond.length ≤ 9223372036854775807
def TGraph.gok (x : TGraph) : Prop := (x.nodes.length ≤ 9223372036854775807 ∧ ∀ e ∈ x.nodes, e.gok) ∧ (x.flows.length ≤ 9223372036854775807 ∧ ∀ e ∈ x.flows, e.gok)
def TRun.gok (x : TRun) : Prop := x.vars.length ≤ 9223372036854775807 ∧ x.marks.length ≤ 9223372036854775807 ∧ x.dues.length ≤ 9223372036854775807
def TChart.gok (x : TChart) : Prop := x.vars.length ≤ 9223372036854775807 ∧ x.acts.length ≤ 9223372036854775807 ∧ x.dues.length ≤ 9223372036854775807
def TAct.gok (x : TAct) : Prop := x.vars.length ≤ 9223372036854775807
def TProc.gok (x : TProc) : Prop := (x.steps.length ≤ 9223372036854775807 ∧ ∀ e ∈ x.steps, e.gok)
def TInst.gok (x : TInst) : Prop := x.chart.gok
def TEngine.gok (x : TEngine) : Prop := (x.procs.length ≤ 9223372036854775807 ∧ ∀ e ∈ x.procs, e.gok) ∧ (x.insts.length ≤ 9223372036854775807 ∧ ∀ e ∈ x.insts, e.gok)
def TDesk.gok (x : TDesk) : Prop := x.engine.gok ∧ x.claims.length ≤ 9223372036854775807
def TJournal.gok (x : TJournal) : Prop := x.sure.length ≤ 9223372036854775807 ∧ x.loose.length ≤ 9223372036854775807
def TWorld.gok (x : TWorld) : Prop := x.desk.gok ∧ x.journal.gok
end Go.AM

/-! ### Ty -/
set_option linter.unusedVariables false
set_option linter.unusedSimpArgs false
namespace Go.AM
open Go.Proofs

def i2 : TInfo := ⟨(.int .i64), 1, 8, some [.int .i64 0], false⟩
theorem tyok2 : TOk1 Tryz.prog 2 i2 := tok1 Tryz.typeInfo2 rfl rfl (tz1 _ rfl rfl rfl rfl) Tryz.underlying2 (fun h => absurd h (by decide))
def i3 : TInfo := ⟨(.int .i64), 1, 8, some [.int .i64 0], false⟩
theorem tyok3 : TOk1 Tryz.prog 3 i3 := tok1 Tryz.typeInfo3 rfl rfl (tz1 _ rfl rfl rfl rfl) Tryz.underlying3 (fun h => absurd h (by decide))
def i4 : TInfo := ⟨.bool, 1, 1, some [.bool false], false⟩
theorem tyok4 : TOk1 Tryz.prog 4 i4 := tok1 Tryz.typeInfo4 rfl rfl (tz1 _ rfl rfl rfl rfl) Tryz.underlying4 (fun h => absurd h (by decide))
def i5 : TInfo := ⟨(.int .u8), 1, 1, some [.int .u8 0], false⟩
theorem tyok5 : TOk1 Tryz.prog 5 i5 := tok1 Tryz.typeInfo5 rfl rfl (tz1 _ rfl rfl rfl rfl) Tryz.underlying5 (fun h => absurd h (by decide))
def i9 : TInfo := ⟨.str, 1, 16, some [.str []], false⟩
theorem tyok9 : TOk1 Tryz.prog 9 i9 := tok1 Tryz.typeInfo9 rfl rfl (tz1 _ rfl rfl rfl rfl) Tryz.underlying9 (fun h => absurd h (by decide))
def i21 : TInfo := ⟨(.int .i32), 1, 4, some [.int .i32 0], false⟩
theorem tyok21 : TOk1 Tryz.prog 21 i21 := tok1 Tryz.typeInfo21 rfl rfl (tz1 _ rfl rfl rfl rfl) Tryz.underlying21 (fun h => absurd h (by decide))
def i22 : TInfo := ⟨(.slice 77), 1, 24, some [.nils], false⟩
theorem tyok22 : TOk1 Tryz.prog 22 i22 := tok1 Tryz.typeInfo22 rfl rfl (tz1 _ rfl rfl rfl rfl) Tryz.underlying22 (fun h => absurd h (by decide))
def i24 : TInfo := ⟨(.slice 82), 1, 24, some [.nils], false⟩
theorem tyok24 : TOk1 Tryz.prog 24 i24 := tok1 Tryz.typeInfo24 rfl rfl (tz1 _ rfl rfl rfl rfl) Tryz.underlying24 (fun h => absurd h (by decide))
def i25 : TInfo := ⟨(.slice 110), 1, 24, some [.nils], false⟩
theorem tyok25 : TOk1 Tryz.prog 25 i25 := tok1 Tryz.typeInfo25 rfl rfl (tz1 _ rfl rfl rfl rfl) Tryz.underlying25 (fun h => absurd h (by decide))
def i27 : TInfo := ⟨(.struct [(0, 24), (1, 25), (2, 2)]), 3, 56, some [.nils, .nils, .int .i64 0], false⟩
theorem tyok27 : TOk1 Tryz.prog 27 i27 := tok1 Tryz.typeInfo27 rfl rfl (tz1 _ rfl rfl rfl rfl) (kstruct Tryz.underlying27 rfl) (fun h => absurd h (by decide))
def i28 : TInfo := ⟨(.slice 96), 1, 24, some [.nils], false⟩
theorem tyok28 : TOk1 Tryz.prog 28 i28 := tok1 Tryz.typeInfo28 rfl rfl (tz1 _ rfl rfl rfl rfl) Tryz.underlying28 (fun h => absurd h (by decide))
def i30 : TInfo := ⟨(.struct [(0, 27), (3, 28)]), 4, 80, some [.nils, .nils, .int .i64 0, .nils], false⟩
theorem tyok30 : TOk1 Tryz.prog 30 i30 := tok1 Tryz.typeInfo30 rfl rfl (tz1 _ rfl rfl rfl rfl) (kstruct Tryz.underlying30 rfl) (fun h => absurd h (by decide))
def i31 : TInfo := ⟨(.slice 5), 1, 24, some [.nils], false⟩
theorem tyok31 : TOk1 Tryz.prog 31 i31 := tok1 Tryz.typeInfo31 rfl rfl (tz1 _ rfl rfl rfl rfl) Tryz.underlying31 (fun h => absurd h (by decide))
def i33 : TInfo := ⟨(.struct [(0, 31), (1, 31)]), 2, 48, some [.nils, .nils], false⟩
theorem tyok33 : TOk1 Tryz.prog 33 i33 := tok1 Tryz.typeInfo33 rfl rfl (tz1 _ rfl rfl rfl rfl) (kstruct Tryz.underlying33 rfl) (fun h => absurd h (by decide))
def i35 : TInfo := ⟨(.struct [(0, 30), (4, 33)]), 6, 128, some [.nils, .nils, .int .i64 0, .nils, .nils, .nils], false⟩
theorem tyok35 : TOk1 Tryz.prog 35 i35 := tok1 Tryz.typeInfo35 rfl rfl (tz1 _ rfl rfl rfl rfl) (kstruct Tryz.underlying35 rfl) (fun h => absurd h (by decide))
def i37 : TInfo := ⟨(.struct [(0, 2), (1, 2), (2, 2), (3, 35)]), 9, 152, some [.int .i64 0, .int .i64 0, .int .i64 0, .nils, .nils, .int .i64 0, .nils, .nils, .nils], false⟩
theorem tyok37 : TOk1 Tryz.prog 37 i37 := tok1 Tryz.typeInfo37 rfl rfl (tz1 _ rfl rfl rfl rfl) (kstruct Tryz.underlying37 rfl) (fun h => absurd h (by decide))
def i45 : TInfo := ⟨(.slice 156), 1, 24, some [.nils], false⟩
theorem tyok45 : TOk1 Tryz.prog 45 i45 := tok1 Tryz.typeInfo45 rfl rfl (tz1 _ rfl rfl rfl rfl) Tryz.underlying45 (fun h => absurd h (by decide))
def i47 : TInfo := ⟨(.struct [(0, 22), (1, 45), (2, 2)]), 3, 56, some [.nils, .nils, .int .i64 0], false⟩
theorem tyok47 : TOk1 Tryz.prog 47 i47 := tok1 Tryz.typeInfo47 rfl rfl (tz1 _ rfl rfl rfl rfl) (kstruct Tryz.underlying47 rfl) (fun h => absurd h (by decide))
def i48 : TInfo := ⟨(.slice 148), 1, 24, some [.nils], false⟩
theorem tyok48 : TOk1 Tryz.prog 48 i48 := tok1 Tryz.typeInfo48 rfl rfl (tz1 _ rfl rfl rfl rfl) Tryz.underlying48 (fun h => absurd h (by decide))
def i50 : TInfo := ⟨(.struct [(0, 47), (3, 48)]), 4, 80, some [.nils, .nils, .int .i64 0, .nils], false⟩
theorem tyok50 : TOk1 Tryz.prog 50 i50 := tok1 Tryz.typeInfo50 rfl rfl (tz1 _ rfl rfl rfl rfl) (kstruct Tryz.underlying50 rfl) (fun h => absurd h (by decide))
def i58 : TInfo := ⟨(.struct [(0, 2), (1, 2), (2, 27)]), 5, 72, some [.int .i64 0, .int .i64 0, .nils, .nils, .int .i64 0], false⟩
theorem tyok58 : TOk1 Tryz.prog 58 i58 := tok1 Tryz.typeInfo58 rfl rfl (tz1 _ rfl rfl rfl rfl) (kstruct Tryz.underlying58 rfl) (fun h => absurd h (by decide))
def i67 : TInfo := ⟨(.struct [(0, 2), (1, 28)]), 2, 32, some [.int .i64 0, .nils], false⟩
theorem tyok67 : TOk1 Tryz.prog 67 i67 := tok1 Tryz.typeInfo67 rfl rfl (tz1 _ rfl rfl rfl rfl) (kstruct Tryz.underlying67 rfl) (fun h => absurd h (by decide))
def i75 : TInfo := ⟨(.slice 168), 1, 24, some [.nils], false⟩
theorem tyok75 : TOk1 Tryz.prog 75 i75 := tok1 Tryz.typeInfo75 rfl rfl (tz1 _ rfl rfl rfl rfl) Tryz.underlying75 (fun h => absurd h (by decide))
def i77 : TInfo := ⟨(.struct [(0, 75)]), 1, 24, some [.nils], false⟩
theorem tyok77 : TOk1 Tryz.prog 77 i77 := tok1 Tryz.typeInfo77 rfl rfl (tz1 _ rfl rfl rfl rfl) (kstruct Tryz.underlying77 rfl) (fun h => absurd h (by decide))
def i80 : TInfo := ⟨(.slice 140), 1, 24, some [.nils], false⟩
theorem tyok80 : TOk1 Tryz.prog 80 i80 := tok1 Tryz.typeInfo80 rfl rfl (tz1 _ rfl rfl rfl rfl) Tryz.underlying80 (fun h => absurd h (by decide))
def i82 : TInfo := ⟨(.struct [(0, 80)]), 1, 24, some [.nils], false⟩
theorem tyok82 : TOk1 Tryz.prog 82 i82 := tok1 Tryz.typeInfo82 rfl rfl (tz1 _ rfl rfl rfl rfl) (kstruct Tryz.underlying82 rfl) (fun h => absurd h (by decide))
def i90 : TInfo := ⟨(.pointer 30), 1, 8, some [.nilp], false⟩
theorem tyok90 : TOk1 Tryz.prog 90 i90 := tok1 Tryz.typeInfo90 rfl rfl (tz1 _ rfl rfl rfl rfl) Tryz.underlying90 (fun h => absurd h (by decide))
def i96 : TInfo := ⟨(.struct [(0, 2), (1, 2), (2, 2)]), 3, 24, some [.int .i64 0, .int .i64 0, .int .i64 0], true⟩
theorem tyok96 : TOk1 Tryz.prog 96 i96 := tok1 Tryz.typeInfo96 rfl rfl (tz1 _ rfl rfl rfl rfl) (kstruct Tryz.underlying96 rfl) (fun _ => flatEq (fs := [{ name := "Inst", type := 2, offset := 0, embedded := false, tag := "", pkgPath := "", byteOffset := 0 }, { name := "Step", type := 2, offset := 1, embedded := false, tag := "", pkgPath := "", byteOffset := 8 }, { name := "User", type := 2, offset := 2, embedded := false, tag := "", pkgPath := "", byteOffset := 16 }]) (by kernel_rfl) (by kernel_rfl) (by kernel_rfl) (by kernel_rfl) rfl (by intro j f h; match j, h with | 0, h => (cases h; exact ⟨rfl, by decide, Tryz.underlying2⟩) | 1, h => (cases h; exact ⟨rfl, by decide, Tryz.underlying2⟩) | 2, h => (cases h; exact ⟨rfl, by decide, Tryz.underlying2⟩) | (n + 3), h => simp at h))
def i104 : TInfo := ⟨(.pointer 27), 1, 8, some [.nilp], false⟩
theorem tyok104 : TOk1 Tryz.prog 104 i104 := tok1 Tryz.typeInfo104 rfl rfl (tz1 _ rfl rfl rfl rfl) Tryz.underlying104 (fun h => absurd h (by decide))
def i106 : TInfo := ⟨(.slice 2), 1, 24, some [.nils], false⟩
theorem tyok106 : TOk1 Tryz.prog 106 i106 := tok1 Tryz.typeInfo106 rfl rfl (tz1 _ rfl rfl rfl rfl) Tryz.underlying106 (fun h => absurd h (by decide))
def i108 : TInfo := ⟨(.struct [(0, 2), (1, 2), (2, 106), (3, 106), (4, 106)]), 5, 88, some [.int .i64 0, .int .i64 0, .nils, .nils, .nils], false⟩
theorem tyok108 : TOk1 Tryz.prog 108 i108 := tok1 Tryz.typeInfo108 rfl rfl (tz1 _ rfl rfl rfl rfl) (kstruct Tryz.underlying108 rfl) (fun h => absurd h (by decide))
def i110 : TInfo := ⟨(.struct [(0, 2), (1, 108)]), 6, 96, some [.int .i64 0, .int .i64 0, .int .i64 0, .nils, .nils, .nils], false⟩
theorem tyok110 : TOk1 Tryz.prog 110 i110 := tok1 Tryz.typeInfo110 rfl rfl (tz1 _ rfl rfl rfl rfl) (kstruct Tryz.underlying110 rfl) (fun h => absurd h (by decide))
def i113 : TInfo := ⟨(.pointer 108), 1, 8, some [.nilp], false⟩
theorem tyok113 : TOk1 Tryz.prog 113 i113 := tok1 Tryz.typeInfo113 rfl rfl (tz1 _ rfl rfl rfl rfl) Tryz.underlying113 (fun h => absurd h (by decide))
def i117 : TInfo := ⟨(.pointer 120), 1, 8, some [.nilp], false⟩
theorem tyok117 : TOk1 Tryz.prog 117 i117 := tok1 Tryz.typeInfo117 rfl rfl (tz1 _ rfl rfl rfl rfl) Tryz.underlying117 (fun h => absurd h (by decide))
def i120 : TInfo := ⟨(.struct [(0, 80), (1, 108)]), 6, 112, some [.nils, .int .i64 0, .int .i64 0, .nils, .nils, .nils], false⟩
theorem tyok120 : TOk1 Tryz.prog 120 i120 := tok1 Tryz.typeInfo120 rfl rfl (tz1 _ rfl rfl rfl rfl) (kstruct Tryz.underlying120 rfl) (fun h => absurd h (by decide))
def i138 : TInfo := ⟨(.slice 175), 1, 24, some [.nils], false⟩
theorem tyok138 : TOk1 Tryz.prog 138 i138 := tok1 Tryz.typeInfo138 rfl rfl (tz1 _ rfl rfl rfl rfl) Tryz.underlying138 (fun h => absurd h (by decide))
def i140 : TInfo := ⟨(.struct [(0, 2), (1, 2), (2, 9), (3, 2), (4, 138), (5, 138)]), 6, 88, some [.int .i64 0, .int .i64 0, .str [], .int .i64 0, .nils, .nils], false⟩
theorem tyok140 : TOk1 Tryz.prog 140 i140 := tok1 Tryz.typeInfo140 rfl rfl (tz1 _ rfl rfl rfl rfl) (kstruct Tryz.underlying140 rfl) (fun h => absurd h (by decide))
def i148 : TInfo := ⟨(.struct [(0, 2), (1, 2), (2, 2)]), 3, 24, some [.int .i64 0, .int .i64 0, .int .i64 0], true⟩
theorem tyok148 : TOk1 Tryz.prog 148 i148 := tok1 Tryz.typeInfo148 rfl rfl (tz1 _ rfl rfl rfl rfl) (kstruct Tryz.underlying148 rfl) (fun _ => flatEq (fs := [{ name := "Inst", type := 2, offset := 0, embedded := false, tag := "", pkgPath := "", byteOffset := 0 }, { name := "Step", type := 2, offset := 1, embedded := false, tag := "", pkgPath := "", byteOffset := 8 }, { name := "User", type := 2, offset := 2, embedded := false, tag := "", pkgPath := "", byteOffset := 16 }]) (by kernel_rfl) (by kernel_rfl) (by kernel_rfl) (by kernel_rfl) rfl (by intro j f h; match j, h with | 0, h => (cases h; exact ⟨rfl, by decide, Tryz.underlying2⟩) | 1, h => (cases h; exact ⟨rfl, by decide, Tryz.underlying2⟩) | 2, h => (cases h; exact ⟨rfl, by decide, Tryz.underlying2⟩) | (n + 3), h => simp at h))
def i154 : TInfo := ⟨(.struct [(0, 2), (1, 2), (2, 106), (3, 106), (4, 106)]), 5, 88, some [.int .i64 0, .int .i64 0, .nils, .nils, .nils], false⟩
theorem tyok154 : TOk1 Tryz.prog 154 i154 := tok1 Tryz.typeInfo154 rfl rfl (tz1 _ rfl rfl rfl rfl) (kstruct Tryz.underlying154 rfl) (fun h => absurd h (by decide))
def i156 : TInfo := ⟨(.struct [(0, 2), (1, 154)]), 6, 96, some [.int .i64 0, .int .i64 0, .int .i64 0, .nils, .nils, .nils], false⟩
theorem tyok156 : TOk1 Tryz.prog 156 i156 := tok1 Tryz.typeInfo156 rfl rfl (tz1 _ rfl rfl rfl rfl) (kstruct Tryz.underlying156 rfl) (fun h => absurd h (by decide))
def i163 : TInfo := ⟨(.pointer 110), 1, 8, some [.nilp], false⟩
theorem tyok163 : TOk1 Tryz.prog 163 i163 := tok1 Tryz.typeInfo163 rfl rfl (tz1 _ rfl rfl rfl rfl) Tryz.underlying163 (fun h => absurd h (by decide))
def i166 : TInfo := ⟨(.slice 211), 1, 24, some [.nils], false⟩
theorem tyok166 : TOk1 Tryz.prog 166 i166 := tok1 Tryz.typeInfo166 rfl rfl (tz1 _ rfl rfl rfl rfl) Tryz.underlying166 (fun h => absurd h (by decide))
def i168 : TInfo := ⟨(.struct [(0, 2), (1, 2), (2, 9), (3, 2), (4, 166), (5, 166)]), 6, 88, some [.int .i64 0, .int .i64 0, .str [], .int .i64 0, .nils, .nils], false⟩
theorem tyok168 : TOk1 Tryz.prog 168 i168 := tok1 Tryz.typeInfo168 rfl rfl (tz1 _ rfl rfl rfl rfl) (kstruct Tryz.underlying168 rfl) (fun h => absurd h (by decide))
def i175 : TInfo := ⟨(.struct [(0, 2), (1, 2), (2, 2), (3, 2)]), 4, 32, some [.int .i64 0, .int .i64 0, .int .i64 0, .int .i64 0], true⟩
theorem tyok175 : TOk1 Tryz.prog 175 i175 := tok1 Tryz.typeInfo175 rfl rfl (tz1 _ rfl rfl rfl rfl) (kstruct Tryz.underlying175 rfl) (fun _ => flatEq (fs := [{ name := "Kind", type := 2, offset := 0, embedded := false, tag := "", pkgPath := "", byteOffset := 0 }, { name := "Value", type := 2, offset := 1, embedded := false, tag := "", pkgPath := "", byteOffset := 8 }, { name := "Left", type := 2, offset := 2, embedded := false, tag := "", pkgPath := "", byteOffset := 16 }, { name := "Right", type := 2, offset := 3, embedded := false, tag := "", pkgPath := "", byteOffset := 24 }]) (by kernel_rfl) (by kernel_rfl) (by kernel_rfl) (by kernel_rfl) rfl (by intro j f h; match j, h with | 0, h => (cases h; exact ⟨rfl, by decide, Tryz.underlying2⟩) | 1, h => (cases h; exact ⟨rfl, by decide, Tryz.underlying2⟩) | 2, h => (cases h; exact ⟨rfl, by decide, Tryz.underlying2⟩) | 3, h => (cases h; exact ⟨rfl, by decide, Tryz.underlying2⟩) | (n + 4), h => simp at h))
def i181 : TInfo := ⟨(.slice 3), 1, 24, some [.nils], false⟩
theorem tyok181 : TOk1 Tryz.prog 181 i181 := tok1 Tryz.typeInfo181 rfl rfl (tz1 _ rfl rfl rfl rfl) Tryz.underlying181 (fun h => absurd h (by decide))
def i186 : TInfo := ⟨(.int .u64), 1, 8, some [.int .u64 0], false⟩
theorem tyok186 : TOk1 Tryz.prog 186 i186 := tok1 Tryz.typeInfo186 rfl rfl (tz1 _ rfl rfl rfl rfl) Tryz.underlying186 (fun h => absurd h (by decide))
def i191 : TInfo := ⟨(.pointer 193), 1, 8, some [.nilp], false⟩
theorem tyok191 : TOk1 Tryz.prog 191 i191 := tok1 Tryz.typeInfo191 rfl rfl (tz1 _ rfl rfl rfl rfl) Tryz.underlying191 (fun h => absurd h (by decide))
def i193 : TInfo := ⟨(.struct [(0, 106), (1, 106)]), 2, 48, some [.nils, .nils], false⟩
theorem tyok193 : TOk1 Tryz.prog 193 i193 := tok1 Tryz.typeInfo193 rfl rfl (tz1 _ rfl rfl rfl rfl) (kstruct Tryz.underlying193 rfl) (fun h => absurd h (by decide))
def i201 : TInfo := ⟨(.pointer 140), 1, 8, some [.nilp], false⟩
theorem tyok201 : TOk1 Tryz.prog 201 i201 := tok1 Tryz.typeInfo201 rfl rfl (tz1 _ rfl rfl rfl rfl) Tryz.underlying201 (fun h => absurd h (by decide))
def i211 : TInfo := ⟨(.struct [(0, 2), (1, 2), (2, 2), (3, 2)]), 4, 32, some [.int .i64 0, .int .i64 0, .int .i64 0, .int .i64 0], true⟩
theorem tyok211 : TOk1 Tryz.prog 211 i211 := tok1 Tryz.typeInfo211 rfl rfl (tz1 _ rfl rfl rfl rfl) (kstruct Tryz.underlying211 rfl) (fun _ => flatEq (fs := [{ name := "Kind", type := 2, offset := 0, embedded := false, tag := "", pkgPath := "", byteOffset := 0 }, { name := "Value", type := 2, offset := 1, embedded := false, tag := "", pkgPath := "", byteOffset := 8 }, { name := "Left", type := 2, offset := 2, embedded := false, tag := "", pkgPath := "", byteOffset := 16 }, { name := "Right", type := 2, offset := 3, embedded := false, tag := "", pkgPath := "", byteOffset := 24 }]) (by kernel_rfl) (by kernel_rfl) (by kernel_rfl) (by kernel_rfl) rfl (by intro j f h; match j, h with | 0, h => (cases h; exact ⟨rfl, by decide, Tryz.underlying2⟩) | 1, h => (cases h; exact ⟨rfl, by decide, Tryz.underlying2⟩) | 2, h => (cases h; exact ⟨rfl, by decide, Tryz.underlying2⟩) | 3, h => (cases h; exact ⟨rfl, by decide, Tryz.underlying2⟩) | (n + 4), h => simp at h))
def i216 : TInfo := ⟨(.struct [(0, 2), (1, 2)]), 2, 16, some [.int .i64 0, .int .i64 0], true⟩
theorem tyok216 : TOk1 Tryz.prog 216 i216 := tok1 Tryz.typeInfo216 rfl rfl (tz1 _ rfl rfl rfl rfl) (kstruct Tryz.underlying216 rfl) (fun _ => flatEq (fs := [{ name := "Code", type := 2, offset := 0, embedded := false, tag := "", pkgPath := "", byteOffset := 0 }, { name := "Value", type := 2, offset := 1, embedded := false, tag := "", pkgPath := "", byteOffset := 8 }]) (by kernel_rfl) (by kernel_rfl) (by kernel_rfl) (by kernel_rfl) rfl (by intro j f h; match j, h with | 0, h => (cases h; exact ⟨rfl, by decide, Tryz.underlying2⟩) | 1, h => (cases h; exact ⟨rfl, by decide, Tryz.underlying2⟩) | (n + 2), h => simp at h))
def i222 : TInfo := ⟨(.pointer 175), 1, 8, some [.nilp], false⟩
theorem tyok222 : TOk1 Tryz.prog 222 i222 := tok1 Tryz.typeInfo222 rfl rfl (tz1 _ rfl rfl rfl rfl) Tryz.underlying222 (fun h => absurd h (by decide))
def i236 : TInfo := ⟨(.int .u32), 1, 4, some [.int .u32 0], false⟩
theorem tyok236 : TOk1 Tryz.prog 236 i236 := tok1 Tryz.typeInfo236 rfl rfl (tz1 _ rfl rfl rfl rfl) Tryz.underlying236 (fun h => absurd h (by decide))
def i240 : TInfo := ⟨(.pointer 5), 1, 8, some [.nilp], false⟩
theorem tyok240 : TOk1 Tryz.prog 240 i240 := tok1 Tryz.typeInfo240 rfl rfl (tz1 _ rfl rfl rfl rfl) Tryz.underlying240 (fun h => absurd h (by decide))
def i248 : TInfo := ⟨(.slice 9), 1, 24, some [.nils], false⟩
theorem tyok248 : TOk1 Tryz.prog 248 i248 := tok1 Tryz.typeInfo248 rfl rfl (tz1 _ rfl rfl rfl rfl) Tryz.underlying248 (fun h => absurd h (by decide))
def ti : TI := tiAdd 2 i2 (tiAdd 3 i3 (tiAdd 4 i4 (tiAdd 5 i5 (tiAdd 9 i9 (tiAdd 21 i21 (tiAdd 22 i22 (tiAdd 24 i24 (tiAdd 25 i25 (tiAdd 27 i27 (tiAdd 28 i28 (tiAdd 30 i30 (tiAdd 31 i31 (tiAdd 33 i33 (tiAdd 35 i35 (tiAdd 37 i37 (tiAdd 45 i45 (tiAdd 47 i47 (tiAdd 48 i48 (tiAdd 50 i50 (tiAdd 58 i58 (tiAdd 67 i67 (tiAdd 75 i75 (tiAdd 77 i77 (tiAdd 80 i80 (tiAdd 82 i82 (tiAdd 90 i90 (tiAdd 96 i96 (tiAdd 104 i104 (tiAdd 106 i106 (tiAdd 108 i108 (tiAdd 110 i110 (tiAdd 113 i113 (tiAdd 117 i117 (tiAdd 120 i120 (tiAdd 138 i138 (tiAdd 140 i140 (tiAdd 148 i148 (tiAdd 154 i154 (tiAdd 156 i156 (tiAdd 163 i163 (tiAdd 166 i166 (tiAdd 168 i168 (tiAdd 175 i175 (tiAdd 181 i181 (tiAdd 186 i186 (tiAdd 191 i191 (tiAdd 193 i193 (tiAdd 201 i201 (tiAdd 211 i211 (tiAdd 216 i216 (tiAdd 222 i222 (tiAdd 236 i236 (tiAdd 240 i240 (tiAdd 248 i248 (fun _ => none)))))))))))))))))))))))))))))))))))))))))))))))))))))))
theorem tiOk : TOk Tryz.prog ti := tok_add tyok2 (tok_add tyok3 (tok_add tyok4 (tok_add tyok5 (tok_add tyok9 (tok_add tyok21 (tok_add tyok22 (tok_add tyok24 (tok_add tyok25 (tok_add tyok27 (tok_add tyok28 (tok_add tyok30 (tok_add tyok31 (tok_add tyok33 (tok_add tyok35 (tok_add tyok37 (tok_add tyok45 (tok_add tyok47 (tok_add tyok48 (tok_add tyok50 (tok_add tyok58 (tok_add tyok67 (tok_add tyok75 (tok_add tyok77 (tok_add tyok80 (tok_add tyok82 (tok_add tyok90 (tok_add tyok96 (tok_add tyok104 (tok_add tyok106 (tok_add tyok108 (tok_add tyok110 (tok_add tyok113 (tok_add tyok117 (tok_add tyok120 (tok_add tyok138 (tok_add tyok140 (tok_add tyok148 (tok_add tyok154 (tok_add tyok156 (tok_add tyok163 (tok_add tyok166 (tok_add tyok168 (tok_add tyok175 (tok_add tyok181 (tok_add tyok186 (tok_add tyok191 (tok_add tyok193 (tok_add tyok201 (tok_add tyok211 (tok_add tyok216 (tok_add tyok222 (tok_add tyok236 (tok_add tyok240 (tok_add tyok248 (tok_nil)))))))))))))))))))))))))))))))))))))))))))))))))))))))
@[go_sem] theorem ti_2 : ti 2 = some ⟨(.int .i64), 1, 8, some [.int .i64 0], false⟩ := rfl
@[go_sem] theorem ti_3 : ti 3 = some ⟨(.int .i64), 1, 8, some [.int .i64 0], false⟩ := rfl
@[go_sem] theorem ti_4 : ti 4 = some ⟨.bool, 1, 1, some [.bool false], false⟩ := rfl
@[go_sem] theorem ti_5 : ti 5 = some ⟨(.int .u8), 1, 1, some [.int .u8 0], false⟩ := rfl
@[go_sem] theorem ti_9 : ti 9 = some ⟨.str, 1, 16, some [.str []], false⟩ := rfl
@[go_sem] theorem ti_21 : ti 21 = some ⟨(.int .i32), 1, 4, some [.int .i32 0], false⟩ := rfl
@[go_sem] theorem ti_22 : ti 22 = some ⟨(.slice 77), 1, 24, some [.nils], false⟩ := rfl
@[go_sem] theorem ti_24 : ti 24 = some ⟨(.slice 82), 1, 24, some [.nils], false⟩ := rfl
@[go_sem] theorem ti_25 : ti 25 = some ⟨(.slice 110), 1, 24, some [.nils], false⟩ := rfl
@[go_sem] theorem ti_27 : ti 27 = some ⟨(.struct [(0, 24), (1, 25), (2, 2)]), 3, 56, some [.nils, .nils, .int .i64 0], false⟩ := rfl
@[go_sem] theorem ti_28 : ti 28 = some ⟨(.slice 96), 1, 24, some [.nils], false⟩ := rfl
@[go_sem] theorem ti_30 : ti 30 = some ⟨(.struct [(0, 27), (3, 28)]), 4, 80, some [.nils, .nils, .int .i64 0, .nils], false⟩ := rfl
@[go_sem] theorem ti_31 : ti 31 = some ⟨(.slice 5), 1, 24, some [.nils], false⟩ := rfl
@[go_sem] theorem ti_33 : ti 33 = some ⟨(.struct [(0, 31), (1, 31)]), 2, 48, some [.nils, .nils], false⟩ := rfl
@[go_sem] theorem ti_35 : ti 35 = some ⟨(.struct [(0, 30), (4, 33)]), 6, 128, some [.nils, .nils, .int .i64 0, .nils, .nils, .nils], false⟩ := rfl
@[go_sem] theorem ti_37 : ti 37 = some ⟨(.struct [(0, 2), (1, 2), (2, 2), (3, 35)]), 9, 152, some [.int .i64 0, .int .i64 0, .int .i64 0, .nils, .nils, .int .i64 0, .nils, .nils, .nils], false⟩ := rfl
@[go_sem] theorem ti_45 : ti 45 = some ⟨(.slice 156), 1, 24, some [.nils], false⟩ := rfl
@[go_sem] theorem ti_47 : ti 47 = some ⟨(.struct [(0, 22), (1, 45), (2, 2)]), 3, 56, some [.nils, .nils, .int .i64 0], false⟩ := rfl
@[go_sem] theorem ti_48 : ti 48 = some ⟨(.slice 148), 1, 24, some [.nils], false⟩ := rfl
@[go_sem] theorem ti_50 : ti 50 = some ⟨(.struct [(0, 47), (3, 48)]), 4, 80, some [.nils, .nils, .int .i64 0, .nils], false⟩ := rfl
@[go_sem] theorem ti_58 : ti 58 = some ⟨(.struct [(0, 2), (1, 2), (2, 27)]), 5, 72, some [.int .i64 0, .int .i64 0, .nils, .nils, .int .i64 0], false⟩ := rfl
@[go_sem] theorem ti_67 : ti 67 = some ⟨(.struct [(0, 2), (1, 28)]), 2, 32, some [.int .i64 0, .nils], false⟩ := rfl
@[go_sem] theorem ti_75 : ti 75 = some ⟨(.slice 168), 1, 24, some [.nils], false⟩ := rfl
@[go_sem] theorem ti_77 : ti 77 = some ⟨(.struct [(0, 75)]), 1, 24, some [.nils], false⟩ := rfl
@[go_sem] theorem ti_80 : ti 80 = some ⟨(.slice 140), 1, 24, some [.nils], false⟩ := rfl
@[go_sem] theorem ti_82 : ti 82 = some ⟨(.struct [(0, 80)]), 1, 24, some [.nils], false⟩ := rfl
@[go_sem] theorem ti_90 : ti 90 = some ⟨(.pointer 30), 1, 8, some [.nilp], false⟩ := rfl
@[go_sem] theorem ti_96 : ti 96 = some ⟨(.struct [(0, 2), (1, 2), (2, 2)]), 3, 24, some [.int .i64 0, .int .i64 0, .int .i64 0], true⟩ := rfl
@[go_sem] theorem ti_104 : ti 104 = some ⟨(.pointer 27), 1, 8, some [.nilp], false⟩ := rfl
@[go_sem] theorem ti_106 : ti 106 = some ⟨(.slice 2), 1, 24, some [.nils], false⟩ := rfl
@[go_sem] theorem ti_108 : ti 108 = some ⟨(.struct [(0, 2), (1, 2), (2, 106), (3, 106), (4, 106)]), 5, 88, some [.int .i64 0, .int .i64 0, .nils, .nils, .nils], false⟩ := rfl
@[go_sem] theorem ti_110 : ti 110 = some ⟨(.struct [(0, 2), (1, 108)]), 6, 96, some [.int .i64 0, .int .i64 0, .int .i64 0, .nils, .nils, .nils], false⟩ := rfl
@[go_sem] theorem ti_113 : ti 113 = some ⟨(.pointer 108), 1, 8, some [.nilp], false⟩ := rfl
@[go_sem] theorem ti_117 : ti 117 = some ⟨(.pointer 120), 1, 8, some [.nilp], false⟩ := rfl
@[go_sem] theorem ti_120 : ti 120 = some ⟨(.struct [(0, 80), (1, 108)]), 6, 112, some [.nils, .int .i64 0, .int .i64 0, .nils, .nils, .nils], false⟩ := rfl
@[go_sem] theorem ti_138 : ti 138 = some ⟨(.slice 175), 1, 24, some [.nils], false⟩ := rfl
@[go_sem] theorem ti_140 : ti 140 = some ⟨(.struct [(0, 2), (1, 2), (2, 9), (3, 2), (4, 138), (5, 138)]), 6, 88, some [.int .i64 0, .int .i64 0, .str [], .int .i64 0, .nils, .nils], false⟩ := rfl
@[go_sem] theorem ti_148 : ti 148 = some ⟨(.struct [(0, 2), (1, 2), (2, 2)]), 3, 24, some [.int .i64 0, .int .i64 0, .int .i64 0], true⟩ := rfl
@[go_sem] theorem ti_154 : ti 154 = some ⟨(.struct [(0, 2), (1, 2), (2, 106), (3, 106), (4, 106)]), 5, 88, some [.int .i64 0, .int .i64 0, .nils, .nils, .nils], false⟩ := rfl
@[go_sem] theorem ti_156 : ti 156 = some ⟨(.struct [(0, 2), (1, 154)]), 6, 96, some [.int .i64 0, .int .i64 0, .int .i64 0, .nils, .nils, .nils], false⟩ := rfl
@[go_sem] theorem ti_163 : ti 163 = some ⟨(.pointer 110), 1, 8, some [.nilp], false⟩ := rfl
@[go_sem] theorem ti_166 : ti 166 = some ⟨(.slice 211), 1, 24, some [.nils], false⟩ := rfl
@[go_sem] theorem ti_168 : ti 168 = some ⟨(.struct [(0, 2), (1, 2), (2, 9), (3, 2), (4, 166), (5, 166)]), 6, 88, some [.int .i64 0, .int .i64 0, .str [], .int .i64 0, .nils, .nils], false⟩ := rfl
@[go_sem] theorem ti_175 : ti 175 = some ⟨(.struct [(0, 2), (1, 2), (2, 2), (3, 2)]), 4, 32, some [.int .i64 0, .int .i64 0, .int .i64 0, .int .i64 0], true⟩ := rfl
@[go_sem] theorem ti_181 : ti 181 = some ⟨(.slice 3), 1, 24, some [.nils], false⟩ := rfl
@[go_sem] theorem ti_186 : ti 186 = some ⟨(.int .u64), 1, 8, some [.int .u64 0], false⟩ := rfl
@[go_sem] theorem ti_191 : ti 191 = some ⟨(.pointer 193), 1, 8, some [.nilp], false⟩ := rfl
@[go_sem] theorem ti_193 : ti 193 = some ⟨(.struct [(0, 106), (1, 106)]), 2, 48, some [.nils, .nils], false⟩ := rfl
@[go_sem] theorem ti_201 : ti 201 = some ⟨(.pointer 140), 1, 8, some [.nilp], false⟩ := rfl
@[go_sem] theorem ti_211 : ti 211 = some ⟨(.struct [(0, 2), (1, 2), (2, 2), (3, 2)]), 4, 32, some [.int .i64 0, .int .i64 0, .int .i64 0, .int .i64 0], true⟩ := rfl
@[go_sem] theorem ti_216 : ti 216 = some ⟨(.struct [(0, 2), (1, 2)]), 2, 16, some [.int .i64 0, .int .i64 0], true⟩ := rfl
@[go_sem] theorem ti_222 : ti 222 = some ⟨(.pointer 175), 1, 8, some [.nilp], false⟩ := rfl
@[go_sem] theorem ti_236 : ti 236 = some ⟨(.int .u32), 1, 4, some [.int .u32 0], false⟩ := rfl
@[go_sem] theorem ti_240 : ti 240 = some ⟨(.pointer 5), 1, 8, some [.nilp], false⟩ := rfl
@[go_sem] theorem ti_248 : ti 248 = some ⟨(.slice 9), 1, 24, some [.nils], false⟩ := rfl
end Go.AM

/-! ### Rd -/
set_option linter.unusedVariables false
set_option linter.unusedSimpArgs false
namespace Go.AM
open Go.Proofs
open Go.ChangeShapes Go.WideShapes Go.RowKit
set_option linter.unusedVariables false

abbrev rd_2 := Rd.int (t := 2) (cellsOf_of tiOk ti_2) Tryz.underlying2
abbrev rd_9 := Rd.str (t := 9) (cellsOf_of tiOk ti_9) Tryz.underlying9
theorem rd_211 : Rd Tryz.prog 211 TNode TNode.ro (fun _ => True) 4 := by
  refine ⟨cellsOf_of tiOk ti_211, ?_⟩
  intro H enc w base spare held fuel cs x h
  obtain ⟨xs, n, rfl, rfl, hl, hn, hf⟩ := DataW.trod_struct Tryz.underlying211 h
  have hl : cs.length = 4 := by rw [hl]; exact cellsOf_of tiOk ti_211
  have e0 : DataW.trod enc Tryz.prog w base spare held n 2 ((cs.drop 0).take (Tryz.prog.cellsOf 2)) = xs[0]? := hf 0 _ rfl
  obtain ⟨y0, hy0⟩ : ∃ y, xs[0]? = some y := ⟨xs[0]'(by rw [hn]; decide), List.getElem?_eq_getElem _⟩
  rw [hy0, rd_2.size] at e0
  obtain ⟨a0, o0, r0, _⟩ := rd_2.read enc w base spare held n _ _ e0
  have e1 : DataW.trod enc Tryz.prog w base spare held n 2 ((cs.drop 1).take (Tryz.prog.cellsOf 2)) = xs[1]? := hf 1 _ rfl
  obtain ⟨y1, hy1⟩ : ∃ y, xs[1]? = some y := ⟨xs[1]'(by rw [hn]; decide), List.getElem?_eq_getElem _⟩
  rw [hy1, rd_2.size] at e1
  obtain ⟨a1, o1, r1, _⟩ := rd_2.read enc w base spare held n _ _ e1
  have e2 : DataW.trod enc Tryz.prog w base spare held n 2 ((cs.drop 2).take (Tryz.prog.cellsOf 2)) = xs[2]? := hf 2 _ rfl
  obtain ⟨y2, hy2⟩ : ∃ y, xs[2]? = some y := ⟨xs[2]'(by rw [hn]; decide), List.getElem?_eq_getElem _⟩
  rw [hy2, rd_2.size] at e2
  obtain ⟨a2, o2, r2, _⟩ := rd_2.read enc w base spare held n _ _ e2
  have e3 : DataW.trod enc Tryz.prog w base spare held n 2 ((cs.drop 3).take (Tryz.prog.cellsOf 2)) = xs[3]? := hf 3 _ rfl
  obtain ⟨y3, hy3⟩ : ∃ y, xs[3]? = some y := ⟨xs[3]'(by rw [hn]; decide), List.getElem?_eq_getElem _⟩
  rw [hy3, rd_2.size] at e3
  obtain ⟨a3, o3, r3, _⟩ := rd_2.read enc w base spare held n _ _ e3
  refine ⟨⟨a0, a1, a2, a3⟩, trivial, ?_, hl⟩
  exact RdC.cons (o := 0) (s := 1) r0 (RdC.cons (o := 1) (s := 1) r1 (RdC.cons (o := 2) (s := 1) r2 (RdC.cons (o := 3) (s := 1) r3 (RdC.nil (List.drop_eq_nil_of_le (show cs.length ≤ 4 by omega))))))
abbrev rd_166 := Rd.slice (t := 166) rd_211 (by decide) (cellsOf_of tiOk ti_166) Tryz.underlying166
theorem rd_168 : Rd Tryz.prog 168 TStep TStep.ro TStep.gok 6 := by
  refine ⟨cellsOf_of tiOk ti_168, ?_⟩
  intro H enc w base spare held fuel cs x h
  obtain ⟨xs, n, rfl, rfl, hl, hn, hf⟩ := DataW.trod_struct Tryz.underlying168 h
  have hl : cs.length = 6 := by rw [hl]; exact cellsOf_of tiOk ti_168
  have e0 : DataW.trod enc Tryz.prog w base spare held n 2 ((cs.drop 0).take (Tryz.prog.cellsOf 2)) = xs[0]? := hf 0 _ rfl
  obtain ⟨y0, hy0⟩ : ∃ y, xs[0]? = some y := ⟨xs[0]'(by rw [hn]; decide), List.getElem?_eq_getElem _⟩
  rw [hy0, rd_2.size] at e0
  obtain ⟨a0, o0, r0, _⟩ := rd_2.read enc w base spare held n _ _ e0
  have e1 : DataW.trod enc Tryz.prog w base spare held n 2 ((cs.drop 1).take (Tryz.prog.cellsOf 2)) = xs[1]? := hf 1 _ rfl
  obtain ⟨y1, hy1⟩ : ∃ y, xs[1]? = some y := ⟨xs[1]'(by rw [hn]; decide), List.getElem?_eq_getElem _⟩
  rw [hy1, rd_2.size] at e1
  obtain ⟨a1, o1, r1, _⟩ := rd_2.read enc w base spare held n _ _ e1
  have e2 : DataW.trod enc Tryz.prog w base spare held n 9 ((cs.drop 2).take (Tryz.prog.cellsOf 9)) = xs[2]? := hf 2 _ rfl
  obtain ⟨y2, hy2⟩ : ∃ y, xs[2]? = some y := ⟨xs[2]'(by rw [hn]; decide), List.getElem?_eq_getElem _⟩
  rw [hy2, rd_9.size] at e2
  obtain ⟨a2, o2, r2, _⟩ := rd_9.read enc w base spare held n _ _ e2
  have e3 : DataW.trod enc Tryz.prog w base spare held n 2 ((cs.drop 3).take (Tryz.prog.cellsOf 2)) = xs[3]? := hf 3 _ rfl
  obtain ⟨y3, hy3⟩ : ∃ y, xs[3]? = some y := ⟨xs[3]'(by rw [hn]; decide), List.getElem?_eq_getElem _⟩
  rw [hy3, rd_2.size] at e3
  obtain ⟨a3, o3, r3, _⟩ := rd_2.read enc w base spare held n _ _ e3
  have e4 : DataW.trod enc Tryz.prog w base spare held n 166 ((cs.drop 4).take (Tryz.prog.cellsOf 166)) = xs[4]? := hf 4 _ rfl
  obtain ⟨y4, hy4⟩ : ∃ y, xs[4]? = some y := ⟨xs[4]'(by rw [hn]; decide), List.getElem?_eq_getElem _⟩
  rw [hy4, rd_166.size] at e4
  obtain ⟨a4, o4, r4, _⟩ := rd_166.read enc w base spare held n _ _ e4
  have e5 : DataW.trod enc Tryz.prog w base spare held n 166 ((cs.drop 5).take (Tryz.prog.cellsOf 166)) = xs[5]? := hf 5 _ rfl
  obtain ⟨y5, hy5⟩ : ∃ y, xs[5]? = some y := ⟨xs[5]'(by rw [hn]; decide), List.getElem?_eq_getElem _⟩
  rw [hy5, rd_166.size] at e5
  obtain ⟨a5, o5, r5, _⟩ := rd_166.read enc w base spare held n _ _ e5
  refine ⟨⟨a0, a1, a2, a3, a4, a5⟩, ⟨o2, o4.1, o5.1⟩, ?_, hl⟩
  exact RdC.cons (o := 0) (s := 1) r0 (RdC.cons (o := 1) (s := 1) r1 (RdC.cons (o := 2) (s := 1) r2 (RdC.cons (o := 3) (s := 1) r3 (RdC.cons (o := 4) (s := 1) r4 (RdC.cons (o := 5) (s := 1) r5 (RdC.nil (List.drop_eq_nil_of_le (show cs.length ≤ 6 by omega))))))))
abbrev rd_75 := Rd.slice (t := 75) rd_168 (by decide) (cellsOf_of tiOk ti_75) Tryz.underlying75
theorem rd_77 : Rd Tryz.prog 77 TProc TProc.ro TProc.gok 1 := by
  refine ⟨cellsOf_of tiOk ti_77, ?_⟩
  intro H enc w base spare held fuel cs x h
  obtain ⟨xs, n, rfl, rfl, hl, hn, hf⟩ := DataW.trod_struct Tryz.underlying77 h
  have hl : cs.length = 1 := by rw [hl]; exact cellsOf_of tiOk ti_77
  have e0 : DataW.trod enc Tryz.prog w base spare held n 75 ((cs.drop 0).take (Tryz.prog.cellsOf 75)) = xs[0]? := hf 0 _ rfl
  obtain ⟨y0, hy0⟩ : ∃ y, xs[0]? = some y := ⟨xs[0]'(by rw [hn]; decide), List.getElem?_eq_getElem _⟩
  rw [hy0, rd_75.size] at e0
  obtain ⟨a0, o0, r0, _⟩ := rd_75.read enc w base spare held n _ _ e0
  refine ⟨⟨a0⟩, o0, ?_, hl⟩
  exact RdC.cons (o := 0) (s := 1) r0 (RdC.nil (List.drop_eq_nil_of_le (show cs.length ≤ 1 by omega)))
abbrev rd_22 := Rd.slice (t := 22) rd_77 (by decide) (cellsOf_of tiOk ti_22) Tryz.underlying22
end Go.AM

/-! ### T1 -/
set_option linter.unusedVariables false
set_option linter.unusedSimpArgs false
namespace Go.AM
open Go.Proofs

set_option maxHeartbeats 600000 in
set_option linter.unusedSimpArgs false in
set_option maxRecDepth 100000 in
/-- laws.eqInt64S -/
theorem dc_laws_eqInt64S (a b : List Int) (ha : a.length ≤ 9223372036854775807) : DC Tryz.prog 157 [.isl 1 (a.map I1), .isl 1 (b.map I1)] (.bool (decide (a = b))) [] := by
  refine DC.intro tiOk Tryz.func157 rfl rfl rfl rfl rfl rfl rfl rfl [] ?_
  refine AW.reg tiOk (fun _ => []) [0, 1] ?_
  intro k hk; simp -dsimp [go_sem, -decide_eq_true_eq, -decide_eq_false_iff_not]
  repeat' (first | refine And.intro ?_ ?_ | refine hk _ ?_ | intro hg | omega | exact True.intro)
  all_goals clear hk k
  refine AW.seq ?_
  refine AW.reg tiOk (fun _ => []) [0, 1, 10] ?_
  intro k hk; simp -dsimp [go_sem, -decide_eq_true_eq, -decide_eq_false_iff_not]
  repeat' (first | refine And.intro ?_ ?_ | refine hk _ ?_ | intro hg | omega | exact True.intro)
  all_goals clear hk k
  refine AW.cond rfl ?_ ?_
  · intro hc; try simp at hc
    all_goals (
      refine AW.reg tiOk (fun _ => []) [4] ?_
      intro k hk; simp -dsimp [go_sem, -decide_eq_true_eq, -decide_eq_false_iff_not]
      repeat' (first | refine And.intro ?_ ?_ | refine hk _ ?_ | intro hg | omega | exact True.intro)
      all_goals clear hk k
      refine AW.retF (ow := []) (muts := []) ?_ (fun h => And.intro (.inr rfl) h)
      first | (rw [eq_ne_at hx hy (by first | assumption | (intro e; subst e; omega))]; simp [go_sem, Tryz.results157]; done) | (rw [eq_end (by omega) hinv (by omega)]; simp [go_sem, Tryz.results157]; done) | (rw [eq_ne_len (by omega)]; simp [go_sem, Tryz.results157]))
  · intro hc; try simp at hc
    all_goals (
      refine AW.skipN (fun _ h => h) ?_
      refine AW.seq ?_
      refine AW.reg tiOk (fun _ => []) [0, 1, 5] ?_
      intro k hk; simp -dsimp [go_sem, -decide_eq_true_eq, -decide_eq_false_iff_not]
      repeat' (first | refine And.intro ?_ ?_ | refine hk _ ?_ | intro hg | omega | exact True.intro)
      all_goals clear hk k
      refine AW.block ?_
      -- live at the loop's head: [0, 1, 5]
      refine AW.loopI (fun i : Nat => ⟨26, [(0, .isl 1 (a.map I1)), (1, .isl 1 (b.map I1)), (5, .int .i64 i)], []⟩) (fun i => i ≤ a.length ∧ a.take i = b.take i) (fun i => a.length - i) (0) (by simp) (Less.of rfl (by simp [go_sem]) (by simp [go_sem])) ?_
      rintro i ⟨hi, hinv⟩
      refine AW.seq ?_
      refine AW.reg tiOk (fun _ => []) [0, 1, 5, 14] ?_
      intro k hk; simp -dsimp [go_sem, -decide_eq_true_eq, -decide_eq_false_iff_not]
      repeat' (first | refine And.intro ?_ ?_ | refine hk _ ?_ | intro hg | omega | exact True.intro)
      all_goals clear hk k
      refine AW.cond rfl ?_ ?_
      · intro hc; try simp at hc
        all_goals (
          have hlt : i < a.length := by assumption
          obtain ⟨x, hx⟩ := at_some hlt
          obtain ⟨y, hy⟩ := at_some (l := b) (show i < b.length by omega)
          have hla := at_lt hy
          refine AW.skipN (fun _ h => h) ?_
          refine AW.seq ?_
          refine AW.block ?_
          refine AW.reg tiOk (fun _ => []) [0, 1, 5, 25] ?_
          intro k hk; simp -dsimp (maxSteps := 2000000) [go_sem, -decide_eq_true_eq, -decide_eq_false_iff_not, hx, hy]
          repeat' (first | refine And.intro ?_ ?_ | (refine Chk.keys ?_; simp only [go_sem, List.map_cons, List.map_nil, List.flatMap_cons, List.flatMap_nil, List.flatMap_append, List.append_nil, List.nil_append, List.cons_append]; decide +kernel) | refine hk _ ?_ | intro hg | omega | exact True.intro)
          all_goals clear hk k
          refine AW.cond rfl ?_ ?_
          · intro hc; try simp at hc
            all_goals (
              refine AW.reg tiOk (fun _ => []) [4] ?_
              intro k hk; simp -dsimp [go_sem, -decide_eq_true_eq, -decide_eq_false_iff_not, hx, hy]
              repeat' (first | refine And.intro ?_ ?_ | refine hk _ ?_ | intro hg | omega | exact True.intro)
              all_goals clear hk k
              refine AW.retF (ow := []) (muts := []) ?_ (fun h => And.intro (.inr rfl) h)
              first | (rw [eq_ne_at hx hy (by first | assumption | (intro e; subst e; omega))]; simp [go_sem, Tryz.results157]; done) | (rw [eq_end (by omega) hinv (by omega)]; simp [go_sem, Tryz.results157]; done) | (rw [eq_ne_len (by omega)]; simp [go_sem, Tryz.results157]))
          · intro hc; try simp at hc
            all_goals (
              refine AW.skipN (fun _ h => h) ?_
              refine AW.regK tiOk (fun _ => []) ?_
              intro k hk; simp -dsimp [go_sem, -decide_eq_true_eq, -decide_eq_false_iff_not, hx, hy]
              repeat' (first | refine And.intro ?_ ?_ | refine hk _ ?_ | intro hg | omega | exact True.intro)
              all_goals clear hk k
              show ∃ _, _
              have hw := wrapi hlt (by omega)
              refine ⟨i + 1, ⟨by omega, take_step hx hy (by first | assumption | (apply UInt8.toNat_inj.1; omega)) hinv⟩, by omega, Less.of rfl (by simp [go_sem, hw]) (by simp [go_sem])⟩))
      · intro hc; try simp at hc
        all_goals (
          refine AW.exitN (fun _ h => h) ?_
          refine AW.reg tiOk (fun _ => []) [4] ?_
          intro k hk; simp -dsimp [go_sem, -decide_eq_true_eq, -decide_eq_false_iff_not]
          repeat' (first | refine And.intro ?_ ?_ | refine hk _ ?_ | intro hg | omega | exact True.intro)
          all_goals clear hk k
          refine AW.retF (ow := []) (muts := []) ?_ (fun h => And.intro (.inr rfl) h)
          first | (rw [eq_ne_at hx hy (by first | assumption | (intro e; subst e; omega))]; simp [go_sem, Tryz.results157]; done) | (rw [eq_end (by omega) hinv (by omega)]; simp [go_sem, Tryz.results157]; done) | (rw [eq_ne_len (by omega)]; simp [go_sem, Tryz.results157])))

set_option maxHeartbeats 600000 in
set_option linter.unusedSimpArgs false in
set_option maxRecDepth 100000 in
/-- laws.eqChart -/
theorem dc_laws_eqChart (a b : TChart) (hg : a.gok) : DC Tryz.prog 136 [.agg a.ro, .agg b.ro] (.bool (decide (a = b))) [] := by
  obtain ⟨h0, h1, h2⟩ := hg
  refine DC.intro tiOk Tryz.func136 rfl rfl rfl rfl rfl rfl rfl rfl [] ?_
  refine AW.reg tiOk (fun _ => []) [2, 3] ?_
  intro k hk; simp -dsimp [go_sem, -decide_eq_true_eq, -decide_eq_false_iff_not]
  repeat' (first | refine And.intro ?_ ?_ | refine hk _ ?_ | intro hg | omega | exact True.intro)
  all_goals clear hk k
  refine AW.seq ?_
  refine AW.reg tiOk (fun _ => []) [2, 3, 9] ?_
  intro k hk; simp -dsimp [go_sem, -decide_eq_true_eq, -decide_eq_false_iff_not]
  repeat' (first | refine And.intro ?_ ?_ | refine hk _ ?_ | intro hg | omega | exact True.intro)
  all_goals clear hk k
  refine AW.cond rfl ?_ ?_
  · intro hc; try simp at hc
    all_goals (
      refine AW.reg tiOk (fun _ => []) [4] ?_
      intro k hk; simp -dsimp [go_sem, -decide_eq_true_eq, -decide_eq_false_iff_not]
      repeat' (first | refine And.intro ?_ ?_ | refine hk _ ?_ | intro hg | omega | exact True.intro)
      all_goals clear hk k
      refine AW.retF (ow := []) (muts := []) ?_ (fun h => And.intro (.inr rfl) h)
      cases a; cases b; simp [go_sem, Tryz.results136] at *; simp [*])
  · intro hc; try simp at hc
    all_goals (
      refine AW.skipN (fun _ h => h) ?_
      refine AW.seq ?_
      refine AW.reg tiOk (fun _ => []) [2, 3, 14] ?_
      intro k hk; simp -dsimp [go_sem, -decide_eq_true_eq, -decide_eq_false_iff_not]
      repeat' (first | refine And.intro ?_ ?_ | refine hk _ ?_ | intro hg | omega | exact True.intro)
      all_goals clear hk k
      refine AW.cond rfl ?_ ?_
      · intro hc; try simp at hc
        all_goals (
          refine AW.reg tiOk (fun _ => []) [4] ?_
          intro k hk; simp -dsimp [go_sem, -decide_eq_true_eq, -decide_eq_false_iff_not]
          repeat' (first | refine And.intro ?_ ?_ | refine hk _ ?_ | intro hg | omega | exact True.intro)
          all_goals clear hk k
          refine AW.retF (ow := []) (muts := []) ?_ (fun h => And.intro (.inr rfl) h)
          cases a; cases b; simp [go_sem, Tryz.results136] at *; simp [*])
      · intro hc; try simp at hc
        all_goals (
          refine AW.skipN (fun _ h => h) ?_
          refine AW.seq ?_
          refine AW.reg tiOk (fun _ => []) [2, 3, 20] ?_
          intro k hk; simp -dsimp (maxSteps := 2000000) [go_sem, -decide_eq_true_eq, -decide_eq_false_iff_not]
          repeat' (first | refine And.intro ?_ ?_ | refine hk _ ?_ | intro hg | (refine CallK.intro (dc_laws_eqInt64S _ _ (by assumption)) ?_; simp -dsimp (maxSteps := 2000000) [go_sem, -decide_eq_true_eq, -decide_eq_false_iff_not]) | omega | exact True.intro)
          all_goals clear hk k
          refine AW.cond rfl ?_ ?_
          · intro hc; try simp at hc
            all_goals (
              refine AW.reg tiOk (fun _ => []) [4] ?_
              intro k hk; simp -dsimp [go_sem, -decide_eq_true_eq, -decide_eq_false_iff_not]
              repeat' (first | refine And.intro ?_ ?_ | refine hk _ ?_ | intro hg | omega | exact True.intro)
              all_goals clear hk k
              refine AW.retF (ow := []) (muts := []) ?_ (fun h => And.intro (.inr rfl) h)
              cases a; cases b; simp [go_sem, Tryz.results136] at *; simp [*])
          · intro hc; try simp at hc
            all_goals (
              refine AW.skipN (fun _ h => h) ?_
              refine AW.seq ?_
              refine AW.reg tiOk (fun _ => []) [2, 3, 26] ?_
              intro k hk; simp -dsimp (maxSteps := 2000000) [go_sem, -decide_eq_true_eq, -decide_eq_false_iff_not]
              repeat' (first | refine And.intro ?_ ?_ | refine hk _ ?_ | intro hg | (refine CallK.intro (dc_laws_eqInt64S _ _ (by assumption)) ?_; simp -dsimp (maxSteps := 2000000) [go_sem, -decide_eq_true_eq, -decide_eq_false_iff_not]) | omega | exact True.intro)
              all_goals clear hk k
              refine AW.cond rfl ?_ ?_
              · intro hc; try simp at hc
                all_goals (
                  refine AW.reg tiOk (fun _ => []) [4] ?_
                  intro k hk; simp -dsimp [go_sem, -decide_eq_true_eq, -decide_eq_false_iff_not]
                  repeat' (first | refine And.intro ?_ ?_ | refine hk _ ?_ | intro hg | omega | exact True.intro)
                  all_goals clear hk k
                  refine AW.retF (ow := []) (muts := []) ?_ (fun h => And.intro (.inr rfl) h)
                  cases a; cases b; simp [go_sem, Tryz.results136] at *; simp [*])
              · intro hc; try simp at hc
                all_goals (
                  refine AW.skipN (fun _ h => h) ?_
                  refine AW.seq ?_
                  refine AW.reg tiOk (fun _ => []) [32] ?_
                  intro k hk; simp -dsimp (maxSteps := 2000000) [go_sem, -decide_eq_true_eq, -decide_eq_false_iff_not]
                  repeat' (first | refine And.intro ?_ ?_ | refine hk _ ?_ | intro hg | (refine CallK.intro (dc_laws_eqInt64S _ _ (by assumption)) ?_; simp -dsimp (maxSteps := 2000000) [go_sem, -decide_eq_true_eq, -decide_eq_false_iff_not]) | omega | exact True.intro)
                  all_goals clear hk k
                  refine AW.cond rfl ?_ ?_
                  · intro hc; try simp at hc
                    all_goals (
                      refine AW.reg tiOk (fun _ => []) [4] ?_
                      intro k hk; simp -dsimp [go_sem, -decide_eq_true_eq, -decide_eq_false_iff_not]
                      repeat' (first | refine And.intro ?_ ?_ | refine hk _ ?_ | intro hg | omega | exact True.intro)
                      all_goals clear hk k
                      refine AW.retF (ow := []) (muts := []) ?_ (fun h => And.intro (.inr rfl) h)
                      cases a; cases b; simp [go_sem, Tryz.results136] at *; simp [*])
                  · intro hc; try simp at hc
                    all_goals (
                      refine AW.skipN (fun _ h => h) ?_
                      refine AW.reg tiOk (fun _ => []) [4] ?_
                      intro k hk; simp -dsimp [go_sem, -decide_eq_true_eq, -decide_eq_false_iff_not]
                      repeat' (first | refine And.intro ?_ ?_ | refine hk _ ?_ | intro hg | omega | exact True.intro)
                      all_goals clear hk k
                      refine AW.retF (ow := []) (muts := []) ?_ (fun h => And.intro (.inr rfl) h)
                      cases a; cases b; simp [go_sem, Tryz.results136] at *; simp [*])))))

end Go.AM

/-! ### T2 -/
set_option linter.unusedVariables false
set_option linter.unusedSimpArgs false
namespace Go.AM
open Go.Proofs

set_option maxHeartbeats 600000 in
set_option linter.unusedSimpArgs false in
set_option maxRecDepth 100000 in
/-- laws.eqByteS -/
theorem dc_laws_eqByteS (a b : List UInt8) (ha : a.length ≤ 9223372036854775807) : DC Tryz.prog 122 [.isl 1 (a.map B1), .isl 1 (b.map B1)] (.bool (decide (a = b))) [] := by
  refine DC.intro tiOk Tryz.func122 rfl rfl rfl rfl rfl rfl rfl rfl [] ?_
  refine AW.reg tiOk (fun _ => []) [0, 1] ?_
  intro k hk; simp -dsimp [go_sem, -decide_eq_true_eq, -decide_eq_false_iff_not]
  repeat' (first | refine And.intro ?_ ?_ | refine hk _ ?_ | intro hg | omega | exact True.intro)
  all_goals clear hk k
  refine AW.seq ?_
  refine AW.reg tiOk (fun _ => []) [0, 1, 10] ?_
  intro k hk; simp -dsimp [go_sem, -decide_eq_true_eq, -decide_eq_false_iff_not]
  repeat' (first | refine And.intro ?_ ?_ | refine hk _ ?_ | intro hg | omega | exact True.intro)
  all_goals clear hk k
  refine AW.cond rfl ?_ ?_
  · intro hc; try simp at hc
    all_goals (
      refine AW.reg tiOk (fun _ => []) [4] ?_
      intro k hk; simp -dsimp [go_sem, -decide_eq_true_eq, -decide_eq_false_iff_not]
      repeat' (first | refine And.intro ?_ ?_ | refine hk _ ?_ | intro hg | omega | exact True.intro)
      all_goals clear hk k
      refine AW.retF (ow := []) (muts := []) ?_ (fun h => And.intro (.inr rfl) h)
      first | (rw [eq_ne_at hx hy (by first | assumption | (intro e; subst e; omega))]; simp [go_sem, Tryz.results122]; done) | (rw [eq_end (by omega) hinv (by omega)]; simp [go_sem, Tryz.results122]; done) | (rw [eq_ne_len (by omega)]; simp [go_sem, Tryz.results122]))
  · intro hc; try simp at hc
    all_goals (
      refine AW.skipN (fun _ h => h) ?_
      refine AW.seq ?_
      refine AW.reg tiOk (fun _ => []) [0, 1, 5] ?_
      intro k hk; simp -dsimp [go_sem, -decide_eq_true_eq, -decide_eq_false_iff_not]
      repeat' (first | refine And.intro ?_ ?_ | refine hk _ ?_ | intro hg | omega | exact True.intro)
      all_goals clear hk k
      refine AW.block ?_
      -- live at the loop's head: [0, 1, 5]
      refine AW.loopI (fun i : Nat => ⟨26, [(0, .isl 1 (a.map B1)), (1, .isl 1 (b.map B1)), (5, .int .i64 i)], []⟩) (fun i => i ≤ a.length ∧ a.take i = b.take i) (fun i => a.length - i) (0) (by simp) (Less.of rfl (by simp [go_sem]) (by simp [go_sem])) ?_
      rintro i ⟨hi, hinv⟩
      refine AW.seq ?_
      refine AW.reg tiOk (fun _ => []) [0, 1, 5, 14] ?_
      intro k hk; simp -dsimp [go_sem, -decide_eq_true_eq, -decide_eq_false_iff_not]
      repeat' (first | refine And.intro ?_ ?_ | refine hk _ ?_ | intro hg | omega | exact True.intro)
      all_goals clear hk k
      refine AW.cond rfl ?_ ?_
      · intro hc; try simp at hc
        all_goals (
          have hlt : i < a.length := by assumption
          obtain ⟨x, hx⟩ := at_some hlt
          obtain ⟨y, hy⟩ := at_some (l := b) (show i < b.length by omega)
          have hla := at_lt hy
          refine AW.skipN (fun _ h => h) ?_
          refine AW.seq ?_
          refine AW.block ?_
          refine AW.reg tiOk (fun _ => []) [0, 1, 5, 25] ?_
          intro k hk; simp -dsimp (maxSteps := 2000000) [go_sem, -decide_eq_true_eq, -decide_eq_false_iff_not, hx, hy]
          repeat' (first | refine And.intro ?_ ?_ | (refine Chk.keys ?_; simp only [go_sem, List.map_cons, List.map_nil, List.flatMap_cons, List.flatMap_nil, List.flatMap_append, List.append_nil, List.nil_append, List.cons_append]; decide +kernel) | refine hk _ ?_ | intro hg | omega | exact True.intro)
          all_goals clear hk k
          refine AW.cond rfl ?_ ?_
          · intro hc; try simp at hc
            all_goals (
              refine AW.reg tiOk (fun _ => []) [4] ?_
              intro k hk; simp -dsimp [go_sem, -decide_eq_true_eq, -decide_eq_false_iff_not, hx, hy]
              repeat' (first | refine And.intro ?_ ?_ | refine hk _ ?_ | intro hg | omega | exact True.intro)
              all_goals clear hk k
              refine AW.retF (ow := []) (muts := []) ?_ (fun h => And.intro (.inr rfl) h)
              first | (rw [eq_ne_at hx hy (by first | assumption | (intro e; subst e; omega))]; simp [go_sem, Tryz.results122]; done) | (rw [eq_end (by omega) hinv (by omega)]; simp [go_sem, Tryz.results122]; done) | (rw [eq_ne_len (by omega)]; simp [go_sem, Tryz.results122]))
          · intro hc; try simp at hc
            all_goals (
              refine AW.skipN (fun _ h => h) ?_
              refine AW.regK tiOk (fun _ => []) ?_
              intro k hk; simp -dsimp [go_sem, -decide_eq_true_eq, -decide_eq_false_iff_not, hx, hy]
              repeat' (first | refine And.intro ?_ ?_ | refine hk _ ?_ | intro hg | omega | exact True.intro)
              all_goals clear hk k
              show ∃ _, _
              have hw := wrapi hlt (by omega)
              refine ⟨i + 1, ⟨by omega, take_step hx hy (by first | assumption | (apply UInt8.toNat_inj.1; omega)) hinv⟩, by omega, Less.of rfl (by simp [go_sem, hw]) (by simp [go_sem])⟩))
      · intro hc; try simp at hc
        all_goals (
          refine AW.exitN (fun _ h => h) ?_
          refine AW.reg tiOk (fun _ => []) [4] ?_
          intro k hk; simp -dsimp [go_sem, -decide_eq_true_eq, -decide_eq_false_iff_not]
          repeat' (first | refine And.intro ?_ ?_ | refine hk _ ?_ | intro hg | omega | exact True.intro)
          all_goals clear hk k
          refine AW.retF (ow := []) (muts := []) ?_ (fun h => And.intro (.inr rfl) h)
          first | (rw [eq_ne_at hx hy (by first | assumption | (intro e; subst e; omega))]; simp [go_sem, Tryz.results122]; done) | (rw [eq_end (by omega) hinv (by omega)]; simp [go_sem, Tryz.results122]; done) | (rw [eq_ne_len (by omega)]; simp [go_sem, Tryz.results122])))

set_option maxHeartbeats 600000 in
set_option linter.unusedSimpArgs false in
set_option maxRecDepth 100000 in
/-- laws.eqJournal -/
theorem dc_laws_eqJournal (a b : TJournal) (hg : a.gok) : DC Tryz.prog 88 [.agg a.ro, .agg b.ro] (.bool (decide (a = b))) [] := by
  obtain ⟨h0, h1⟩ := hg
  refine DC.intro tiOk Tryz.func88 rfl rfl rfl rfl rfl rfl rfl rfl [] ?_
  refine AW.reg tiOk (fun _ => []) [2, 3] ?_
  intro k hk; simp -dsimp [go_sem, -decide_eq_true_eq, -decide_eq_false_iff_not]
  repeat' (first | refine And.intro ?_ ?_ | refine hk _ ?_ | intro hg | omega | exact True.intro)
  all_goals clear hk k
  refine AW.seq ?_
  refine AW.reg tiOk (fun _ => []) [2, 3, 10] ?_
  intro k hk; simp -dsimp (maxSteps := 2000000) [go_sem, -decide_eq_true_eq, -decide_eq_false_iff_not]
  repeat' (first | refine And.intro ?_ ?_ | refine hk _ ?_ | intro hg | (refine CallK.intro (dc_laws_eqByteS _ _ (by assumption)) ?_; simp -dsimp (maxSteps := 2000000) [go_sem, -decide_eq_true_eq, -decide_eq_false_iff_not]) | omega | exact True.intro)
  all_goals clear hk k
  refine AW.cond rfl ?_ ?_
  · intro hc; try simp at hc
    all_goals (
      refine AW.reg tiOk (fun _ => []) [4] ?_
      intro k hk; simp -dsimp [go_sem, -decide_eq_true_eq, -decide_eq_false_iff_not]
      repeat' (first | refine And.intro ?_ ?_ | refine hk _ ?_ | intro hg | omega | exact True.intro)
      all_goals clear hk k
      refine AW.retF (ow := []) (muts := []) ?_ (fun h => And.intro (.inr rfl) h)
      cases a; cases b; simp [go_sem, Tryz.results88] at *; simp [*])
  · intro hc; try simp at hc
    all_goals (
      refine AW.skipN (fun _ h => h) ?_
      refine AW.seq ?_
      refine AW.reg tiOk (fun _ => []) [16] ?_
      intro k hk; simp -dsimp (maxSteps := 2000000) [go_sem, -decide_eq_true_eq, -decide_eq_false_iff_not]
      repeat' (first | refine And.intro ?_ ?_ | refine hk _ ?_ | intro hg | (refine CallK.intro (dc_laws_eqByteS _ _ (by assumption)) ?_; simp -dsimp (maxSteps := 2000000) [go_sem, -decide_eq_true_eq, -decide_eq_false_iff_not]) | omega | exact True.intro)
      all_goals clear hk k
      refine AW.cond rfl ?_ ?_
      · intro hc; try simp at hc
        all_goals (
          refine AW.reg tiOk (fun _ => []) [4] ?_
          intro k hk; simp -dsimp [go_sem, -decide_eq_true_eq, -decide_eq_false_iff_not]
          repeat' (first | refine And.intro ?_ ?_ | refine hk _ ?_ | intro hg | omega | exact True.intro)
          all_goals clear hk k
          refine AW.retF (ow := []) (muts := []) ?_ (fun h => And.intro (.inr rfl) h)
          cases a; cases b; simp [go_sem, Tryz.results88] at *; simp [*])
      · intro hc; try simp at hc
        all_goals (
          refine AW.skipN (fun _ h => h) ?_
          refine AW.reg tiOk (fun _ => []) [4] ?_
          intro k hk; simp -dsimp [go_sem, -decide_eq_true_eq, -decide_eq_false_iff_not]
          repeat' (first | refine And.intro ?_ ?_ | refine hk _ ?_ | intro hg | omega | exact True.intro)
          all_goals clear hk k
          refine AW.retF (ow := []) (muts := []) ?_ (fun h => And.intro (.inr rfl) h)
          cases a; cases b; simp [go_sem, Tryz.results88] at *; simp [*]))

end Go.AM

/-! ### Pv -/
set_option linter.unusedVariables false
set_option linter.unusedSimpArgs false
namespace Go.AM

/-! chapter 1 -/
def inR (n lo hi : Int) : Bool := decide (lo ≤ n) && decide (n ≤ hi)
theorem inR_iff {n lo hi : Int} : inR n lo hi = true ↔ lo ≤ n ∧ n ≤ hi := by simp [inR]
theorem inR_not {n lo hi : Int} : inR n lo hi = false ↔ ¬ (lo ≤ n ∧ n ≤ hi) := by rw [← inR_iff]; simp
def isP (c : UInt8) : Bool := decide (32 ≤ (c.toNat : Int)) && decide ((c.toNat : Int) ≤ 126)
theorem all_take {α : Type} {s : List α} {p : α → Bool} {i : Nat} {x : α} (hx : s[i]? = some x) (h : (s.take i).all p = true) : (s.take (i + 1)).all p = p x := by
  rw [List.take_add_one, List.all_append, h, hx]; simp
theorem all_not {α : Type} {s : List α} {p : α → Bool} {i : Nat} {x : α} (hx : s[i]? = some x) (h : p x = false) : s.all p = false := by
  rw [List.all_eq_false]; exact ⟨x, List.mem_of_getElem? hx, by simp [h]⟩
theorem all_end {α : Type} {s : List α} {p : α → Bool} {i : Nat} (hi : s.length ≤ i) (h : (s.take i).all p = true) : s.all p = true := by rwa [List.take_of_length_le hi] at h

def firstC (l : List Int) : Int := (l.find? (fun n => decide (n ≠ 0))).getD 0
theorem firstC_step {l : List Int} {i : Nat} {x : Int} (h : l[i]? = some x) : firstC (l.drop i) = if x = 0 then firstC (l.drop (i + 1)) else x := by
  obtain ⟨hi, hx⟩ := List.getElem?_eq_some_iff.1 h
  rw [List.drop_eq_getElem_cons hi, hx]
  unfold firstC
  by_cases h0 : x = 0
  · simp [h0]
  · simp [h0]
theorem firstC_end {l : List Int} {i : Nat} (h : l.length ≤ i) : firstC (l.drop i) = 0 := by
  rw [List.drop_eq_nil_of_le h]; rfl
theorem firstC_nil : firstC [] = 0 := rfl
theorem firstC_cons (x : Int) (l : List Int) : firstC (x :: l) = if x = 0 then firstC l else x := by
  unfold firstC
  by_cases h0 : x = 0
  · simp [h0]
  · simp [h0]

def lineF (s : List UInt8) : Int := if s.length < 1 ∨ 40 < s.length then 2 else if s.all isP then 0 else 5
theorem lineF_eq (s : List UInt8) : firstC [if (!(inR s.length 1 40)) = true then 2 else 0, if (!s.all isP) = true then 5 else 0] = lineF s := by
  by_cases h : s.length < 1 ∨ 40 < s.length
  · have e : inR s.length 1 40 = false := inR_not.2 (by omega)
    simp only [firstC_cons, firstC_nil, lineF, if_pos h, e]
    simp
  · have e : inR s.length 1 40 = true := inR_iff.2 (by omega)
    simp only [firstC_cons, firstC_nil, lineF, if_neg h, e]
    cases s.all isP <;> simp
theorem lineF_bad {s : List UInt8} (h : s.length < 1 ∨ 40 < s.length) : lineF s = 2 := by rw [lineF, if_pos h]
theorem lineF_good {s : List UInt8} {b : Bool} (h : ¬ (s.length < 1 ∨ 40 < s.length)) (hb : s.all isP = b) : lineF s = if b then 0 else 5 := by rw [lineF, if_neg h, hb]

/-! slices of Go's library -/
/-- the first index of what is so, counted from i; -1: none -/
def idxF {α : Type} (p : α → Bool) : List α → Nat → Int
  | [], _ => -1
  | x :: r, i => if p x then i else idxF p r (i + 1)
theorem idxF_step {α : Type} {p : α → Bool} {l : List α} {i : Nat} {x : α} (h : l[i]? = some x) : idxF p (l.drop i) i = if p x then (i : Int) else idxF p (l.drop (i + 1)) (i + 1) := by
  obtain ⟨hi, hx⟩ := List.getElem?_eq_some_iff.1 h
  rw [List.drop_eq_getElem_cons hi, hx]; rfl
theorem idxF_end {α : Type} {p : α → Bool} {l : List α} {i : Nat} (h : l.length ≤ i) : idxF p (l.drop i) i = -1 := by rw [List.drop_eq_nil_of_le h]; rfl
theorem idxF_any {α : Type} {p : α → Bool} : ∀ (l : List α) (i : Nat), decide (0 ≤ idxF p l i) = l.any p := by
  intro l
  induction l with
  | nil => intro i; simp [idxF]
  | cons x l ih =>
    intro i
    simp only [idxF, List.any_cons]
    by_cases hp : p x = true
    · simp [hp]
    · simpa [hp] using ih (i + 1)

/-! chapter 3 -/
def small (n : Int) : Bool := inR n (-1000000) 1000000
def varsF (l : List Int) : Int := if l.length ≠ 4 then 2 else if l.all small then 0 else 3
theorem varsF_eq (l : List Int) : firstC [if (!decide ((l.length : Int) = 4)) = true then 2 else 0, if (l.any fun n => !small n) = true then 3 else 0] = varsF l := by
  simp only [firstC_cons, firstC_nil, varsF]
  have e : (l.any fun n => !small n) = !l.all small := by simp [List.all_eq_not_any_not]
  rw [e]
  by_cases h : l.length = 4
  · have h2 : (l.length : Int) = 4 := by omega
    by_cases hs : l.all small = true
    · simp [h, h2, hs]
    · simp [h, h2, hs]
  · have h2 : ¬ (l.length : Int) = 4 := by omega
    simp [h, h2]

/-! chapter 10 -/
def actF (a : TAct) : Int :=
  if inR a.kind 1 3 = false ∨ (a.kind ≠ 1 ∧ 0 < a.vars.length) then 1 else if inR a.at_ 0 9999 = false then 3 else if a.kind = 1 then varsF a.vars else 0
end Go.AM

/-! ### Pw -/
set_option linter.unusedVariables false
set_option linter.unusedSimpArgs false
namespace Go.AM
def TIntsResult.gok (x : TIntsResult) : Prop := x.list.length ≤ 9223372036854775807
def TTextResult.gok (x : TTextResult) : Prop := x.text.length ≤ 9223372036854775807
def TBytesResult.gok (x : TBytesResult) : Prop := x.bytes.length ≤ 9223372036854775807
def TLinesResult.gok (x : TLinesResult) : Prop := (x.lines.length ≤ 9223372036854775807 ∧ ∀ e ∈ x.lines, e.length ≤ 9223372036854775807)
def TJournalResult.gok (x : TJournalResult) : Prop := x.journal.gok
def TProcResult.gok (x : TProcResult) : Prop := (x.proc.length ≤ 9223372036854775807 ∧ ∀ e ∈ x.proc, e.gok)
def TGraphResult.gok (x : TGraphResult) : Prop := x.graph.gok
def TRunResult.gok (x : TRunResult) : Prop := x.run.gok
def TChartResult.gok (x : TChartResult) : Prop := x.chart.gok
def TEngineResult.gok (x : TEngineResult) : Prop := x.engine.gok
def TDeskResult.gok (x : TDeskResult) : Prop := x.desk.gok
def TOfferResult.gok (x : TOfferResult) : Prop := x.claims.length ≤ 9223372036854775807
def TWorldResult.gok (x : TWorldResult) : Prop := x.world.gok

/-! bytes -/
@[go_sem ↓ high] theorem encB_B1 (s : List UInt8) : encB s = s.map B1 := rfl
theorem byteOfCell_B1 (b : UInt8) : byteOfCell [.int .u8 b.toNat] = some b := by
  have := b.toNat_lt
  simp [byteOfCell]; omega
theorem decB_B1 (s : List UInt8) : decB (s.map B1) = some s := decB_encB s
attribute [go_sem ↓ high] decB_B1 byteOfCell_B1
def b8 (n : Int) : UInt8 := UInt8.ofNat (n % 256).toNat
@[go_sem] theorem wrap_u8 (n : Int) : IntKind.wrap .u8 n = ((b8 n).toNat : Int) := by
  have h : (UInt8.ofNat (n % 256).toNat).toNat = (n % 256).toNat := by rw [UInt8.toNat_ofNat']; omega
  simp only [b8, h, IntKind.wrap, IntKind.bits, IntKind.signed]
  simp
  omega

/-! the digits of a mark -/
def digs : Nat → Int → List UInt8 → List UInt8
  | 0, _, acc => acc
  | n + 1, k, acc => if 0 < k then digs n (k / 10) (b8 (48 + k % 10) :: acc) else acc
def mt (k : Int) : List UInt8 := if k ≤ 0 then [109, 48] else 109 :: digs k.toNat k []
theorem digs_more : ∀ (n m : Nat) (k : Int) (acc : List UInt8), k.toNat ≤ n → k.toNat ≤ m → digs n k acc = digs m k acc := by
  intro n
  induction n with
  | zero =>
    intro m k acc h _
    have : ¬ 0 < k := by omega
    cases m with
    | zero => rfl
    | succ m => simp [digs, this]
  | succ n ih =>
    intro m k acc h h2
    cases m with
    | zero =>
      have : ¬ 0 < k := by omega
      simp [digs, this]
    | succ m =>
      simp only [digs]
      split
      · exact ih m _ _ (by omega) (by omega)
      · rfl
theorem digs_len : ∀ (n : Nat) (k : Int) (acc : List UInt8) (d : Nat), k < 10 ^ d → (digs n k acc).length ≤ acc.length + d := by
  intro n
  induction n with
  | zero => intro k acc d _; simp [digs]
  | succ n ih =>
    intro k acc d h
    simp only [digs]
    split
    · rename_i hk
      cases d with
      | zero => simp at h; omega
      | succ d =>
        have := ih (k / 10) (b8 (48 + k % 10) :: acc) d (by rw [Int.pow_succ] at h; omega)
        simp at this; omega
    · omega

theorem digs_zero {n : Nat} {k : Int} {acc : List UInt8} (h : k ≤ 0) : digs n k acc = acc := by
  cases n with
  | zero => rfl
  | succ n => simp only [digs]; rw [if_neg (by omega)]
theorem digs_step {k : Int} {acc : List UInt8} (h : 0 < k) : digs k.toNat k acc = digs (k / 10).toNat (k / 10) (b8 (48 + k % 10) :: acc) := by
  obtain ⟨n, hn⟩ : ∃ n, k.toNat = n + 1 := ⟨k.toNat - 1, by omega⟩
  rw [hn]
  simp only [digs]
  rw [if_pos h]
  exact digs_more _ _ _ _ (by omega) (by omega)
theorem mt_big {k : Int} {n : Nat} (h : 0 < k) (h2 : k * 10 ^ n ≤ 4611686018427387904) : k ≤ 4611686018427387904 := by
  have h10 : (1 : Int) ≤ 10 ^ n := by have : (0 : Int) < 10 ^ n := Int.pow_pos (by omega); omega
  have := Int.mul_le_mul_of_nonneg_left h10 (show 0 ≤ k by omega)
  omega
theorem mt_step {k : Int} {n : Nat} (h : 0 < k) (h2 : k * 10 ^ n ≤ 4611686018427387904) : n ≤ 18 ∧ (k / 10) * 10 ^ (n + 1) ≤ 4611686018427387904 := by
  have h10 : (0 : Int) ≤ 10 ^ n := Int.pow_nonneg (by omega)
  refine ⟨?_, ?_⟩
  · rcases Nat.lt_or_ge 18 n with hn | hn
    · exfalso
      have e : (10 : Int) ^ n = 10 ^ 19 * 10 ^ (n - 19) := by rw [← Int.pow_add]; congr 1; omega
      have h1 : (1 : Int) ≤ 10 ^ (n - 19) := by have : (0 : Int) < 10 ^ (n - 19) := Int.pow_pos (by omega); omega
      have h3 : (10 : Int) ^ 19 * 1 ≤ 10 ^ 19 * 10 ^ (n - 19) := Int.mul_le_mul_of_nonneg_left h1 (by decide)
      have h4 : 1 * (10 : Int) ^ n ≤ k * 10 ^ n := Int.mul_le_mul_of_nonneg_right (by omega) h10
      have h5 : (10 : Int) ^ 19 * 1 = 10000000000000000000 := by decide
      omega
    · exact hn
  · have e : (k / 10) * 10 ^ (n + 1) = (k / 10 * 10) * 10 ^ n := by rw [Int.pow_succ]; rw [Int.mul_comm (10 ^ n) 10, ← Int.mul_assoc]
    rw [e]
    have : (k / 10 * 10) * 10 ^ n ≤ k * 10 ^ n := Int.mul_le_mul_of_nonneg_right (by omega) h10
    omega

/-! marks -/
def mkP {α : Type} (f : Int → α) (l : List α) (k : Int) (i : Nat) : List α := (List.range i).map (fun (j : Nat) => f (k + j)) ++ l.drop i
def mkL {α : Type} (f : Int → α) (n : Nat) (k : Int) : List α := (List.range n).map fun (j : Nat) => f (k + j)
theorem mkL_len {α : Type} {f : Int → α} {n : Nat} {k : Int} : (mkL f n k).length = n := by simp [mkL]
theorem mkL_at {α : Type} {f : Int → α} {n : Nat} {k : Int} {i : Nat} (h : i < n) : (mkL f n k)[i]? = some (f (k + i)) := by simp [mkL, h]
theorem mkP_len {α : Type} {f : Int → α} {l : List α} {k : Int} {i : Nat} (h : i ≤ l.length) : (mkP f l k i).length = l.length := by simp [mkP]; omega
theorem mkP_zero {α : Type} (f : Int → α) (l : List α) (k : Int) : mkP f l k 0 = l := by simp [mkP]
theorem mkP_end {α : Type} {f : Int → α} {l : List α} {k : Int} {i : Nat} (h : i = l.length) : mkP f l k i = mkL f l.length k := by subst h; simp [mkP, mkL]
theorem mkP_set {α : Type} {f : Int → α} {l : List α} {k : Int} {i : Nat} (h : i < l.length) : (mkP f l k i).set i (f (k + i)) = mkP f l k (i + 1) := by
  unfold mkP
  rw [List.set_append, if_neg (by simp), List.range_succ, List.map_append]
  have e2 : i - ((List.range i).map fun (j : Nat) => f (k + j)).length = 0 := by simp
  rw [e2, List.drop_eq_getElem_cons h, List.set_cons_zero, List.append_assoc]
  rfl
theorem mkP_at {α : Type} {f : Int → α} {l : List α} {k : Int} {i : Nat} {x : α} (h : l[i]? = some x) : (mkP f l k i)[i]? = some x := by
  have hi := at_lt h
  unfold mkP
  rw [List.getElem?_append_right (by simp)]
  simp [h]
end Go.AM

/-! ### M1 -/
set_option linter.unusedVariables false
set_option linter.unusedSimpArgs false
namespace Go.AM
open Go.Proofs

set_option maxHeartbeats 600000 in
set_option linter.unusedSimpArgs false in
set_option maxRecDepth 100000 in
/-- laws.markText -/
theorem dc_laws_markText (k : Int) (hk : k ≤ 4611686018427387904) : DC Tryz.prog 90 [.int .i64 k] (.str (mt k)) [] := by
  refine DC.intro tiOk Tryz.func90 rfl rfl rfl rfl rfl rfl rfl rfl [] ?_
  refine AW.reg tiOk (fun _ => []) [0] ?_
  intro k hk; simp -dsimp [go_sem, -decide_eq_true_eq, -decide_eq_false_iff_not]
  repeat' (first | refine And.intro ?_ ?_ | refine hk _ ?_ | intro hg | omega | exact True.intro)
  all_goals clear hk k
  refine AW.seq ?_
  refine AW.reg tiOk (fun _ => []) [0, 5] ?_
  intro k hk; simp -dsimp [go_sem, -decide_eq_true_eq, -decide_eq_false_iff_not]
  repeat' (first | refine And.intro ?_ ?_ | refine hk _ ?_ | intro hg | omega | exact True.intro)
  all_goals clear hk k
  refine AW.cond rfl ?_ ?_
  · intro hc; try simp at hc
    all_goals (
      refine AW.reg tiOk (fun _ => []) [2] ?_
      intro k hk; simp -dsimp [go_sem, -decide_eq_true_eq, -decide_eq_false_iff_not]
      repeat' (first | refine And.intro ?_ ?_ | refine hk _ ?_ | intro hg | omega | exact True.intro)
      all_goals clear hk k
      refine AW.retF (ow := []) (muts := []) ?_ (fun h => And.intro (.inr rfl) h)
      first | (simp [go_sem, Tryz.results90, mt, *]; done) | (have hz := digs_zero (n := k'.toNat) (k := k') (acc := acc) (by simpa using hc); have hk0 : ¬ k ≤ 0 := (by omega); simp [go_sem, Tryz.results90, mt, hk0, h4, hz]))
  · intro hc; try simp at hc
    all_goals (
      refine AW.skipN (fun _ h => h) ?_
      refine AW.reg tiOk (fun _ => []) [0, 3] ?_
      intro k hk; simp -dsimp [go_sem, -decide_eq_true_eq, -decide_eq_false_iff_not]
      repeat' (first | refine And.intro ?_ ?_ | refine hk _ ?_ | intro hg | omega | exact True.intro)
      all_goals clear hk k
      refine AW.seq ?_
      refine AW.block ?_
      -- live at the loop's head: [0, 3]
      refine AW.loopI (fun i : Int × List UInt8 => ⟨20, [(0, .int .i64 i.1), (3, .str i.2)], []⟩) (fun i => 0 ≤ i.1 ∧ i.1 * 10 ^ i.2.length ≤ 4611686018427387904 ∧ i.2.length ≤ 19 ∧ digs k.toNat k [] = digs i.1.toNat i.1 i.2) (fun i => i.1.toNat) ((k, [])) (by refine ⟨by omega, by simp; omega, by simp, rfl⟩) (Less.of rfl (by simp [go_sem]) (by simp [go_sem])) ?_
      rintro ⟨k', acc⟩ ⟨h1, h2, h3, h4⟩
      simp only at h1 h2 h3 h4
      refine AW.seq ?_
      refine AW.reg tiOk (fun _ => []) [0, 3, 7] ?_
      intro k hk; simp -dsimp [go_sem, -decide_eq_true_eq, -decide_eq_false_iff_not]
      repeat' (first | refine And.intro ?_ ?_ | refine hk _ ?_ | intro hg | omega | exact True.intro)
      all_goals clear hk k
      refine AW.cond rfl ?_ ?_
      · intro hc; try simp at hc
        all_goals (
          have hlt : 0 < k' := by simpa using hc
          have htm : k'.tmod 10 = k' % 10 := Int.tmod_eq_emod_of_nonneg h1
          have htd : k'.tdiv 10 = k' / 10 := Int.tdiv_eq_ediv_of_nonneg h1
          have hkb := mt_big hlt h2
          have hw1 : IntKind.wrap .i64 (48 + k' % 10) = 48 + k' % 10 := wrap64 (by omega) (by omega)
          have hw2 : IntKind.wrap .i64 (k' / 10) = k' / 10 := wrap64 (by omega) (by omega)
          obtain ⟨hs1, hs2⟩ := mt_step hlt h2
          refine AW.skipN (fun _ h => h) ?_
          refine AW.block ?_
          refine AW.reg tiOk (fun _ => []) [0, 3] ?_
          intro k hk; simp -dsimp (maxSteps := 2000000) [go_sem, -decide_eq_true_eq, -decide_eq_false_iff_not, htm, htd, hw1, hw2]
          repeat' (first | refine And.intro ?_ ?_ | refine hk _ ?_ | intro hg | omega | exact True.intro)
          all_goals clear hk k
          refine AW.regK tiOk (fun _ => []) ?_
          intro k hk; simp -dsimp [go_sem, -decide_eq_true_eq, -decide_eq_false_iff_not, htm, htd, hw1, hw2]
          repeat' (first | refine And.intro ?_ ?_ | refine hk _ ?_ | intro hg | omega | exact True.intro)
          all_goals clear hk k
          show ∃ _, _
          refine ⟨(k' / 10, b8 (48 + k' % 10) :: acc), ⟨by simp only; omega, by simpa using hs2, by simp; omega, ?_⟩, by simp only; omega, Less.of rfl (by simp [go_sem, hw2]) (by simp [go_sem])⟩
          rw [h4, digs_step hlt])
      · intro hc; try simp at hc
        all_goals (
          refine AW.exitN (fun _ h => h) ?_
          refine AW.reg tiOk (fun _ => []) [2] ?_
          intro k hk; simp -dsimp [go_sem, -decide_eq_true_eq, -decide_eq_false_iff_not]
          repeat' (first | refine And.intro ?_ ?_ | refine hk _ ?_ | intro hg | omega | exact True.intro)
          all_goals clear hk k
          refine AW.retF (ow := []) (muts := []) ?_ (fun h => And.intro (.inr rfl) h)
          first | (simp [go_sem, Tryz.results90, mt, *]; done) | (have hz := digs_zero (n := k'.toNat) (k := k') (acc := acc) (by simpa using hc); have hk0 : ¬ k ≤ 0 := (by omega); simp [go_sem, Tryz.results90, mt, hk0, h4, hz])))

set_option maxHeartbeats 600000 in
set_option linter.unusedSimpArgs false in
set_option maxRecDepth 100000 in
/-- laws.markByteS -/
theorem dc_laws_markByteS (l : List UInt8) (k : Int) (hk : 0 ≤ k ∧ k + l.length ≤ 4611686018427387904) : DC Tryz.prog 124 [.osl 1 (l.map B1), .int .i64 k] (.int .i64 (k + l.length)) [(0, .osl 1 ((mkL b8 l.length k).map B1))] := by
  refine DC.intro tiOk Tryz.func124 rfl rfl rfl rfl rfl rfl rfl (by simp [noW, noWo]) [] ?_
  refine AW.reg tiOk (fun _ => []) [0, 1] ?_
  intro k hk; simp -dsimp [go_sem, -decide_eq_true_eq, -decide_eq_false_iff_not]
  repeat' (first | refine And.intro ?_ ?_ | refine hk _ ?_ | intro hg | omega | exact True.intro)
  all_goals clear hk k
  refine AW.seq ?_
  refine AW.reg tiOk (fun _ => []) [0, 1, 5] ?_
  intro k hk; simp -dsimp [go_sem, -decide_eq_true_eq, -decide_eq_false_iff_not]
  repeat' (first | refine And.intro ?_ ?_ | refine hk _ ?_ | intro hg | omega | exact True.intro)
  all_goals clear hk k
  refine AW.block ?_
  -- live at the loop's head: [0, 1, 5]
  refine AW.loopI (fun i : Nat => ⟨20, [(0, .sl 1900 1 0 l.length), (1, .int .i64 (k + i)), (5, .int .i64 i)], [(1900, some ⟨1, (mkP b8 l k i).map B1⟩)]⟩) (fun i => i ≤ l.length) (fun i => l.length - i) (0) (by simp) (Less.of rfl (by simp [go_sem]) (by simp [go_sem, mkP_zero])) ?_
  rintro i hi
  refine AW.seq ?_
  refine AW.reg tiOk (fun _ => []) [0, 1, 5, 9] ?_
  intro k hk; simp -dsimp [go_sem, -decide_eq_true_eq, -decide_eq_false_iff_not]
  repeat' (first | refine And.intro ?_ ?_ | refine hk _ ?_ | intro hg | omega | exact True.intro)
  all_goals clear hk k
  refine AW.cond rfl ?_ ?_
  · intro hc; try simp at hc
    all_goals (
      have hlt : i < l.length := by assumption
      obtain ⟨x, hx⟩ := at_some hlt
      have hp := mkP_len (f := b8) (k := k) hi
      have hp2 := mkP_at (f := b8) (k := k) hx
      have hwk : IntKind.wrap .i64 (k + (i : Int) + 1) = k + (i : Int) + 1 := wrap64 (by omega) (by omega)
      have hwk2 : IntKind.wrap .i64 (k + (i : Int)) = k + (i : Int) := wrap64 (by omega) (by omega)
      refine AW.skipN (fun _ h => h) ?_
      refine AW.seq ?_
      refine AW.block ?_
      refine AW.reg tiOk (fun _ => []) [0, 1, 5] ?_
      intro k hk; simp -dsimp [go_sem, -decide_eq_true_eq, -decide_eq_false_iff_not, hp, hp2, hwk, hwk2]
      repeat' (first | refine And.intro ?_ ?_ | refine hk _ ?_ | intro hg | omega | exact True.intro)
      all_goals clear hk k
      refine AW.regN tiOk (fun _ => []) [0, 1, 5] (fun _ h => h) ?_
      intro k hk; simp -dsimp [go_sem, -decide_eq_true_eq, -decide_eq_false_iff_not, hp, hp2, hwk, hwk2]
      repeat' (first | refine And.intro ?_ ?_ | refine hk _ ?_ | intro hg | omega | exact True.intro)
      all_goals clear hk k
      refine AW.regK tiOk (fun _ => []) ?_
      intro k hk; simp -dsimp [go_sem, -decide_eq_true_eq, -decide_eq_false_iff_not, hp, hp2, hwk, hwk2]
      repeat' (first | refine And.intro ?_ ?_ | refine hk _ ?_ | intro hg | omega | exact True.intro)
      all_goals clear hk k
      show ∃ _, _
      have hw := wrapi hlt (by omega)
      have hs := mkP_set (f := b8) (k := k) hlt
      refine ⟨i + 1, by omega, by omega, Less.of rfl (by simp [go_sem, hw]; omega) (by simp [go_sem, ← hs, List.map_set])⟩)
  · intro hc; try simp at hc
    all_goals (
      refine AW.exitN (fun _ h => h) ?_
      refine AW.reg tiOk (fun _ => []) [0, 4] ?_
      intro k hk; simp -dsimp [go_sem, -decide_eq_true_eq, -decide_eq_false_iff_not]
      repeat' (first | refine And.intro ?_ ?_ | refine hk _ ?_ | intro hg | omega | exact True.intro)
      all_goals clear hk k
      refine AW.retF (ow := []) (muts := [(0, .osl 1 ((mkL b8 l.length k).map B1))]) ?_ (fun h => And.intro (.inr rfl) h)
      obtain rfl : i = l.length := by omega
      simp [go_sem, Tryz.results124, mkP_end, mkL_len])

set_option maxHeartbeats 600000 in
set_option linter.unusedSimpArgs false in
set_option maxRecDepth 100000 in
/-- laws.markByteS -/
theorem dc_laws_markByteS_nil (k : Int) : DC Tryz.prog 124 [.isl 1 [], .int .i64 k] (.int .i64 k) [] := by
  refine DC.intro tiOk Tryz.func124 rfl rfl rfl rfl rfl rfl rfl rfl [] ?_
  refine AW.reg tiOk (fun _ => []) [0, 1] ?_
  intro k hk; simp -dsimp [go_sem, -decide_eq_true_eq, -decide_eq_false_iff_not]
  repeat' (first | refine And.intro ?_ ?_ | refine hk _ ?_ | intro hg | omega | exact True.intro)
  all_goals clear hk k
  refine AW.seq ?_
  refine AW.reg tiOk (fun _ => []) [0, 1, 5] ?_
  intro k hk; simp -dsimp [go_sem, -decide_eq_true_eq, -decide_eq_false_iff_not]
  repeat' (first | refine And.intro ?_ ?_ | refine hk _ ?_ | intro hg | omega | exact True.intro)
  all_goals clear hk k
  refine AW.block ?_
  -- live at the loop's head: [0, 1, 5]
  refine AW.loopI (fun _ : Nat => ⟨20, [(0, .isl 1 []), (1, .int .i64 k), (5, .int .i64 0)], []⟩) (fun _ => True) (fun _ => 0) (0) (trivial) (Less.of rfl (by simp [go_sem]) (by simp [go_sem])) ?_
  rintro i _
  refine AW.seq ?_
  refine AW.reg tiOk (fun _ => []) [0, 1, 5, 9] ?_
  intro k hk; simp -dsimp [go_sem, -decide_eq_true_eq, -decide_eq_false_iff_not]
  repeat' (first | refine And.intro ?_ ?_ | refine hk _ ?_ | intro hg | omega | exact True.intro)
  all_goals clear hk k
  refine AW.cond rfl ?_ ?_
  · intro hc; try simp at hc
    all_goals (
      refine AW.skipN (fun _ h => h) ?_
      refine AW.seq ?_
      refine AW.block ?_
      refine AW.reg tiOk (fun _ => []) [0, 1, 5] ?_
      intro k hk; simp -dsimp [go_sem, -decide_eq_true_eq, -decide_eq_false_iff_not]
      repeat' (first | refine And.intro ?_ ?_ | refine hk _ ?_ | intro hg | omega | exact True.intro)
      all_goals clear hk k
      refine AW.regN tiOk (fun _ => []) [0, 1, 5] (fun _ h => h) ?_
      intro k hk; simp -dsimp [go_sem, -decide_eq_true_eq, -decide_eq_false_iff_not]
      repeat' (first | refine And.intro ?_ ?_ | refine hk _ ?_ | intro hg | omega | exact True.intro)
      all_goals clear hk k
      refine AW.regK tiOk (fun _ => []) ?_
      intro k hk; simp -dsimp [go_sem, -decide_eq_true_eq, -decide_eq_false_iff_not]
      repeat' (first | refine And.intro ?_ ?_ | refine hk _ ?_ | intro hg | omega | exact True.intro)
      all_goals clear hk k
      show ∃ _, _
      exact absurd hc (by simp))
  · intro hc; try simp at hc
    all_goals (
      refine AW.exitN (fun _ h => h) ?_
      refine AW.reg tiOk (fun _ => []) [4] ?_
      intro k hk; simp -dsimp [go_sem, -decide_eq_true_eq, -decide_eq_false_iff_not]
      repeat' (first | refine And.intro ?_ ?_ | refine hk _ ?_ | intro hg | omega | exact True.intro)
      all_goals clear hk k
      refine AW.retF (ow := []) (muts := []) ?_ (fun h => And.intro (.inr rfl) h)
      simp [go_sem, Tryz.results124])

set_option maxHeartbeats 600000 in
set_option linter.unusedSimpArgs false in
set_option maxRecDepth 100000 in
/-- laws.heldByteS -/
theorem dc_laws_heldByteS (n : Nat) (k : Int) (hk : 0 ≤ k ∧ k + n ≤ 4611686018427387904) : DC Tryz.prog 125 [.isl 1 ((mkL b8 n k).map B1), .int .i64 k] (.int .i64 (k + n)) [] := by
  have hml := mkL_len (f := b8) (n := n) (k := k)
  refine DC.intro tiOk Tryz.func125 rfl rfl rfl rfl rfl rfl rfl rfl [] ?_
  refine AW.reg tiOk (fun _ => []) [0, 1] ?_
  intro k hk; simp -dsimp [go_sem, -decide_eq_true_eq, -decide_eq_false_iff_not, hml]
  repeat' (first | refine And.intro ?_ ?_ | refine hk _ ?_ | intro hg | omega | exact True.intro)
  all_goals clear hk k
  refine AW.seq ?_
  refine AW.reg tiOk (fun _ => []) [0, 1, 5] ?_
  intro k hk; simp -dsimp [go_sem, -decide_eq_true_eq, -decide_eq_false_iff_not, hml]
  repeat' (first | refine And.intro ?_ ?_ | refine hk _ ?_ | intro hg | omega | exact True.intro)
  all_goals clear hk k
  refine AW.block ?_
  -- live at the loop's head: [0, 1, 5]
  refine AW.loopI (fun i : Nat => ⟨22, [(0, .isl 1 ((mkL b8 n k).map B1)), (1, .int .i64 (k + i)), (5, .int .i64 i)], []⟩) (fun i => i ≤ n) (fun i => n - i) (0) (by simp) (Less.of rfl (by simp [go_sem]) (by simp [go_sem])) ?_
  rintro i hi
  refine AW.seq ?_
  refine AW.reg tiOk (fun _ => []) [0, 1, 5, 9] ?_
  intro k hk; simp -dsimp [go_sem, -decide_eq_true_eq, -decide_eq_false_iff_not, hml]
  repeat' (first | refine And.intro ?_ ?_ | refine hk _ ?_ | intro hg | omega | exact True.intro)
  all_goals clear hk k
  refine AW.cond rfl ?_ ?_
  · intro hc; try simp at hc
    all_goals (
      have hlt : i < n := by assumption
      have hx := mkL_at (f := b8) (k := k) hlt
      have hwk : IntKind.wrap .i64 (k + (i : Int) + 1) = k + (i : Int) + 1 := wrap64 (by omega) (by omega)
      have hwk2 : IntKind.wrap .i64 (k + (i : Int)) = k + (i : Int) := wrap64 (by omega) (by omega)
      refine AW.skipN (fun _ h => h) ?_
      refine AW.seq ?_
      refine AW.block ?_
      refine AW.seq ?_
      refine AW.reg tiOk (fun _ => []) [0, 1, 5, 18] ?_
      intro k hk; simp -dsimp (maxSteps := 2000000) [go_sem, -decide_eq_true_eq, -decide_eq_false_iff_not, hml, hx, hwk, hwk2]
      repeat' (first | refine And.intro ?_ ?_ | refine hk _ ?_ | intro hg | omega | exact True.intro)
      all_goals clear hk k
      refine AW.cond rfl ?_ ?_
      · intro hc; try simp at hc
        all_goals (
          refine AW.reg tiOk (fun _ => []) [4] ?_
          intro k hk; simp -dsimp [go_sem, -decide_eq_true_eq, -decide_eq_false_iff_not, hml, hx, hwk, hwk2]
          repeat' (first | refine And.intro ?_ ?_ | refine hk _ ?_ | intro hg | omega | exact True.intro)
          all_goals clear hk k
          refine AW.retF (ow := []) (muts := []) ?_ (fun h => And.intro (.inr rfl) h)
          obtain rfl : i = n := by omega
          simp [go_sem, Tryz.results125])
      · intro hc; try simp at hc
        all_goals (
          refine AW.skipN (fun _ h => h) ?_
          refine AW.regN tiOk (fun _ => []) [0, 1, 5] (fun _ h => h) ?_
          intro k hk; simp -dsimp [go_sem, -decide_eq_true_eq, -decide_eq_false_iff_not, hml, hx, hwk, hwk2]
          repeat' (first | refine And.intro ?_ ?_ | refine hk _ ?_ | intro hg | omega | exact True.intro)
          all_goals clear hk k
          refine AW.regK tiOk (fun _ => []) ?_
          intro k hk; simp -dsimp [go_sem, -decide_eq_true_eq, -decide_eq_false_iff_not, hml, hx, hwk, hwk2]
          repeat' (first | refine And.intro ?_ ?_ | refine hk _ ?_ | intro hg | omega | exact True.intro)
          all_goals clear hk k
          show ∃ _, _
          have hw := wrapi hlt (by omega)
          refine ⟨i + 1, by omega, by omega, Less.of rfl (by simp [go_sem, hw]; omega) (by simp [go_sem])⟩))
  · intro hc; try simp at hc
    all_goals (
      refine AW.exitN (fun _ h => h) ?_
      refine AW.reg tiOk (fun _ => []) [4] ?_
      intro k hk; simp -dsimp [go_sem, -decide_eq_true_eq, -decide_eq_false_iff_not, hml]
      repeat' (first | refine And.intro ?_ ?_ | refine hk _ ?_ | intro hg | omega | exact True.intro)
      all_goals clear hk k
      refine AW.retF (ow := []) (muts := []) ?_ (fun h => And.intro (.inr rfl) h)
      obtain rfl : i = n := by omega
      simp [go_sem, Tryz.results125])

set_option maxHeartbeats 600000 in
set_option linter.unusedSimpArgs false in
set_option maxRecDepth 100000 in
/-- laws.heldByteS -/
theorem dc_laws_heldByteS_nil (k : Int) : DC Tryz.prog 125 [.isl 1 [], .int .i64 k] (.int .i64 k) [] := by
  refine DC.intro tiOk Tryz.func125 rfl rfl rfl rfl rfl rfl rfl rfl [] ?_
  refine AW.reg tiOk (fun _ => []) [0, 1] ?_
  intro k hk; simp -dsimp [go_sem, -decide_eq_true_eq, -decide_eq_false_iff_not]
  repeat' (first | refine And.intro ?_ ?_ | refine hk _ ?_ | intro hg | omega | exact True.intro)
  all_goals clear hk k
  refine AW.seq ?_
  refine AW.reg tiOk (fun _ => []) [0, 1, 5] ?_
  intro k hk; simp -dsimp [go_sem, -decide_eq_true_eq, -decide_eq_false_iff_not]
  repeat' (first | refine And.intro ?_ ?_ | refine hk _ ?_ | intro hg | omega | exact True.intro)
  all_goals clear hk k
  refine AW.block ?_
  -- live at the loop's head: [0, 1, 5]
  refine AW.loopI (fun _ : Nat => ⟨22, [(0, .isl 1 []), (1, .int .i64 k), (5, .int .i64 0)], []⟩) (fun _ => True) (fun _ => 0) (0) (trivial) (Less.of rfl (by simp [go_sem]) (by simp [go_sem])) ?_
  rintro i _
  refine AW.seq ?_
  refine AW.reg tiOk (fun _ => []) [0, 1, 5, 9] ?_
  intro k hk; simp -dsimp [go_sem, -decide_eq_true_eq, -decide_eq_false_iff_not]
  repeat' (first | refine And.intro ?_ ?_ | refine hk _ ?_ | intro hg | omega | exact True.intro)
  all_goals clear hk k
  refine AW.cond rfl ?_ ?_
  · intro hc; try simp at hc
    all_goals (
      refine AW.skipN (fun _ h => h) ?_
      refine AW.seq ?_
      refine AW.block ?_
      refine AW.seq ?_
      refine AW.reg tiOk (fun _ => []) [0, 1, 5, 18] ?_
      intro k hk; simp -dsimp (maxSteps := 2000000) [go_sem, -decide_eq_true_eq, -decide_eq_false_iff_not]
      repeat' (first | refine And.intro ?_ ?_ | refine hk _ ?_ | intro hg | omega | exact True.intro)
      all_goals clear hk k
      refine AW.cond rfl ?_ ?_
      · intro hc; try simp at hc
        all_goals (
          refine AW.reg tiOk (fun _ => []) [4] ?_
          intro k hk; simp -dsimp [go_sem, -decide_eq_true_eq, -decide_eq_false_iff_not]
          repeat' (first | refine And.intro ?_ ?_ | refine hk _ ?_ | intro hg | omega | exact True.intro)
          all_goals clear hk k
          refine AW.retF (ow := []) (muts := []) ?_ (fun h => And.intro (.inr rfl) h)
          simp [go_sem, Tryz.results125])
      · intro hc; try simp at hc
        all_goals (
          refine AW.skipN (fun _ h => h) ?_
          refine AW.regN tiOk (fun _ => []) [0, 1, 5] (fun _ h => h) ?_
          intro k hk; simp -dsimp [go_sem, -decide_eq_true_eq, -decide_eq_false_iff_not]
          repeat' (first | refine And.intro ?_ ?_ | refine hk _ ?_ | intro hg | omega | exact True.intro)
          all_goals clear hk k
          refine AW.regK tiOk (fun _ => []) ?_
          intro k hk; simp -dsimp [go_sem, -decide_eq_true_eq, -decide_eq_false_iff_not]
          repeat' (first | refine And.intro ?_ ?_ | refine hk _ ?_ | intro hg | omega | exact True.intro)
          all_goals clear hk k
          show ∃ _, _
          exact absurd hc (by simp)))
  · intro hc; try simp at hc
    all_goals (
      refine AW.exitN (fun _ h => h) ?_
      refine AW.reg tiOk (fun _ => []) [4] ?_
      intro k hk; simp -dsimp [go_sem, -decide_eq_true_eq, -decide_eq_false_iff_not]
      repeat' (first | refine And.intro ?_ ?_ | refine hk _ ?_ | intro hg | omega | exact True.intro)
      all_goals clear hk k
      refine AW.retF (ow := []) (muts := []) ?_ (fun h => And.intro (.inr rfl) h)
      simp [go_sem, Tryz.results125])

end Go.AM

/-! ### Px -/
set_option linter.unusedVariables false
set_option linter.unusedSimpArgs false
namespace Go.AM

/-! the first code that is not 0, of f i, f (i + 1) .. f (n - 1) -/
def scN (f : Nat → Int) : Nat → Nat → Int
  | 0, _ => 0
  | m + 1, i => if f i = 0 then scN f m (i + 1) else f i
def sc (f : Nat → Int) (n i : Nat) : Int := scN f (n - i) i
theorem sc_step {f : Nat → Int} {n i : Nat} (h : i < n) : sc f n i = if f i = 0 then sc f n (i + 1) else f i := by
  unfold sc
  rw [show n - i = (n - (i + 1)) + 1 by omega]; rfl
theorem sc_end {f : Nat → Int} {n i : Nat} (h : n ≤ i) : sc f n i = 0 := by
  unfold sc; rw [show n - i = 0 by omega]; rfl
theorem sc_go {f : Nat → Int} {n i : Nat} (h : i < n) (h0 : f i = 0) : sc f n i = sc f n (i + 1) := by rw [sc_step h, if_pos h0]
theorem sc_hit {f : Nat → Int} {n i : Nat} (h : i < n) (h0 : f i ≠ 0) : sc f n i = f i := by rw [sc_step h, if_neg h0]
theorem sc_zero {f : Nat → Int} {n : Nat} : ∀ {m i : Nat}, n - i = m → sc f n i = 0 → ∀ k, i ≤ k → k < n → f k = 0 := by
  intro m
  induction m with
  | zero => intro i hm _ k h1 h2; omega
  | succ m ih =>
    intro i hm h k h1 h2
    have hi : i < n := by omega
    rw [sc_step hi] at h
    split at h
    · rename_i h0
      rcases Nat.eq_or_lt_of_le h1 with rfl | h1
      · exact h0
      · exact ih (by omega) h k h1 h2
    · exact absurd h (by assumption)
theorem sc_all {f : Nat → Int} {n : Nat} (h : sc f n 0 = 0) : ∀ k, k < n → f k = 0 := fun k hk => sc_zero rfl h k (Nat.zero_le _) hk
theorem sc_cong {f g : Nat → Int} {n : Nat} : ∀ {m i : Nat}, n - i = m → (∀ k, i ≤ k → k < n → (∀ j, i ≤ j → j < k → f j = 0) → f k = g k) → sc f n i = sc g n i := by
  intro m
  induction m with
  | zero => intro i hm _; rw [sc_end (by omega), sc_end (by omega)]
  | succ m ih =>
    intro i hm h
    have hi : i < n := by omega
    have h0 := h i (Nat.le_refl _) hi (fun j h1 h2 => by omega)
    rw [sc_step hi, sc_step hi, ← h0]
    split
    · rename_i hz
      exact ih (by omega) fun k h1 h2 h3 => h k (by omega) h2 fun j h4 h5 => by
        rcases Nat.eq_or_lt_of_le h4 with rfl | h4
        · exact hz
        · exact h3 j h4 h5
    · rfl

/-! nodes -/
instance : Inhabited TNode := ⟨⟨0, 0, 0, 0⟩⟩
def nA (e : List TNode) (i : Nat) : TNode := e.getD i default
def isTwoB (k : Int) : Bool := inR k 3 9
/-- the code of a node at a place -/
def nodeF (n : TNode) (at_ : Int) : Int :=
  if n.kind < 1 ∨ 10 < n.kind then 1
  else if n.kind ≤ 2 then
    if n.left ≠ 0 ∨ n.right ≠ 0 then 1 else if n.val < 0 ∨ (if n.kind = 2 then 3 else 9999) < n.val then 3 else 0
  else if n.kind = 10 then
    if n.val ≠ 0 ∨ n.right ≠ 0 then 1 else if n.left < 0 ∨ at_ ≤ n.left then 3 else 0
  else if n.val ≠ 0 then 1 else if n.left < 0 ∨ at_ ≤ n.left ∨ n.right < 0 ∨ at_ ≤ n.right then 3 else 0
def nodeAt (e : List TNode) (i : Nat) : Int := nodeF (nA e i) i

/-- what is needed of the nodes: parts lie ahead -/
def PartsOk (e : List TNode) (n : Nat) : Prop := ∀ i, i < n → nodeAt e i = 0

theorem nodeF_parts {n : TNode} {i : Nat} (h : nodeF n i = 0) : (n.kind = 10 → 0 ≤ n.left ∧ n.left.toNat < i) ∧ (isTwoB n.kind = true → 0 ≤ n.left ∧ n.left.toNat < i ∧ 0 ≤ n.right ∧ n.right.toNat < i) ∧ 1 ≤ n.kind ∧ n.kind ≤ 10 ∧ (n.kind ≤ 2 ↔ (n.kind ≠ 10 ∧ isTwoB n.kind = false)) := by
  unfold nodeF at h
  split at h
  · cases h
  split at h
  · refine ⟨fun _ => by omega, fun h2 => ?_, by omega, by omega, ?_⟩
    · have := inR_iff.1 h2; omega
    · rw [isTwoB, inR_not]; omega
  split at h
  · split at h
    · cases h
    split at h
    · cases h
    · refine ⟨fun _ => by omega, fun h2 => ?_, by omega, by omega, ?_⟩
      · have := inR_iff.1 h2; omega
      · omega
  · split at h
    · cases h
    split at h
    · cases h
    · refine ⟨fun _ => by omega, fun _ => by omega, by omega, by omega, ?_⟩
      rw [isTwoB, inR_not]; omega

/-! sizes: as the program counts them -/
def sizeOf1 (e : List TNode) (s : List Int) (i : Nat) : Int :=
  let n := nA e i
  if n.kind = 10 then 1 + s.getD n.left.toNat 0 else if isTwoB n.kind then 1 + s.getD n.left.toNat 0 + s.getD n.right.toNat 0 else 1
def sizesL (e : List TNode) : Nat → List Int
  | 0 => []
  | i + 1 => sizesL e i ++ [sizeOf1 e (sizesL e i) i]
theorem sizesL_len (e : List TNode) (n : Nat) : (sizesL e n).length = n := by
  induction n with
  | zero => rfl
  | succ n ih => simp [sizesL, ih]
def szA (e : List TNode) (i : Nat) : Int := (sizesL e (i + 1)).getD i 0
theorem sizesL_get (e : List TNode) (i : Nat) : ∀ n, i < n → (sizesL e n).getD i 0 = szA e i := by
  intro n
  induction n with
  | zero => intro h; omega
  | succ n ih =>
    intro h
    rcases Nat.eq_or_lt_of_le (Nat.le_of_lt_succ h) with rfl | h'
    · rfl
    · have := ih h'
      rw [← this]
      simp [sizesL, List.getD, List.getElem?_append_left (show i < (sizesL e n).length by rw [sizesL_len]; exact h')]
theorem szA_eq (e : List TNode) (i : Nat) : szA e i = sizeOf1 e (sizesL e i) i := by
  unfold szA
  simp [sizesL, List.getD, sizesL_len]
/-- is a node out of order, as the program looks at it? -/
def wrong1 (e : List TNode) (i : Nat) : Bool :=
  let n := nA e i
  if n.kind = 10 then decide (n.left ≠ (i : Int) - 1)
  else if isTwoB n.kind then decide (n.right ≠ (i : Int) - 1) || decide (n.left ≠ (i : Int) - 1 - szA e n.right.toNat)
  else false
def wrongU (e : List TNode) (i : Nat) : Bool := (List.range i).any (wrong1 e)
theorem wrongU_step (e : List TNode) (i : Nat) : wrongU e (i + 1) = (wrongU e i || wrong1 e i) := by
  unfold wrongU; rw [List.range_succ, List.any_append]; simp

/-! the walk -/
/-- the order of a node and its parts -/
def post (e : List TNode) : Nat → Nat → List Nat
  | 0, _ => []
  | f + 1, i =>
    let n := nA e i
    if n.kind = 10 then post e f n.left.toNat ++ [i]
    else if isTwoB n.kind then post e f n.left.toNat ++ post e f n.right.toNat ++ [i]
    else [i]
def po (e : List TNode) (i : Nat) : List Nat := post e (i + 1) i
theorem post_more {e : List TNode} {n : Nat} (hp : PartsOk e n) : ∀ (f g i : Nat), i < n → i < f → i < g → post e f i = post e g i := by
  intro f
  induction f with
  | zero => intro g i _ h _; omega
  | succ f ih =>
    intro g i hn hf hg
    cases g with
    | zero => omega
    | succ g =>
      have hq := nodeF_parts (hp i hn)
      simp only [post]
      split
      · rename_i h10
        have := hq.1 h10
        rw [ih g _ (by omega) (by omega) (by omega)]
      · split
        · rename_i h2
          have := hq.2.1 h2
          rw [ih g _ (by omega) (by omega) (by omega), ih g _ (by omega) (by omega) (by omega)]
        · rfl
theorem po_eq {e : List TNode} {n i : Nat} (hp : PartsOk e n) (hi : i < n) : po e i = if (nA e i).kind = 10 then po e (nA e i).left.toNat ++ [i] else if isTwoB (nA e i).kind then po e (nA e i).left.toNat ++ po e (nA e i).right.toNat ++ [i] else [i] := by
  have hq := nodeF_parts (hp i hi)
  show post e (i + 1) i = _
  simp only [post]
  split
  · rename_i h10
    have := hq.1 h10
    rw [post_more hp i _ _ (by omega) (by omega) (Nat.lt_succ_self _)]; rfl
  · split
    · rename_i h2
      have := hq.2.1 h2
      rw [post_more hp i _ (nA e i).left.toNat (by omega) (by omega) (Nat.lt_succ_self _), post_more hp i _ (nA e i).right.toNat (by omega) (by omega) (Nat.lt_succ_self _)]; rfl
    · rfl

theorem po_len {e : List TNode} {n : Nat} (hp : PartsOk e n) : ∀ (k i : Nat), i ≤ k → i < n → ((po e i).length : Int) = szA e i ∧ 1 ≤ szA e i ∧ szA e i ≤ 2 ^ (i + 1) - 1 := by
  intro k
  induction k with
  | zero =>
    intro i hk hi
    have hq := nodeF_parts (hp i hi)
    obtain rfl : i = 0 := by omega
    rw [po_eq hp hi, szA_eq]
    unfold sizeOf1
    split
    · rename_i h10
      have := hq.1 h10; omega
    · split
      · rename_i h2
        have := hq.2.1 h2; omega
      · rename_i h1 h2; simp only [h1, h2, if_false, Bool.false_eq_true]; simp
  | succ k ih =>
    intro i hk hi
    have hq := nodeF_parts (hp i hi)
    rw [po_eq hp hi, szA_eq]
    unfold sizeOf1
    have pw : (2 : Int) ^ (i + 1) = 2 * 2 ^ i := by rw [Int.pow_succ]; omega
    have mono : ∀ j, j < i → (2 : Int) ^ (j + 1) ≤ 2 ^ i := fun j hj => by
      have := Nat.pow_le_pow_right (n := 2) (by decide) (show j + 1 ≤ i by omega)
      exact_mod_cast this
    have p1 : (1 : Int) ≤ 2 ^ i := by
      have := Nat.pow_le_pow_right (n := 2) (by decide) (Nat.zero_le i)
      exact_mod_cast this
    split
    · rename_i h10
      have hl := hq.1 h10
      have h1 := ih _ (show (nA e i).left.toNat ≤ k by omega) (by omega)
      have hm := mono _ hl.2
      simp only [h10, if_true]
      rw [sizesL_get e _ i hl.2]
      simp only [List.length_append, List.length_cons, List.length_nil]
      omega
    · split
      · rename_i h10 h2
        have hl := hq.2.1 h2
        have h1 := ih _ (show (nA e i).left.toNat ≤ k by omega) (by omega)
        have h3 := ih _ (show (nA e i).right.toNat ≤ k by omega) (by omega)
        have hm := mono _ hl.2.1
        have hm2 := mono _ hl.2.2.2
        simp only [h10, h2, if_true, if_false]
        rw [sizesL_get e _ i hl.2.1, sizesL_get e _ i hl.2.2.2]
        simp only [List.length_append, List.length_cons, List.length_nil]
        omega
      · rename_i h10 h2
        simp only [h10, h2, if_false, Bool.false_eq_true]
        simp; omega
theorem sz_bd {e : List TNode} {n i : Nat} (hp : PartsOk e n) (hi : i < n) (h16 : i ≤ 16) : 1 ≤ szA e i ∧ szA e i ≤ 131071 := by
  have h := (po_len hp i i (Nat.le_refl _) hi).2
  have : (2 : Int) ^ (i + 1) ≤ 2 ^ 17 := by
    have := Nat.pow_le_pow_right (n := 2) (by decide) (show i + 1 ≤ 17 by omega)
    exact_mod_cast this
  have e : (2 : Int) ^ 17 = 131072 := by decide
  omega

/-- a stretch of places -/
def stretch (a m : Nat) : List Nat := List.range' a m
theorem po_good {e : List TNode} {n : Nat} (hp : PartsOk e n) : ∀ (k i : Nat), i ≤ k → i < n → wrongU e (i + 1) = false → szA e i ≤ i + 1 ∧ po e i = stretch (i + 1 - (szA e i).toNat) (szA e i).toNat := by
  intro k
  induction k with
  | zero =>
    intro i hk hi hw
    have hq := nodeF_parts (hp i hi)
    obtain rfl : i = 0 := by omega
    have hs := po_len hp 0 0 (Nat.le_refl _) hi
    have hs1 : szA e 0 = 1 := by omega
    rw [hs1]
    refine ⟨by omega, ?_⟩
    rw [po_eq hp hi]
    split
    · rename_i h10
      have := hq.1 h10; omega
    · split
      · rename_i h2
        have := hq.2.1 h2; omega
      · rfl
  | succ k ih =>
    intro i hk hi hw
    have hq := nodeF_parts (hp i hi)
    rw [wrongU_step] at hw
    have hw1 : wrongU e i = false := by revert hw; cases wrongU e i <;> simp
    have hw2 : wrong1 e i = false := by revert hw; cases wrong1 e i <;> simp
    have sub : ∀ j, j < i → wrongU e (j + 1) = false := by
      intro j hj
      rw [Bool.eq_false_iff] at hw1 ⊢
      intro h; apply hw1
      unfold wrongU at h ⊢
      simp only [List.any_eq_true, List.mem_range] at h ⊢
      obtain ⟨x, h1, h2⟩ := h
      exact ⟨x, by omega, h2⟩
    have hl0 := po_len hp i i (Nat.le_refl _) hi
    have hszl : (po e i).length = (szA e i).toNat := by omega
    have he := szA_eq e i
    unfold sizeOf1 at he
    unfold wrong1 at hw2
    rw [po_eq hp hi]
    by_cases h10 : (nA e i).kind = 10
    · simp only [h10, if_true] at he hw2 ⊢
      have hl := hq.1 h10
      rw [sizesL_get e _ i hl.2] at he
      simp only [ne_eq, decide_not, Bool.not_eq_false', decide_eq_true_eq] at hw2
      have h1 := ih _ (show (nA e i).left.toNat ≤ k by omega) (by omega) (sub _ hl.2)
      have hb := (po_len hp _ _ (Nat.le_refl _) (show (nA e i).left.toNat < n by omega)).2.1
      refine ⟨by omega, ?_⟩
      rw [h1.2]
      unfold stretch
      have : (szA e i).toNat = (szA e (nA e i).left.toNat).toNat + 1 := by omega
      rw [this, List.range'_concat]
      rw [show i + 1 - ((szA e (nA e i).left.toNat).toNat + 1) = (nA e i).left.toNat + 1 - (szA e (nA e i).left.toNat).toNat by omega]
      congr 2; omega
    · by_cases h2 : isTwoB (nA e i).kind = true
      · simp only [h10, h2, if_true, if_false] at he hw2 ⊢
        have hl := hq.2.1 h2
        rw [sizesL_get e _ i hl.2.1, sizesL_get e _ i hl.2.2.2] at he
        simp only [Bool.or_eq_false_iff, ne_eq, decide_not, Bool.not_eq_false', decide_eq_true_eq] at hw2
        have h1 := ih _ (show (nA e i).left.toNat ≤ k by omega) (by omega) (sub _ hl.2.1)
        have h3 := ih _ (show (nA e i).right.toNat ≤ k by omega) (by omega) (sub _ hl.2.2.2)
        have hb := (po_len hp _ _ (Nat.le_refl _) (show (nA e i).left.toNat < n by omega)).2.1
        have hb2 := (po_len hp _ _ (Nat.le_refl _) (show (nA e i).right.toNat < n by omega)).2.1
        refine ⟨by omega, ?_⟩
        rw [h1.2, h3.2]
        unfold stretch
        generalize hA : (szA e (nA e i).left.toNat).toNat = A at *
        generalize hB : (szA e (nA e i).right.toNat).toNat = B at *
        have hC : (szA e i).toNat = A + B + 1 := by omega
        rw [hC, List.range'_concat, show A + B = B + A by omega]
        rw [show i + 1 - (B + A + 1) = (nA e i).left.toNat + 1 - A by omega]
        rw [show B + A = A + B by omega, ← List.range'_append_1]
        rw [show (nA e i).left.toNat + 1 - A + A = (nA e i).right.toNat + 1 - B by omega]
        congr 2; omega
      · simp only [h10, h2, if_false, Bool.false_eq_true] at he ⊢
        refine ⟨by omega, ?_⟩
        rw [he]
        simp [stretch]

/-- a part's order stands whole in the order -/
theorem po_infix {e : List TNode} {n : Nat} (hp : PartsOk e n) : ∀ (k r i : Nat), r ≤ k → r < n → i ∈ po e r → ∃ a b, po e r = a ++ po e i ++ b ∧ i ≤ r := by
  intro k
  induction k with
  | zero =>
    intro r i hk hr hi
    obtain rfl : r = 0 := by omega
    have hq := nodeF_parts (hp 0 hr)
    rw [po_eq hp hr] at hi
    split at hi
    · rename_i h10
      have := hq.1 h10; omega
    · split at hi
      · rename_i h2
        have := hq.2.1 h2; omega
      · simp at hi; subst hi; exact ⟨[], [], by simp, Nat.le_refl _⟩
  | succ k ih =>
    intro r i hk hr hi
    have hq := nodeF_parts (hp r hr)
    by_cases hir : i = r
    · subst hir; exact ⟨[], [], by simp, Nat.le_refl _⟩
    have e0 := po_eq hp hr
    rw [e0] at hi ⊢
    split at hi
    · rename_i h10
      have hl := hq.1 h10
      simp only [h10, if_true]
      simp only [List.mem_append, List.mem_singleton, hir, or_false] at hi
      obtain ⟨a, b, h1, h2⟩ := ih _ i (by omega) (by omega) hi
      exact ⟨a, b ++ [r], by rw [h1]; simp, by omega⟩
    · split at hi
      · rename_i h10 h2
        have hl := hq.2.1 h2
        simp only [h10, h2, if_true, if_false]
        simp only [List.mem_append, List.mem_singleton, hir, or_false] at hi
        rcases hi with hi | hi
        · obtain ⟨a, b, h1, h2⟩ := ih _ i (by omega) (by omega) hi
          exact ⟨a, b ++ po e (nA e r).right.toNat ++ [r], by rw [h1]; simp, by omega⟩
        · obtain ⟨a, b, h1, h2⟩ := ih _ i (by omega) (by omega) hi
          exact ⟨po e (nA e r).left.toNat ++ a, b ++ [r], by rw [h1]; simp, by omega⟩
      · simp at hi; exact absurd hi hir
theorem po_last {e : List TNode} {n i : Nat} (hp : PartsOk e n) (hi : i < n) : ∃ a, po e i = a ++ [i] := by
  rw [po_eq hp hi]
  split
  · exact ⟨_, rfl⟩
  · split
    · exact ⟨_, rfl⟩
    · exact ⟨[], rfl⟩
theorem range_at {n : Nat} {a b : List Nat} {i : Nat} (h : List.range n = a ++ i :: b) : a.length = i := by
  have := congrArg (fun l => l[a.length]?) h
  simp only [List.getElem?_append_right (Nat.le_refl _), Nat.sub_self, List.getElem?_cons_zero] at this
  obtain ⟨h1, h2⟩ := List.getElem?_eq_some_iff.1 this
  simpa using h2
theorem po_bad {e : List TNode} {n : Nat} (hp : PartsOk e n) (hn : 0 < n) (h : po e (n - 1) = List.range n) : wrongU e n = false ∧ szA e (n - 1) = n := by
  have hl := po_len hp (n - 1) (n - 1) (Nat.le_refl _) (by omega)
  rw [h, List.length_range] at hl
  refine ⟨?_, by omega⟩
  unfold wrongU
  rw [Bool.eq_false_iff]
  intro hw
  simp only [List.any_eq_true, List.mem_range] at hw
  obtain ⟨i, hi, hw⟩ := hw
  have hq := nodeF_parts (hp i hi)
  obtain ⟨a, b, h1, _⟩ := po_infix hp (n - 1) (n - 1) i (Nat.le_refl _) (by omega) (by rw [h]; exact List.mem_range.2 hi)
  rw [h] at h1
  unfold wrong1 at hw
  have e0 := po_eq hp hi
  by_cases h10 : (nA e i).kind = 10
  · simp only [h10, if_true] at hw e0
    have hl := hq.1 h10
    obtain ⟨c, hc⟩ := po_last hp (show (nA e i).left.toNat < n by omega)
    rw [e0, hc] at h1
    have p1 := range_at (i := i) (a := a ++ (c ++ [(nA e i).left.toNat])) (b := b) (by rw [h1]; simp)
    have p2 := range_at (i := (nA e i).left.toNat) (a := a ++ c) (b := i :: b) (by rw [h1]; simp)
    simp at p1 p2 hw
    omega
  · by_cases h2 : isTwoB (nA e i).kind = true
    · simp only [h10, h2, if_true, if_false] at hw e0
      have hl := hq.2.1 h2
      obtain ⟨c, hc⟩ := po_last hp (show (nA e i).left.toNat < n by omega)
      obtain ⟨d, hd⟩ := po_last hp (show (nA e i).right.toNat < n by omega)
      have hlen := (po_len hp _ _ (Nat.le_refl _) (show (nA e i).right.toNat < n by omega)).1
      rw [hd] at hlen
      rw [e0, hc, hd] at h1
      have p1 := range_at (i := i) (a := a ++ (c ++ [(nA e i).left.toNat]) ++ (d ++ [(nA e i).right.toNat])) (b := b) (by rw [h1]; simp)
      have p2 := range_at (i := (nA e i).left.toNat) (a := a ++ c) (b := (d ++ [(nA e i).right.toNat]) ++ i :: b) (by rw [h1]; simp)
      have p3 := range_at (i := (nA e i).right.toNat) (a := a ++ (c ++ [(nA e i).left.toNat]) ++ d) (b := i :: b) (by rw [h1]; simp)
      simp at p1 p2 p3 hw hlen
      omega
    · simp only [h10, h2, if_false, Bool.false_eq_true] at hw
/-- both tell the same -/
theorem po_iff {e : List TNode} {n : Nat} (hp : PartsOk e n) (hn : 0 < n) : po e (n - 1) = List.range n ↔ (wrongU e n = false ∧ szA e (n - 1) = n) := by
  constructor
  · exact po_bad hp hn
  · rintro ⟨h1, h2⟩
    have h := (po_good hp (n - 1) (n - 1) (Nat.le_refl _) (by omega) (by rwa [show n - 1 + 1 = n by omega])).2
    rw [h, h2]
    unfold stretch
    rw [List.range_eq_range', show n - 1 + 1 - (n : Int).toNat = 0 by omega]
    simp

/-- the walk that stops behind 16 -/
def walkC (e : List TNode) : Nat → Nat → List Nat → List Nat
  | 0, _, out => out
  | f + 1, i, out =>
    if 16 < out.length then out
    else
      let n := nA e i
      let o1 := if 2 < n.kind then walkC e f n.left.toNat out else out
      let o2 := if isTwoB n.kind then walkC e f n.right.toNat o1 else o1
      o2 ++ [i]
theorem walkC_mono {e : List TNode} : ∀ (f i : Nat) (out : List Nat), out.length ≤ (walkC e f i out).length := by
  intro f
  induction f with
  | zero => intro i out; exact Nat.le_refl _
  | succ f ih =>
    intro i out
    simp only [walkC]
    split
    · exact Nat.le_refl _
    · simp only [List.length_append, List.length_cons, List.length_nil]
      have h1 : out.length ≤ (if 2 < (nA e i).kind then walkC e f (nA e i).left.toNat out else out).length := by
        split
        · exact ih _ _
        · exact Nat.le_refl _
      generalize (if 2 < (nA e i).kind then walkC e f (nA e i).left.toNat out else out) = o1 at *
      split
      · have := ih (nA e i).right.toNat o1; omega
      · omega
theorem walkC_eq {e : List TNode} {n : Nat} (hp : PartsOk e n) : ∀ (f i : Nat) (out : List Nat), i < n → i < f → (out.length + (po e i).length ≤ 17 → walkC e f i out = out ++ po e i) ∧ (17 < out.length + (po e i).length → 17 ≤ (walkC e f i out).length) := by
  intro f
  induction f with
  | zero => intro i out _ h; omega
  | succ f ih =>
    intro i out hn hf
    have hq := nodeF_parts (hp i hn)
    have hl1 := (po_len hp i i (Nat.le_refl _) hn)
    have e0 := po_eq hp hn
    simp only [walkC]
    by_cases h16 : 16 < out.length
    · rw [if_pos h16]
      exact ⟨fun h => by omega, fun _ => by omega⟩
    · rw [if_neg h16]
      by_cases h10 : (nA e i).kind = 10
      · have hl := hq.1 h10
        have n2 : isTwoB (nA e i).kind = false := by rw [isTwoB, inR_not]; omega
        have i1 := ih (nA e i).left.toNat out (by omega) (by omega)
        rw [if_pos (show 2 < (nA e i).kind by omega)]
        simp only [n2, Bool.false_eq_true, if_false]
        rw [if_pos h10] at e0
        rw [e0]
        simp only [List.length_append, List.length_cons, List.length_nil]
        constructor
        · intro h
          rw [i1.1 (by omega)]; simp
        · intro h
          by_cases hh : out.length + (po e (nA e i).left.toNat).length ≤ 17
          · rw [i1.1 hh]; simp; omega
          · have := i1.2 (by omega); simp; omega
      · by_cases h2 : isTwoB (nA e i).kind = true
        · have hl := hq.2.1 h2
          have hk := inR_iff.1 h2
          have i1 := ih (nA e i).left.toNat out (by omega) (by omega)
          simp only [if_pos (show 2 < (nA e i).kind by omega), h10, h2, if_true, if_false] at e0 ⊢
          rw [e0]
          simp only [List.length_append, List.length_cons, List.length_nil]
          have hr1 := (po_len hp _ _ (Nat.le_refl _) (show (nA e i).right.toNat < n by omega))
          by_cases hh : out.length + (po e (nA e i).left.toNat).length ≤ 17
          · rw [i1.1 hh]
            have i2 := ih (nA e i).right.toNat (out ++ po e (nA e i).left.toNat) (by omega) (by omega)
            simp only [List.length_append] at i2
            constructor
            · intro h
              rw [i2.1 (by omega)]; simp
            · intro h
              by_cases h3 : out.length + (po e (nA e i).left.toNat).length + (po e (nA e i).right.toNat).length ≤ 17
              · rw [i2.1 h3]; simp; omega
              · have := i2.2 (by omega); omega
          · have h5 := i1.2 (by omega)
            have h6 := walkC_mono (e := e) f (nA e i).right.toNat (walkC e f (nA e i).left.toNat out)
            exact ⟨fun h => by omega, fun _ => by omega⟩
        · have hk : (nA e i).kind ≤ 2 := hq.2.2.2.2.2 ⟨h10, by simpa using h2⟩
          simp only [if_neg (show ¬ 2 < (nA e i).kind by omega), h10, h2, if_false, Bool.false_eq_true] at e0 ⊢
          rw [e0]
          simp only [List.length_append, List.length_cons, List.length_nil]
          exact ⟨fun _ => trivial, fun h => by omega⟩
def wkF (e : List TNode) (i : Nat) (out : List Nat) : List Nat := walkC e (i + 1) i out
theorem wk_iff {e : List TNode} {n : Nat} (hp : PartsOk e n) (hn : 0 < n) (h16 : n ≤ 16) : wkF e (n - 1) [] = List.range n ↔ (wrongU e n = false ∧ szA e (n - 1) = n) := by
  rw [← po_iff hp hn]
  have h := walkC_eq hp (n - 1 + 1) (n - 1) [] (by omega) (Nat.lt_succ_self _)
  unfold wkF
  simp only [List.length_nil, Nat.zero_add, List.nil_append] at h
  by_cases hh : (po e (n - 1)).length ≤ 17
  · rw [h.1 hh]
  · constructor
    · intro hw
      have := h.2 (by omega)
      rw [hw, List.length_range] at this; omega
    · intro hw
      rw [hw, List.length_range] at hh; omega

/-- the code of an expression -/
def exprF (e : List TNode) : Int :=
  if inR e.length 1 16 = false then 2
  else if sc (nodeAt e) e.length 0 ≠ 0 then sc (nodeAt e) e.length 0
  else if wrongU e e.length = true ∨ szA e (e.length - 1) ≠ e.length then 1 else 0
end Go.AM

/-! ### Py -/
set_option linter.unusedVariables false
set_option linter.unusedSimpArgs false
namespace Go.AM

theorem walkC_more {e : List TNode} {n : Nat} (hp : PartsOk e n) : ∀ (f g i : Nat) (out : List Nat), i < n → i < f → i < g → walkC e f i out = walkC e g i out := by
  intro f
  induction f with
  | zero => intro g i out _ h; omega
  | succ f ih =>
    intro g i out hn hf hg
    cases g with
    | zero => omega
    | succ g =>
      have hq := nodeF_parts (hp i hn)
      simp only [walkC]
      by_cases h10 : (nA e i).kind = 10
      · have hl := hq.1 h10
        have n2 : isTwoB (nA e i).kind = false := by rw [isTwoB, inR_not]; omega
        simp only [n2, Bool.false_eq_true, if_false]
        rw [ih g (nA e i).left.toNat out (by omega) (by omega) (by omega)]
      · by_cases h2 : isTwoB (nA e i).kind = true
        · have hl := hq.2.1 h2
          simp only [h2]
          rw [ih g (nA e i).left.toNat _ (by omega) (by omega) (by omega), ih g (nA e i).right.toNat _ (by omega) (by omega) (by omega)]
        · have hk : (nA e i).kind ≤ 2 := hq.2.2.2.2.2 ⟨h10, by simpa using h2⟩
          simp only [if_neg (show ¬ 2 < (nA e i).kind by omega), h2, Bool.false_eq_true, if_false]
theorem wkF_eq {e : List TNode} {n i : Nat} (hp : PartsOk e n) (hi : i < n) (out : List Nat) : wkF e i out = if 16 < out.length then out else
    (if isTwoB (nA e i).kind then wkF e (nA e i).right.toNat (if 2 < (nA e i).kind then wkF e (nA e i).left.toNat out else out) else (if 2 < (nA e i).kind then wkF e (nA e i).left.toNat out else out)) ++ [i] := by
  have hq := nodeF_parts (hp i hi)
  unfold wkF
  conv => lhs; unfold walkC
  split
  · rfl
  · simp only
    by_cases h10 : (nA e i).kind = 10
    · have hl := hq.1 h10
      have n2 : isTwoB (nA e i).kind = false := by rw [isTwoB, inR_not]; omega
      simp only [n2, Bool.false_eq_true, if_false]
      rw [walkC_more hp i ((nA e i).left.toNat + 1) (nA e i).left.toNat out (by omega) (by omega) (by omega)]
    · by_cases h2 : isTwoB (nA e i).kind = true
      · have hl := hq.2.1 h2
        simp only [h2]
        rw [walkC_more hp i ((nA e i).left.toNat + 1) (nA e i).left.toNat _ (by omega) (by omega) (by omega), walkC_more hp i ((nA e i).right.toNat + 1) (nA e i).right.toNat _ (by omega) (by omega) (by omega)]
      · have hk : (nA e i).kind ≤ 2 := hq.2.2.2.2.2 ⟨h10, by simpa using h2⟩
        simp only [if_neg (show ¬ 2 < (nA e i).kind by omega), h2, Bool.false_eq_true, if_false]

/-! types -/
def ownT (k : Int) : Int := if k ≤ 6 then 1 else 2
def partT (k : Int) : Int := if k ≤ 8 then 1 else 2
def typBad (e : List TNode) (i : Nat) : Bool :=
  let n := nA e i
  (decide (2 < n.kind) && decide (ownT (nA e n.left.toNat).kind ≠ partT n.kind)) || (isTwoB n.kind && decide (ownT (nA e n.right.toNat).kind ≠ partT n.kind))
def typU (e : List TNode) (i : Nat) : Bool := (List.range i).any (typBad e)
theorem typU_step (e : List TNode) (i : Nat) : typU e (i + 1) = (typU e i || typBad e i) := by
  unfold typU; rw [List.range_succ, List.any_append]; simp
theorem typU_mono {e : List TNode} {i n : Nat} (h : i ≤ n) (hu : typU e i = true) : typU e n = true := by
  unfold typU at *
  simp only [List.any_eq_true, List.mem_range] at *
  obtain ⟨x, h1, h2⟩ := hu
  exact ⟨x, by omega, h2⟩
def typC (e : List TNode) : Int := if exprF e ≠ 0 then exprF e else if typU e e.length = true then 7 else 0
def typV (e : List TNode) : Int := if typC e ≠ 0 then 0 else ownT (nA e (e.length - 1)).kind
/-- the code of an expression that has to have a type, if it is there -/
def typF (e : List TNode) (want : Int) : Int := if e.length = 0 then 0 else if typC e ≠ 0 then typC e else if typV e ≠ want then 7 else 0

/-! names -/
def isLow (c : UInt8) : Bool := decide (97 ≤ (c.toNat : Int)) && decide ((c.toNat : Int) ≤ 122)
def nameF (s : List UInt8) : Int := if s.all isLow = false ∨ s.length = 0 then 5 else if 8 < s.length then 2 else 0

/-! parents -/
/-- parents lie ahead -/
def ParOk (l : List Int) : Prop := ∀ k, k < l.length → -1 ≤ l.getD k 0 ∧ l.getD k 0 < k
def upF (l : List Int) : Nat → Int → Int → Bool
  | 0, _, _ => false
  | f + 1, a, par => if a < 0 then false else if a = par then true else upF l f (l.getD a.toNat 0) par
/-- is it on the way up from a place? -/
def upB (l : List Int) (a par : Int) : Bool := upF l (a + 1).toNat a par
theorem upF_more {l : List Int} (hl : ParOk l) {par : Int} : ∀ (f g : Nat) (a : Int), a < l.length → a < f → a < g → upF l f a par = upF l g a par := by
  intro f
  induction f with
  | zero =>
    intro g a _ hf _
    cases g with
    | zero => rfl
    | succ g => simp only [upF]; rw [if_pos (by omega)]
  | succ f ih =>
    intro g a hn hf hg
    cases g with
    | zero => simp only [upF]; rw [if_pos (by omega)]
    | succ g =>
      simp only [upF]
      split
      · rfl
      · split
        · rfl
        · have := hl a.toNat (by omega)
          exact ih g _ (by omega) (by omega) (by omega)
theorem upB_neg {l : List Int} {a par : Int} (h : a < 0) : upB l a par = false := by
  unfold upB
  rw [show (a + 1).toNat = 0 by omega]; rfl
theorem upB_eq {l : List Int} (hl : ParOk l) {a par : Int} (h0 : 0 ≤ a) (hn : a < l.length) : upB l a par = if a = par then true else upB l (l.getD a.toNat 0) par := by
  unfold upB
  obtain ⟨m, hm⟩ : ∃ m : Nat, a = m := ⟨a.toNat, by omega⟩
  subst hm
  rw [show ((m : Int) + 1).toNat = m + 1 by omega]
  simp only [upF]
  rw [if_neg (by omega)]
  split
  · rfl
  · have := hl m (by omega)
    rw [Int.toNat_natCast] at *
    exact upF_more hl m _ _ (by omega) (by omega) (by omega)
theorem upB_lt {l : List Int} (hl : ParOk l) {par : Int} : ∀ (k : Nat) (a : Int), a < k → a < l.length → a < par → upB l a par = false := by
  intro k
  induction k with
  | zero => intro a hk _ _; exact upB_neg (by omega)
  | succ k ih =>
    intro a hk hn hp
    by_cases h0 : a < 0
    · exact upB_neg h0
    · have := hl a.toNat (by omega)
      rw [upB_eq hl (by omega) hn, if_neg (by omega)]
      exact ih _ (by omega) (by omega) (by omega)
/-- the code of the next parent -/
def parF (l : List Int) (par : Int) : Int :=
  if (l.length = 0 ∧ par ≠ -1) ∨ (0 < l.length ∧ (par < 0 ∨ (l.length : Int) ≤ par)) then 3
  else if 0 < l.length ∧ upB l ((l.length : Int) - 1) par = false then 1 else 0
theorem ParOk.snoc {l : List Int} (hl : ParOk l) {par : Int} (h1 : -1 ≤ par) (h2 : par < l.length) : ParOk (l ++ [par]) := by
  intro k hk
  rw [List.length_append, List.length_singleton] at hk
  by_cases h : k < l.length
  · have := hl k h
    simpa [List.getD, List.getElem?_append_left h] using this
  · obtain rfl : k = l.length := by omega
    simp [List.getD]; omega
theorem parF_ok {l : List Int} {par : Int} (h : parF l par = 0) : -1 ≤ par ∧ par < l.length ∧ (0 < l.length → 0 ≤ par) := by
  unfold parF at h
  split at h
  · cases h
  · omega

/-- how many there are from a place up -/
def depF (l : List Int) : Nat → Int → Int
  | 0, _ => 0
  | f + 1, a => if a < 0 then 0 else 1 + depF l f (l.getD a.toNat 0)
def dep (l : List Int) (a : Int) : Int := depF l (a + 1).toNat a
theorem depF_more {l : List Int} (hl : ParOk l) : ∀ (f g : Nat) (a : Int), a < l.length → a < f → a < g → depF l f a = depF l g a := by
  intro f
  induction f with
  | zero =>
    intro g a _ hf _
    cases g with
    | zero => rfl
    | succ g => simp only [depF]; rw [if_pos (by omega)]
  | succ f ih =>
    intro g a hn hf hg
    cases g with
    | zero => simp only [depF]; rw [if_pos (by omega)]
    | succ g =>
      simp only [depF]
      split
      · rfl
      · have := hl a.toNat (by omega)
        rw [ih g _ (by omega) (by omega) (by omega)]
theorem dep_neg {l : List Int} {a : Int} (h : a < 0) : dep l a = 0 := by
  unfold dep
  rw [show (a + 1).toNat = 0 by omega]; rfl
theorem dep_eq {l : List Int} (hl : ParOk l) {a : Int} (h0 : 0 ≤ a) (hn : a < l.length) : dep l a = 1 + dep l (l.getD a.toNat 0) := by
  unfold dep
  obtain ⟨m, hm⟩ : ∃ m : Nat, a = m := ⟨a.toNat, by omega⟩
  subst hm
  rw [show ((m : Int) + 1).toNat = m + 1 by omega]
  simp only [depF]
  rw [if_neg (by omega)]
  have := hl m (by omega)
  rw [Int.toNat_natCast] at *
  rw [depF_more hl m (l.getD m 0 + 1).toNat (l.getD m 0) (by omega) (by omega) (by omega)]
theorem dep_bd {l : List Int} (hl : ParOk l) : ∀ (k : Nat) (a : Int), a < k → a < l.length → 0 ≤ dep l a ∧ (0 ≤ a → dep l a ≤ a + 1) := by
  intro k
  induction k with
  | zero => intro a hk _; rw [dep_neg (by omega)]; omega
  | succ k ih =>
    intro a hk hn
    by_cases h0 : a < 0
    · rw [dep_neg h0]; omega
    · have h1 := hl a.toNat (by omega)
      rw [dep_eq hl (by omega) hn]
      have h2 := ih (l.getD a.toNat 0) (by omega) (by omega)
      by_cases h3 : 0 ≤ l.getD a.toNat 0
      · have := h2.2 h3; omega
      · rw [dep_neg (show l.getD a.toNat 0 < 0 by omega)]; omega
theorem getD_left {l : List Int} {x : Int} {k : Nat} (h : k < l.length) : (l ++ [x]).getD k 0 = l.getD k 0 := by simp [List.getD, List.getElem?_append_left h]
theorem dep_snoc {l : List Int} (hl : ParOk l) {x : Int} : ∀ (k : Nat) (a : Int), a < k → a < l.length → -1 ≤ x → x < l.length → dep (l ++ [x]) a = dep l a := by
  intro k
  induction k with
  | zero => intro a hk _ _ _; rw [dep_neg (by omega), dep_neg (by omega)]
  | succ k ih =>
    intro a hk hn h1 h2
    by_cases h0 : a < 0
    · rw [dep_neg h0, dep_neg h0]
    · have h3 := hl a.toNat (by omega)
      rw [dep_eq hl (by omega) hn, dep_eq (hl.snoc h1 h2) (by omega) (by simp; omega), getD_left (by omega), ih _ (by omega) (by omega) h1 h2]

/-! steps -/
instance : Inhabited TStep := ⟨⟨0, 0, [], 0, [], []⟩⟩
def nS (p : List TStep) (i : Nat) : TStep := p.getD i default
def pars (p : List TStep) : List Int := p.map TStep.par
def highA (k : Int) : Int := if k = 5 then 9 else if k = 6 ∨ k = 8 then 99 else if k = 7 then 3 else 0
def lowA (k : Int) : Int := if k = 6 ∨ k = 8 then 1 else 0
def alien (s : TStep) : Bool := (decide (s.name ≠ []) && decide (s.kind ≠ 2)) || (decide (s.arg ≠ 0) && decide (highA s.kind = 0)) || (decide (0 < s.expr.length) && decide (s.kind ≠ 7))
/-- the code of a step by itself, behind a row of parents -/
def stepF (l : List Int) (s : TStep) : Int :=
  if s.kind < 1 ∨ 8 < s.kind ∨ alien s = true then 1
  else if parF l s.par ≠ 0 then parF l s.par
  else if 7 < dep (l ++ [s.par]) l.length then 2
  else if s.kind = 2 then nameF s.name
  else if s.arg < lowA s.kind ∨ highA s.kind < s.arg then 3
  else if s.kind = 7 then exprF s.expr else 0
def oneF (p : List TStep) (i : Nat) : Int := stepF ((pars p).take i) (nS p i)

def kidU (p : List TStep) (a : Int) (i : Nat) : List Int := ((List.range i).filter fun k => decide (0 < k) && decide ((nS p k).par = a)).map fun (k : Nat) => (k : Int)
def kids (p : List TStep) (a : Int) : List Int := kidU p a p.length
theorem kidU_step (p : List TStep) (a : Int) (i : Nat) : kidU p a (i + 1) = kidU p a i ++ (if 0 < i ∧ (nS p i).par = a then [(i : Int)] else []) := by
  unfold kidU
  rw [List.range_succ, List.filter_append, List.map_append]
  congr 1
  by_cases h : 0 < i ∧ (nS p i).par = a
  · rw [if_pos h]; simp [h]
  · rw [if_neg h]
    rw [List.filter_cons_of_neg (by simpa using h)]; rfl
theorem kidU_len (p : List TStep) (a : Int) (i : Nat) : (kidU p a i).length ≤ i := by
  unfold kidU; rw [List.length_map]; exact Nat.le_trans (List.length_filter_le _ _) (by simp)
theorem kids_mem {p : List TStep} {a k : Int} : k ∈ kids p a ↔ ∃ m : Nat, k = m ∧ 0 < m ∧ m < p.length ∧ (nS p m).par = a := by
  unfold kids kidU
  simp only [List.mem_map, List.mem_filter, List.mem_range, Bool.and_eq_true, decide_eq_true_eq]
  constructor
  · rintro ⟨m, ⟨h1, h2, h3⟩, rfl⟩; exact ⟨m, rfl, h2, h1, h3⟩
  · rintro ⟨m, rfl, h2, h1, h3⟩; exact ⟨m, ⟨h1, h2, h3⟩, rfl⟩

def lastI (l : List Int) : Int := l.getD (l.length - 1) 0
def headI (l : List Int) : Int := l.getD 0 0
def kidLo (k : Int) : Int := if k = 1 then 1 else if k = 3 ∨ k = 4 ∨ k = 8 then 2 else 0
def kidHi (k : Int) : Int := if k = 1 ∨ k = 3 ∨ k = 4 then 24 else if k = 8 then 2 else 0
def wants (p : List TStep) (i : Nat) : Bool :=
  decide (i ≠ 0) && decide ((nS p (nS p i).par.toNat).kind = 3) && decide ((i : Int) ≠ lastI (kids p (nS p i).par))
def shapeF (p : List TStep) (i : Nat) : Int :=
  let s := nS p i
  if inR (kids p i).length (kidLo s.kind) (kidHi s.kind) = false then 1
  else if decide (0 < s.cond.length) ≠ wants p i then 1
  else if 0 < s.cond.length then exprF s.cond else 0
def tyF (p : List TStep) (i : Nat) : Int := if typF (nS p i).cond 2 ≠ 0 then typF (nS p i).cond 2 else typF (nS p i).expr 1
/-- the code of a process -/
def procF (p : List TStep) : Int :=
  if inR p.length 1 24 = false then 2
  else if sc (oneF p) p.length 0 ≠ 0 then sc (oneF p) p.length 0
  else if sc (shapeF p) p.length 0 ≠ 0 then sc (shapeF p) p.length 0
  else sc (tyF p) p.length 0

/-- what is told of a row of steps that have no fault by themselves -/
theorem pars_len (p : List TStep) : (pars p).length = p.length := by simp [pars]
theorem pars_get {p : List TStep} {i : Nat} (h : i < p.length) : (pars p).getD i 0 = (nS p i).par := by
  simp [pars, nS, List.getD, List.getElem?_map, List.getElem?_eq_getElem h]
theorem pars_take {p : List TStep} {i : Nat} (h : i < p.length) : (pars p).take (i + 1) = (pars p).take i ++ [(nS p i).par] := by
  have e : (pars p)[i]? = some (nS p i).par := by simp [pars, nS, List.getD, List.getElem?_map, List.getElem?_eq_getElem h]
  rw [List.take_add_one, e]; rfl
theorem stepF_par {l : List Int} {s : TStep} (h : stepF l s = 0) : parF l s.par = 0 := by
  unfold stepF at h
  split at h
  · cases h
  · split at h
    · exact absurd h (by assumption)
    · rename_i h2; simpa using h2
theorem ones_ok {p : List TStep} : ∀ (i : Nat), i ≤ p.length → (∀ k, k < i → oneF p k = 0) → ParOk ((pars p).take i) := by
  intro i
  induction i with
  | zero => intro _ _ k hk; simp at hk
  | succ i ih =>
    intro hi h
    have h1 := ih (by omega) fun k hk => h k (by omega)
    have h2 := parF_ok (stepF_par (h i (by omega)))
    rw [pars_take (by omega)]
    exact h1.snoc h2.1 h2.2.1
end Go.AM

/-! ### Pz -/
set_option linter.unusedVariables false
set_option linter.unusedSimpArgs false
namespace Go.AM

def actA (c : TChart) (i : Int) : Int := c.acts.getD i.toNat 0
def dueA (c : TChart) (i : Int) : Int := c.dues.getD i.toNat 0
def stepA (p : List TStep) (i : Int) : TStep := nS p i.toNat
def cnt (c : TChart) (a : Int) (l : List Int) : Int := (l.countP fun k => decide (actA c k = a) : Nat)
theorem cnt_nil (c : TChart) (a : Int) : cnt c a [] = 0 := rfl
theorem cnt_step {c : TChart} {a : Int} {l : List Int} {i : Nat} {x : Int} (h : l[i]? = some x) : cnt c a (l.take (i + 1)) = cnt c a (l.take i) + if actA c x = a then 1 else 0 := by
  unfold cnt
  rw [List.take_add_one, h, List.countP_append]
  by_cases h0 : actA c x = a <;> simp [h0]
theorem cnt_le (c : TChart) (a : Int) (l : List Int) : 0 ≤ cnt c a l ∧ cnt c a l ≤ l.length := by
  unfold cnt
  have := List.countP_le_length (p := fun k => decide (actA c k = a)) (l := l)
  omega
theorem cnt_pos {c : TChart} {a k : Int} {l : List Int} (h : k ∈ l) (ha : actA c k = a) : 0 < cnt c a l := by
  unfold cnt
  have := List.countP_pos_iff (p := fun k => decide (actA c k = a)) (l := l) |>.2 ⟨k, h, by simpa using ha⟩
  omega
theorem cnt_zero {c : TChart} {a : Int} {l : List Int} (h : ∀ k ∈ l, actA c k ≠ a) : cnt c a l = 0 := by
  unfold cnt
  have := List.countP_eq_zero (p := fun k => decide (actA c k = a)) (l := l) |>.2 fun k hk => by simpa using h k hk
  omega
theorem cnt_two (c : TChart) (l : List Int) : cnt c 1 l + cnt c 2 l ≤ l.length := by
  unfold cnt
  induction l with
  | nil => simp
  | cons x l ih =>
    rw [List.countP_cons, List.countP_cons, List.length_cons]
    by_cases h1 : actA c x = 1
    · simp [h1]; omega
    · by_cases h2 : actA c x = 2
      · simp [h2]; omega
      · simp [h1, h2]; omega

/-- the program's look at a step -/
def fits (p : List TStep) (c : TChart) (at_ : Int) : Bool :=
  let s := stepA p at_
  let a := actA c at_
  let l := kids p at_
  let on := cnt c 1 l
  let ov := cnt c 2 l
  if a = 2 ∧ (at_ = 0 ∨ (stepA p s.par).kind ≠ 4) then false
  else if a ≠ 1 then decide (on + ov = 0) && decide (dueA c at_ = 0)
  else if s.kind = 1 ∨ s.kind = 3 then decide (on = 1) && decide (dueA c at_ = 0)
  else if s.kind = 4 then decide (on ≠ 0) && decide (on + ov = l.length) && decide (dueA c at_ = 0)
  else if s.kind = 8 then decide (on = 1) && (decide (actA c (headI l) = 1) == decide (dueA c at_ ≠ 0))
  else if s.kind = 6 then decide (dueA c at_ ≠ 0)
  else if s.kind = 7 then false
  else decide (dueA c at_ = 0)
/-- the reference's look at a step -/
def wrong9 (p : List TStep) (c : TChart) (at_ : Int) : Bool :=
  let l := kids p at_
  let on := cnt c 1 l
  let ov := cnt c 2 l
  let due := decide (dueA c at_ ≠ 0)
  if actA c at_ ≠ 1 then decide (0 < on + ov) || due
  else if (stepA p at_).kind = 1 ∨ (stepA p at_).kind = 3 then decide (on ≠ 1) || decide (0 < ov) || due
  else if (stepA p at_).kind = 4 then decide (on < 1) || decide (on + ov ≠ l.length) || due
  else if (stepA p at_).kind = 8 then decide (on ≠ 1) || decide (0 < ov) || (due != decide (actA c (headI l) = 1))
  else if (stepA p at_).kind = 6 then !due
  else if (stepA p at_).kind = 7 then true
  else due
def allFit (p : List TStep) (c : TChart) (n : Nat) : Bool := (List.range n).all fun (i : Nat) => fits p c i
def someWrong (p : List TStep) (c : TChart) (n : Nat) : Bool := (List.range n).any fun (i : Nat) => wrong9 p c i
theorem allFit_step (p : List TStep) (c : TChart) (n : Nat) : allFit p c (n + 1) = (allFit p c n && fits p c n) := by
  unfold allFit; rw [List.range_succ, List.all_append]; simp
theorem someWrong_step (p : List TStep) (c : TChart) (n : Nat) : someWrong p c (n + 1) = (someWrong p c n || wrong9 p c n) := by
  unfold someWrong; rw [List.range_succ, List.any_append]; simp

/-- what a process without faults is known to be -/
structure ProcOk (p : List TStep) : Prop where
  len : 1 ≤ p.length ∧ p.length ≤ 24
  one : ∀ i, i < p.length → oneF p i = 0
  shape : ∀ i, i < p.length → shapeF p i = 0
  ty : ∀ i, i < p.length → tyF p i = 0
theorem procOk {p : List TStep} (h : procF p = 0) : ProcOk p := by
  unfold procF at h
  split at h
  · cases h
  rename_i h0
  split at h
  · exact absurd h (by assumption)
  rename_i h1
  split at h
  · exact absurd h (by assumption)
  rename_i h2
  have h0 : inR (↑p.length) 1 24 = true := by simpa using h0
  have h0 := inR_iff.1 h0
  exact ⟨by omega, sc_all (by simpa using h1), sc_all (by simpa using h2), sc_all h⟩
theorem ProcOk.par {p : List TStep} (h : ProcOk p) : ParOk (pars p) := by
  have := ones_ok p.length (Nat.le_refl _) h.one
  rwa [List.take_of_length_le (by rw [pars_len]; exact Nat.le_refl _)] at this
theorem ProcOk.par0 {p : List TStep} (h : ProcOk p) : (nS p 0).par = -1 := by
  have h1 := parF_ok (stepF_par (h.one 0 (by have := h.len; omega)))
  simp at h1; omega
theorem ProcOk.parI {p : List TStep} (h : ProcOk p) {i : Nat} (h0 : 0 < i) (hi : i < p.length) : 0 ≤ (nS p i).par ∧ (nS p i).par < i := by
  have h1 := parF_ok (stepF_par (h.one i hi))
  have hl : ((pars p).take i).length = i := by rw [List.length_take, pars_len]; omega
  rw [hl] at h1
  exact ⟨h1.2.2 h0, h1.2.1⟩
theorem ProcOk.kind {p : List TStep} (h : ProcOk p) {i : Nat} (hi : i < p.length) : 1 ≤ (nS p i).kind ∧ (nS p i).kind ≤ 8 := by
  have h1 := h.one i hi
  unfold oneF stepF at h1
  split at h1
  · cases h1
  · omega
theorem ProcOk.many {p : List TStep} (h : ProcOk p) {i : Nat} (hi : i < p.length) : kidLo (nS p i).kind ≤ (kids p i).length ∧ ((kids p i).length : Int) ≤ kidHi (nS p i).kind := by
  have h1 := h.shape i hi
  unfold shapeF at h1
  simp only at h1
  split at h1
  · cases h1
  · rename_i h2; exact inR_iff.1 (by simpa using h2)

/-- both look alike over all steps -/
theorem fits_iff {p : List TStep} {c : TChart} (hp : ProcOk p) : (allFit p c p.length = true ∧ actA c 0 = 1) ↔ (actA c 0 = 1 ∧ someWrong p c p.length = false) := by
  unfold allFit someWrong
  rw [Bool.eq_false_iff]
  simp only [List.all_eq_true, List.any_eq_true, List.mem_range, ne_eq, not_exists, not_and, Bool.not_eq_true]
  constructor
  · rintro ⟨h, h0⟩
    refine ⟨h0, fun i hi => ?_⟩
    have hf := h i hi
    have hov : (stepA p i).kind ≠ 4 → cnt c 2 (kids p i) = 0 := by
      intro hk
      refine cnt_zero fun k hk' => ?_
      obtain ⟨m, rfl, h1, h2, h3⟩ := kids_mem.1 hk'
      intro ha
      have hm := h m h2
      unfold fits at hm
      simp only at hm
      rw [if_pos ⟨ha, Or.inr (by simp only [stepA, Int.toNat_natCast] at hk ⊢; rw [h3]; simpa using hk)⟩] at hm
      cases hm
    unfold fits at hf
    unfold wrong9
    simp only at hf ⊢
    split at hf
    · cases hf
    split at hf
    · rename_i h1
      rw [if_pos h1]
      simp at hf ⊢; omega
    · rename_i h1
      rw [if_neg h1]
      split at hf
      · rename_i h2
        rw [if_pos h2, hov (by omega)]
        simp at hf ⊢; omega
      · rename_i h2
        rw [if_neg h2]
        split at hf
        · rename_i h3
          rw [if_pos h3]
          have := (cnt_le c 1 (kids p i)).1
          simp at hf ⊢; omega
        · rename_i h3
          rw [if_neg h3]
          split at hf
          · rename_i h4
            rw [if_pos h4, hov (by omega)]
            simp at hf ⊢
            refine ⟨hf.1, ?_⟩
            have := hf.2
            by_cases ha : actA c (headI (kids p i)) = 1 <;> by_cases hd : dueA c i = 0 <;> simp_all
          · rename_i h4
            rw [if_neg h4]
            split at hf
            · rename_i h5
              rw [if_pos h5]; simp at hf ⊢; exact hf
            · rename_i h5
              rw [if_neg h5]
              split at hf
              · cases hf
              · rename_i h6
                rw [if_neg h6]; simp at hf ⊢; exact hf
  · rintro ⟨h0, h⟩
    refine ⟨fun i hi => ?_, h0⟩
    have hf := h i hi
    have hov : actA c i = 2 → i ≠ 0 ∧ (stepA p (stepA p i).par).kind = 4 := by
      intro ha
      have hi0 : i ≠ 0 := by rintro rfl; rw [show ((0 : Nat) : Int) = 0 by rfl] at ha; omega
      refine ⟨hi0, ?_⟩
      have hpi := hp.parI (by omega) hi
      obtain ⟨m, hm⟩ : ∃ m : Nat, (nS p i).par = m := ⟨_, (Int.toNat_of_nonneg hpi.1).symm⟩
      have hmi : m < p.length := by omega
      have hmem : (i : Int) ∈ kids p m := kids_mem.2 ⟨i, rfl, by omega, hi, hm⟩
      have hpos := cnt_pos hmem ha
      have hge := (cnt_le c 1 (kids p m)).1
      have hw := h m hmi
      have hmany := (hp.many hmi).2
      have hkind := hp.kind hmi
      have hlen : 1 ≤ (kids p m).length := by
        have := List.length_pos_of_mem hmem; omega
      have e1 : stepA p (stepA p i).par = nS p m := by simp only [stepA, Int.toNat_natCast]; rw [hm]; simp
      rw [e1]
      unfold wrong9 at hw
      have e2 : stepA p (m : Int) = nS p m := by simp [stepA]
      simp only [e2] at hw
      generalize (nS p m).kind = kk at *
      unfold kidHi at hmany
      split at hw
      · simp at hw; omega
      · split at hw
        · simp at hw; omega
        · split at hw
          · assumption
          · split at hw
            · simp at hw; omega
            · exfalso
              first | omega | (split at hmany <;> first | omega | (split at hmany <;> omega))
    unfold wrong9 at hf
    unfold fits
    simp only at hf ⊢
    rw [if_neg (by
      rintro ⟨h1, h2⟩
      have := hov h1
      rcases h2 with h2 | h2
      · omega
      · exact h2 this.2)]
    split at hf
    · rename_i h1
      rw [if_pos h1]
      have g1 := (cnt_le c 1 (kids p i)).1
      have g2 := (cnt_le c 2 (kids p i)).1
      simp at hf ⊢; omega
    · rename_i h1
      rw [if_neg h1]
      split at hf
      · rename_i h2
        rw [if_pos h2]; simp at hf ⊢; omega
      · rename_i h2
        rw [if_neg h2]
        split at hf
        · rename_i h3
          rw [if_pos h3]; simp at hf ⊢; omega
        · rename_i h3
          rw [if_neg h3]
          split at hf
          · rename_i h4
            rw [if_pos h4]
            simp at hf ⊢
            refine ⟨hf.1.1, ?_⟩
            have := hf.2
            by_cases ha : actA c (headI (kids p i)) = 1 <;> by_cases hd : dueA c i = 0 <;> simp_all
          · rename_i h4
            rw [if_neg h4]
            split at hf
            · rename_i h5
              rw [if_pos h5]; simp at hf ⊢; exact hf
            · rename_i h5
              rw [if_neg h5]
              split at hf
              · cases hf
              · rename_i h6
                rw [if_neg h6]; simp at hf ⊢; exact hf

def zeros (l : List Int) : Bool := l.all fun n => decide (n = 0)
def smallB (l : List Int) (m : Int) : Bool := l.all fun n => inR n 0 m
theorem smallB_zero (l : List Int) : smallB l 0 = zeros l := by
  unfold smallB zeros
  congr 1; funext n
  rw [Bool.eq_iff_iff, inR_iff]; simp; omega
/-- the code of a chart of a process -/
def chartF (p : List TStep) (c : TChart) : Int :=
  if procF p ≠ 0 then procF p
  else if inR c.status 1 3 = false ∨ inR c.now 0 1000000 = false then 3
  else if varsF c.vars ≠ 0 then varsF c.vars
  else if c.acts.length ≠ p.length ∨ c.dues.length ≠ p.length then 2
  else if smallB c.acts 2 = false ∨ smallB c.dues (c.now + 99) = false then 3
  else if c.status ≠ 1 then (if zeros c.acts = true ∧ zeros c.dues = true then 0 else 1)
  else if actA c 0 = 1 ∧ someWrong p c p.length = false then 0 else 1

/-- open steps -/
def isLeafK (k : Int) : Bool := decide (k = 2) || decide (k = 5) || decide (k = 6)
def openU (p : List TStep) (c : TChart) (i : Nat) : List Int := ((List.range i).filter fun k => isLeafK (nS p k).kind && decide (actA c k = 1)).map fun (k : Nat) => (k : Int)
theorem openU_step (p : List TStep) (c : TChart) (i : Nat) : openU p c (i + 1) = openU p c i ++ (if isLeafK (nS p i).kind = true ∧ actA c i = 1 then [(i : Int)] else []) := by
  unfold openU
  rw [List.range_succ, List.filter_append, List.map_append]
  congr 1
  by_cases h : isLeafK (nS p i).kind = true ∧ actA c i = 1
  · rw [if_pos h]; simp [h]
  · rw [if_neg h]
    rw [List.filter_cons_of_neg (by simpa using h)]; rfl

/-! chapter 11 -/
instance : Inhabited TProc := ⟨⟨[]⟩⟩
instance : Inhabited TChart := ⟨⟨0, 0, [], [], []⟩⟩
instance : Inhabited TInst := ⟨⟨0, default⟩⟩
def procAt (l : List TProc) (i : Nat) : Int := procF (l.getD i default).steps
def procsF (l : List TProc) : Int := if inR l.length 1 3 = false then 2 else sc (procAt l) l.length 0
def instF (e : TEngine) (x : TInst) : Int :=
  if inR x.proc 0 ((e.procs.length : Int) - 1) = false then 3
  else if chartF (e.procs.getD x.proc.toNat default).steps x.chart ≠ 0 then chartF (e.procs.getD x.proc.toNat default).steps x.chart
  else if x.chart.now ≠ e.now then 9 else 0
def instAt (e : TEngine) (i : Nat) : Int := instF e (e.insts.getD i default)
def engF (e : TEngine) : Int :=
  if 6 < e.insts.length then 2
  else if procsF e.procs ≠ 0 then procsF e.procs
  else if inR e.now 0 1000000 = false then 3
  else sc (instAt e) e.insts.length 0

/-! chapter 12 -/
instance : Inhabited TClaim := ⟨⟨0, 0, 0⟩⟩
def stepsOf (e : TEngine) (x : TInst) : List TStep := (e.procs.getD x.proc.toNat default).steps
def openT (e : TEngine) (inst step : Int) : Bool :=
  let x := e.insts.getD inst.toNat default
  inR step 0 (((stepsOf e x).length : Int) - 1) && decide ((stepA (stepsOf e x) step).kind = 2) && decide (actA x.chart step = 1)
def aheadC (a b : TClaim) : Bool := decide (a.inst < b.inst) || decide (a.inst = b.inst) && decide (a.step < b.step)
def claimF (d : TDesk) (i : Nat) : Int :=
  let x := d.claims.getD i default
  if inR x.inst 0 ((d.engine.insts.length : Int) - 1) = false ∨ inR x.user 1 9 = false then 3
  else if openT d.engine x.inst x.step = false then 4
  else if 0 < i ∧ aheadC (d.claims.getD (i - 1) default) x = false then 1 else 0
def deskF (d : TDesk) : Int :=
  if engF d.engine ≠ 0 then engF d.engine
  else if 60 < d.claims.length then 2
  else sc (claimF d) d.claims.length 0
end Go.AM

/-! ### En2 -/
set_option linter.unusedVariables false
set_option linter.unusedSimpArgs false
namespace Go.AM
def nlc (es : Nat) (l : List (List AV)) : AV := match l with
  | [] => .nils
  | x :: r => .osl es (x :: r)
@[go_sem high] theorem nlc_nil (es : Nat) : nlc es [] = .nils := rfl
@[go_sem high] theorem nlc_cons (es : Nat) (x : List AV) (r : List (List AV)) : nlc es (x :: r) = .osl es (x :: r) := rfl
theorem nlc_ne {es : Nat} {l : List (List AV)} (h : l ≠ []) : nlc es l = .osl es l := by cases l; exact absurd rfl h; rfl
@[go_sem high] theorem nlc_tree (es : Nat) (l : List (List AV)) : (nlc es l).tree = true := by cases l <;> rfl
@[go_sem high] theorem nlc_ids (es : Nat) (l : List (List AV)) : (nlc es l).ids = [] := by cases l <;> simp [nlc, AV.ids]
@[go_sem high] theorem nlc_ownd (es : Nat) (l : List (List AV)) : (nlc es l).ownd = owndLL l := by cases l <;> simp [nlc, AV.ownd, owndLL]
@[go_sem high] theorem nlc_le (es : Nat) (l m : List (List AV)) : leA0 (.osl es l) (nlc es m) ↔ l = m ∧ m ≠ [] := by
  cases m with
  | nil => simp [nlc, leA0]
  | cons y r => simp [nlc, leA0]
@[go_sem high] theorem nlc_lenil (es : Nat) (m : List (List AV)) : leA0 .nils (nlc es m) ↔ m = [] := by cases m <;> simp [nlc, leA0]
@[go_sem high] theorem nlc_lenlc (es : Nat) (l : List (List AV)) : leA0 (nlc es l) (nlc es l) := by cases l <;> simp [nlc, leA0]
end Go.AM

/-! ### Pe -/
set_option linter.unusedVariables false
set_option linter.unusedSimpArgs false
namespace Go.AM
attribute [go_sem] renS AV.ren renL
theorem sc_first {f : Nat → Int} {n : Nat} (i j : Nat) (hj : j ≤ i) (hi : i < n) (h0 : ∀ k, j ≤ k → k < i → f k = 0) (hne : f i ≠ 0) : sc f n j = f i := by
  have key : ∀ m j, i - j = m → j ≤ i → (∀ k, j ≤ k → k < i → f k = 0) → sc f n j = f i := by
    intro m
    induction m with
    | zero =>
      intro j h1 h2 _
      obtain rfl : j = i := by omega
      exact sc_hit hi hne
    | succ m ih =>
      intro j h1 h2 h3
      rw [sc_go (by omega) (h3 j (Nat.le_refl _) (by omega))]
      exact ih (j + 1) (by omega) (by omega) fun k h4 h5 => h3 k (by omega) h5
  exact key _ j rfl hj h0
theorem sc_none {f : Nat → Int} {n : Nat} (h : ∀ k, k < n → f k = 0) : sc f n 0 = 0 := by
  have key : ∀ m i, n - i = m → sc f n i = 0 := by
    intro m
    induction m with
    | zero => intro i hi; exact sc_end (by omega)
    | succ m ih => intro i hi; rw [sc_go (by omega) (h i (by omega))]; exact ih _ (by omega)
  exact key _ 0 rfl
theorem upto {f : Nat → Int} {i : Nat} (h : ∀ k, k < i → f k = 0) (h0 : f i = 0) : ∀ k, k < i + 1 → f k = 0 := by
  intro k hk
  rcases Nat.eq_or_lt_of_le (Nat.le_of_lt_succ hk) with rfl | hk
  · exact h0
  · exact h k hk
theorem nA_at {e : List TNode} {i : Nat} {x : TNode} (h : e[i]? = some x) : nA e i = x := by simp [nA, List.getD, h]
theorem nodeAt_at {e : List TNode} {i : Nat} {x : TNode} (h : e[i]? = some x) : nodeAt e i = nodeF x i := by rw [nodeAt, nA_at h]
theorem exprF_len {e : List TNode} (h : inR e.length 1 16 = false) : exprF e = 2 := by rw [exprF, if_pos h]
theorem exprF_len' {e : List TNode} (h : e.length < 1 ∨ 16 < e.length) : exprF e = 2 := exprF_len (inR_not.2 (by omega))
theorem exprF_node {e : List TNode} {i : Nat} (hR : inR e.length 1 16 = true) (hi : i < e.length) (h : ∀ k, k < i → nodeAt e k = 0) (hne : nodeAt e i ≠ 0) : exprF e = nodeAt e i := by
  have hs := sc_first i 0 (Nat.zero_le _) hi (fun k _ hk => h k hk) hne
  rw [exprF, if_neg (by rw [hR]; decide), hs, if_pos hne]
theorem exprF_end {e : List TNode} (hR : inR e.length 1 16 = true) (h : ∀ k, k < e.length → nodeAt e k = 0) : exprF e = if wrongU e e.length = true ∨ szA e (e.length - 1) ≠ e.length then 1 else 0 := by
  rw [exprF, if_neg (by rw [hR]; decide), sc_none h, if_neg (by decide)]
theorem sizesL_at {e : List TNode} {i j : Nat} (h : j < i) : (sizesL e i)[j]? = some (szA e j) := by
  have h1 := sizesL_get e j i h
  have h2 : j < (sizesL e i).length := by rw [sizesL_len]; exact h
  rw [List.getElem?_eq_getElem h2]
  simp only [List.getD, List.getElem?_eq_getElem h2, Option.getD_some] at h1
  rw [h1]
theorem sizesL_succ (e : List TNode) (i : Nat) : sizesL e (i + 1) = sizesL e i ++ [szA e i] := by
  rw [szA_eq]; rfl
theorem szA_at {e : List TNode} {i : Nat} {x : TNode} (h : e[i]? = some x) (hp : nodeF x i = 0) : szA e i = if x.kind = 10 then 1 + szA e x.left.toNat else if isTwoB x.kind then 1 + (szA e x.left.toNat + szA e x.right.toNat) else 1 := by
  have hq := nodeF_parts hp
  rw [szA_eq]
  unfold sizeOf1
  simp only [nA_at h]
  split
  · rename_i h10
    rw [sizesL_get e _ i (hq.1 h10).2]
  · split
    · rename_i h2
      rw [sizesL_get e _ i (hq.2.1 h2).2.1, sizesL_get e _ i (hq.2.1 h2).2.2.2]; omega
    · rfl
theorem wrongU_at {e : List TNode} {i : Nat} {x : TNode} (h : e[i]? = some x) : wrongU e (i + 1) = (wrongU e i || if x.kind = 10 then decide (x.left ≠ (i : Int) - 1)
    else if isTwoB x.kind then decide (x.right ≠ (i : Int) - 1) || decide (x.left ≠ (i : Int) - 1 - szA e x.right.toNat) else false) := by
  rw [wrongU_step]
  unfold wrong1
  simp only [nA_at h]
theorem not_two {k : Int} (h1 : ¬ isTwoB k = true) (h2 : k ≠ 10) (h3 : 1 ≤ k) (h4 : k ≤ 10) : k ≤ 2 := by
  have : isTwoB k = false := by simpa using h1
  rw [isTwoB, inR_not] at this; omega

theorem left_of {x : TNode} {i : Nat} (h : nodeF x i = 0) (h2 : 2 < x.kind) : 0 ≤ x.left ∧ x.left.toNat < i := by
  have hq := nodeF_parts h
  by_cases h10 : x.kind = 10
  · exact hq.1 h10
  · by_cases h3 : isTwoB x.kind = true
    · exact ⟨(hq.2.1 h3).1, (hq.2.1 h3).2.1⟩
    · have := not_two h3 h10 hq.2.2.1 hq.2.2.2.1; omega
theorem upto_at {l : List Nat} {i y : Nat} (h : ∀ k, k < i → l[k]? = some k) (hy : l[i]? = some y) (e : y = i) : ∀ k, k < i + 1 → l[k]? = some k := by
  intro k hk
  rcases Nat.eq_or_lt_of_le (Nat.le_of_lt_succ hk) with rfl | hk
  · rw [hy, e]
  · exact h k hk
/-! types -/
def typesL (e : List TNode) (i : Nat) : List Int := (List.range i).map fun j => ownT (nA e j).kind
theorem typesL_len (e : List TNode) (i : Nat) : (typesL e i).length = i := by simp [typesL]
theorem typesL_at {e : List TNode} {i j : Nat} (h : j < i) : (typesL e i)[j]? = some (ownT (nA e j).kind) := by simp [typesL, h]
theorem typesL_succ (e : List TNode) (i : Nat) : typesL e (i + 1) = typesL e i ++ [ownT (nA e i).kind] := by simp [typesL, List.range_succ]
theorem exprF_zero {e : List TNode} (h : exprF e = 0) : inR e.length 1 16 = true ∧ PartsOk e e.length := by
  unfold exprF at h
  split at h
  · cases h
  split at h
  · exact absurd h (by assumption)
  · rename_i h1 h2
    exact ⟨by simpa using h1, sc_all (by simpa using h2)⟩
theorem typC_f {e : List TNode} (h : exprF e ≠ 0) : typC e = exprF e ∧ typV e = 0 := by
  have h1 : typC e = exprF e := by rw [typC, if_pos h]
  exact ⟨h1, by rw [typV, h1, if_pos h]⟩
theorem typC_b {e : List TNode} (h : exprF e = 0) (hu : typU e e.length = true) : typC e = 7 ∧ typV e = 0 := by
  have h1 : typC e = 7 := by rw [typC, if_neg (by simp [h]), if_pos hu]
  exact ⟨h1, by rw [typV, h1, if_pos (by decide)]⟩
theorem typC_k {e : List TNode} (h : exprF e = 0) (hu : typU e e.length = false) : typC e = 0 ∧ typV e = ownT (nA e (e.length - 1)).kind := by
  have h1 : typC e = 0 := by rw [typC, if_neg (by simp [h]), if_neg (by simp [hu])]
  exact ⟨h1, by rw [typV, h1, if_neg (by decide)]⟩
theorem typU_hit {e : List TNode} {i : Nat} (hi : i < e.length) (h : typBad e i = true) : typU e e.length = true := typU_mono (show i + 1 ≤ e.length by omega) (by rw [typU_step, h]; simp)
theorem typU_go {e : List TNode} {i : Nat} (hu : typU e i = false) (h : typBad e i = false) : typU e (i + 1) = false := by rw [typU_step, hu, h]; rfl

/-! the walk -/
def N1 (n : Nat) : List AV := [.int .i64 (n : Int)]
@[go_sem] theorem N1_eq (n : Nat) : N1 n = [.int .i64 (n : Int)] := rfl
@[go_sem] theorem N1_un (x : Nat) : (N1 x).map unown = N1 x := rfl
@[go_sem high] theorem N1_unL (l : List _) : unownLL (l.map N1) = l.map N1 := unownLL_map N1_un l
@[go_sem high] theorem N1_unM (l : List _) : (l.map N1).map (List.map unown) = l.map N1 := mapun N1_un l
@[go_sem] theorem N1_ownd (x) : owndL (N1 x) = true := by simp [N1, go_sem]
@[go_sem high] theorem N1_owndL (l : List _) : owndLL (l.map N1) = true := owndLL_map N1_ownd l
@[go_sem] theorem N1_ids (x) : idsL (N1 x) = [] := by simp [N1, go_sem]
@[go_sem high] theorem N1_idsL (l : List _) : (l.map N1).flatMap idsL = [] := flatids N1_ids l
theorem N1_tree (a) : ∀ x ∈ N1 a, x.tree = true := by simp [N1, go_sem]
@[go_sem high] theorem N1_treeL (l : List _) : (∀ c ∈ l.map N1, ∀ x ∈ c, AV.tree x = true) ↔ True := maptree N1_tree l
@[go_sem ↓ high] theorem tree_appE (a b : List (List AV)) : (∀ c ∈ a ++ b, ∀ x ∈ c, AV.tree x = true) ↔ (∀ c ∈ a, ∀ x ∈ c, AV.tree x = true) ∧ (∀ c ∈ b, ∀ x ∈ c, AV.tree x = true) := List.forall_mem_append
attribute [go_sem ↓ high] N1_treeL I1_treeL
theorem walkC_len {e : List TNode} : ∀ (f i : Nat) (out : List Nat), (walkC e f i out).length ≤ max out.length (17 + f) := by
  intro f
  induction f with
  | zero => intro i out; simp only [walkC]; omega
  | succ f ih =>
    intro i out
    simp only [walkC]
    split
    · omega
    · simp only [List.length_append, List.length_cons, List.length_nil]
      have h1 : (if 2 < (nA e i).kind then walkC e f (nA e i).left.toNat out else out).length ≤ 17 + f := by
        split
        · have := ih (nA e i).left.toNat out; omega
        · omega
      generalize (if 2 < (nA e i).kind then walkC e f (nA e i).left.toNat out else out) = o1 at *
      split
      · have := ih (nA e i).right.toNat o1; omega
      · omega
theorem wkF_len {e : List TNode} {i : Nat} {out : List Nat} (h : out.length ≤ 40) (hi : i < 17) : (wkF e i out).length ≤ 40 := by
  have := walkC_len (e := e) (i + 1) i out
  unfold wkF; omega
theorem wk_ne_len {l : List Nat} {n : Nat} (h : l.length ≠ n) : l ≠ List.range n := by rintro rfl; simp at h
theorem wk_ne_at {l : List Nat} {n i y : Nat} (h : l[i]? = some y) (hy : y ≠ i) : l ≠ List.range n := by
  rintro rfl
  obtain ⟨h1, h2⟩ := List.getElem?_eq_some_iff.1 h
  simp at h2; omega
theorem wk_eq {l : List Nat} {n : Nat} (hl : l.length = n) (h : ∀ k, k < l.length → l[k]? = some k) : l = List.range n := by
  apply List.ext_getElem?
  intro k
  by_cases hk : k < l.length
  · rw [h k hk, List.getElem?_range (by omega)]
  · rw [List.getElem?_eq_none (by omega), List.getElem?_eq_none (by simp; omega)]
theorem exprF_wk {e : List TNode} (hR : inR e.length 1 16 = true) (h : ∀ k, k < e.length → nodeAt e k = 0) : exprF e = if wkF e (e.length - 1) [] = List.range e.length then 0 else 1 := by
  have hl := inR_iff.1 hR
  rw [exprF_end hR h]
  have hw := wk_iff (e := e) (n := e.length) h (by omega) (by omega)
  by_cases h1 : wkF e (e.length - 1) [] = List.range e.length
  · have h2 := hw.1 h1
    rw [if_pos h1, if_neg (by rintro (h3 | h3) <;> simp_all)]
  · rw [if_neg h1, if_pos]
    by_cases h3 : wrongU e e.length = true
    · exact Or.inl h3
    · exact Or.inr fun h4 => h1 (hw.2 ⟨by simpa using h3, h4⟩)
end Go.AM

