/- Joined texts: Enc Am23 Pu Ty Rd Pv Pw Pj Pk Pl Am24 Am27 Pd T1 T2 S1 W6 M1 J1 J2. -/
import Derived.Test.YtlfgkifkhkhcnaaB1
import Derived.Test.YtlfgkifkhkhcnaaB2
import Derived.ChangeArms
import Derived.WideKeyArgs
import Derived.Test.YtlfgkifkhkhcnaaProg
set_option linter.unusedVariables false
set_option linter.unusedSimpArgs false
/-! ### Enc -/
set_option linter.unusedVariables false
set_option linter.unusedSimpArgs false
namespace Go.AM

def I1 (n : Int) : List AV := [.int .i64 n]
def B1 (b : UInt8) : List AV := [.int .u8 b.toNat]
def S1 (s : List UInt8) : List AV := [.str s]
@[go_sem] theorem I1_eq (n : Int) : I1 n = [.int .i64 n] := rfl
@[go_sem] theorem B1_eq (n : UInt8) : B1 n = [.int .u8 n.toNat] := rfl
@[go_sem] theorem S1_eq (n : List UInt8) : S1 n = [.str n] := rfl
/-- an owned slice, or an empty one -/
def owc (es : Nat) (l : List (List AV)) : AV := match l with
  | [] => .isl es []
  | x :: r => .osl es (x :: r)
@[go_sem high] theorem owc_nil (es : Nat) : owc es [] = .isl es [] := rfl
@[go_sem high] theorem owc_cons (es : Nat) (x : List AV) (r : List (List AV)) : owc es (x :: r) = .osl es (x :: r) := rfl
theorem owc_ne {es : Nat} {l : List (List AV)} (h : l ≠ []) : owc es l = .osl es l := by cases l; exact absurd rfl h; rfl
@[go_sem high] theorem owc_tree (es : Nat) (l : List (List AV)) : (owc es l).tree = true := by cases l <;> rfl
@[go_sem high] theorem owc_ids (es : Nat) (l : List (List AV)) : (owc es l).ids = [] := by cases l <;> simp [owc, AV.ids]
@[go_sem high] theorem owc_unown (es : Nat) (l : List (List AV)) : unown (owc es l) = .isl es (unownLL l) := by cases l <;> simp [owc, unown, unownLL]
@[go_sem high] theorem owc_ownd (es : Nat) (l : List (List AV)) : (owc es l).ownd = owndLL l := by cases l <;> simp [owc, AV.ownd, owndLL]
@[go_sem high] theorem owc_le (es : Nat) (l : List (List AV)) : leA0 (.osl es l) (owc es l) := by cases l <;> simp [owc, leA0]
@[go_sem high] theorem owc_le' (es : Nat) (l m : List (List AV)) : leA0 (.osl es l) (owc es m) ↔ l = m := by cases m <;> simp [owc, leA0]
@[go_sem high] theorem owc_lenil (es : Nat) (m : List (List AV)) : leA0 .nils (owc es m) ↔ m = [] := by cases m <;> simp [owc, leA0]
@[go_sem high] theorem owc_lezsl (es : Nat) (m : List (List AV)) : leA0 .zsl (owc es m) ↔ m = [] := by cases m <;> simp [owc, leA0]
@[go_sem high] theorem owc_leisl (es : Nat) (m : List (List AV)) : leA0 (.isl es []) (owc es m) ↔ m = [] := by cases m <;> simp [owc, leA0]
@[go_sem high] theorem owc_leowc (es : Nat) (l : List (List AV)) : leA0 (owc es l) (owc es l) := by cases l <;> simp [owc, leA0]
theorem unownLL_map {α : Type} {f g : α → List AV} (h : ∀ x, (f x).map unown = g x) (l : List α) : unownLL (l.map f) = l.map g := by
  rw [unownLL_eq]; simp [h]
theorem mapun {α : Type} {f g : α → List AV} (h : ∀ x, (f x).map unown = g x) (l : List α) : (l.map f).map (List.map unown) = l.map g := by simp [h]
theorem owndLL_map {α : Type} {f : α → List AV} (h : ∀ x, owndL (f x) = true) (l : List α) : owndLL (l.map f) = true := by rw [owndLL_eq, List.all_map]; exact List.all_eq_true.2 fun x _ => by simpa [owndL_eq] using h x
theorem flatids {α : Type} {f : α → List AV} (h : ∀ x, idsL (f x) = []) (l : List α) : (l.map f).flatMap idsL = [] := by simp [h]
@[go_sem] theorem flat_set {l : List (List AV)} {i : Nat} {c : List AV} (h : l.flatMap idsL = []) (hc : idsL c = []) : (l.set i c).flatMap idsL = [] := by
  simp only [List.flatMap_eq_nil_iff] at h ⊢
  intro x hx
  rcases List.mem_or_eq_of_mem_set hx with hx | rfl
  · exact h x hx
  · exact hc
theorem maptree {α : Type} {f : α → List AV} (h : ∀ a, ∀ x ∈ f a, x.tree = true) (l : List α) : (∀ c ∈ l.map f, ∀ x ∈ c, AV.tree x = true) ↔ True := by simpa using fun a _ => h a
@[go_sem] theorem take_len_map {α β : Type} (f : α → β) (l : List α) : List.take l.length (l.map f) = l.map f := List.take_of_length_le (by simp)
@[go_sem] theorem I1_un (x : Int) : (I1 x).map unown = I1 x := rfl
@[go_sem] theorem B1_un (x : UInt8) : (B1 x).map unown = B1 x := rfl
@[go_sem] theorem S1_un (x : List UInt8) : (S1 x).map unown = S1 x := rfl

@[go_sem high] theorem I1_unL (l : List _) : unownLL (l.map I1) = l.map I1 := unownLL_map I1_un l
@[go_sem high] theorem I1_unM (l : List _) : (l.map I1).map (List.map unown) = l.map I1 := mapun I1_un l
@[go_sem] theorem I1_ownd (x) : owndL (I1 x) = true := by simp [I1, go_sem]
@[go_sem high] theorem I1_owndL (l : List _) : owndLL (l.map I1) = true := owndLL_map I1_ownd l
@[go_sem] theorem I1_ids (x) : idsL (I1 x) = [] := by simp [I1, go_sem]
@[go_sem high] theorem I1_idsL (l : List _) : (l.map I1).flatMap idsL = [] := flatids I1_ids l
theorem I1_tree (a) : ∀ x ∈ I1 a, x.tree = true := by simp [I1, go_sem]
@[go_sem high] theorem I1_treeL (l : List _) : (∀ c ∈ l.map I1, ∀ x ∈ c, AV.tree x = true) ↔ True := maptree I1_tree l
@[go_sem high] theorem B1_unL (l : List _) : unownLL (l.map B1) = l.map B1 := unownLL_map B1_un l
@[go_sem high] theorem B1_unM (l : List _) : (l.map B1).map (List.map unown) = l.map B1 := mapun B1_un l
@[go_sem] theorem B1_ownd (x) : owndL (B1 x) = true := by simp [B1, go_sem]
@[go_sem high] theorem B1_owndL (l : List _) : owndLL (l.map B1) = true := owndLL_map B1_ownd l
@[go_sem] theorem B1_ids (x) : idsL (B1 x) = [] := by simp [B1, go_sem]
@[go_sem high] theorem B1_idsL (l : List _) : (l.map B1).flatMap idsL = [] := flatids B1_ids l
theorem B1_tree (a) : ∀ x ∈ B1 a, x.tree = true := by simp [B1, go_sem]
@[go_sem high] theorem B1_treeL (l : List _) : (∀ c ∈ l.map B1, ∀ x ∈ c, AV.tree x = true) ↔ True := maptree B1_tree l
@[go_sem high] theorem S1_unL (l : List _) : unownLL (l.map S1) = l.map S1 := unownLL_map S1_un l
@[go_sem high] theorem S1_unM (l : List _) : (l.map S1).map (List.map unown) = l.map S1 := mapun S1_un l
@[go_sem] theorem S1_ownd (x) : owndL (S1 x) = true := by simp [S1, go_sem]
@[go_sem high] theorem S1_owndL (l : List _) : owndLL (l.map S1) = true := owndLL_map S1_ownd l
@[go_sem] theorem S1_ids (x) : idsL (S1 x) = [] := by simp [S1, go_sem]
@[go_sem high] theorem S1_idsL (l : List _) : (l.map S1).flatMap idsL = [] := flatids S1_ids l
theorem S1_tree (a) : ∀ x ∈ S1 a, x.tree = true := by simp [S1, go_sem]
@[go_sem high] theorem S1_treeL (l : List _) : (∀ c ∈ l.map S1, ∀ x ∈ c, AV.tree x = true) ↔ True := maptree S1_tree l

/-- impl.Node -/
structure TNode where
  kind : Int
  val : Int
  left : Int
  right : Int
  deriving DecidableEq
def TNode.ro (x : TNode) : List AV := [.int .i64 x.kind, .int .i64 x.val, .int .i64 x.left, .int .i64 x.right]
@[go_sem] theorem TNode_ro_eq (x : TNode) : x.ro = [.int .i64 x.kind, .int .i64 x.val, .int .i64 x.left, .int .i64 x.right] := rfl
theorem TNode_ro_un (x : TNode) : x.ro.map unown = x.ro := by simp [TNode.ro, go_sem]
@[go_sem high] theorem TNode_ro_unL (l : List _) : unownLL (l.map TNode.ro) = l.map TNode.ro := unownLL_map TNode_ro_un l
@[go_sem high] theorem TNode_ro_unM (l : List _) : (l.map TNode.ro).map (List.map unown) = l.map TNode.ro := mapun TNode_ro_un l
@[go_sem] theorem TNode_ro_ownd (x) : owndL (TNode.ro x) = true := by simp [TNode.ro, go_sem]
@[go_sem high] theorem TNode_ro_owndL (l : List _) : owndLL (l.map TNode.ro) = true := owndLL_map TNode_ro_ownd l
@[go_sem] theorem TNode_ro_ids (x) : idsL (TNode.ro x) = [] := by simp [TNode.ro, go_sem]
@[go_sem high] theorem TNode_ro_idsL (l : List _) : (l.map TNode.ro).flatMap idsL = [] := flatids TNode_ro_ids l
theorem TNode_ro_tree (a) : ∀ x ∈ TNode.ro a, x.tree = true := by simp [TNode.ro, go_sem]
@[go_sem high] theorem TNode_ro_treeL (l : List _) : (∀ c ∈ l.map TNode.ro, ∀ x ∈ c, AV.tree x = true) ↔ True := maptree TNode_ro_tree l

/-- impl.Step -/
structure TStep where
  kind : Int
  par : Int
  name : List UInt8
  arg : Int
  cond : List TNode
  expr : List TNode
  deriving DecidableEq
def TStep.ro (x : TStep) : List AV := [.int .i64 x.kind, .int .i64 x.par, .str x.name, .int .i64 x.arg, .isl 4 (x.cond.map TNode.ro), .isl 4 (x.expr.map TNode.ro)]
@[go_sem] theorem TStep_ro_eq (x : TStep) : x.ro = [.int .i64 x.kind, .int .i64 x.par, .str x.name, .int .i64 x.arg, .isl 4 (x.cond.map TNode.ro), .isl 4 (x.expr.map TNode.ro)] := rfl
def TStep.oc (x : TStep) : List AV := [.int .i64 x.kind, .int .i64 x.par, .str x.name, .int .i64 x.arg, owc 4 (x.cond.map TNode.ro), owc 4 (x.expr.map TNode.ro)]
theorem TStep_oc_un (x : TStep) : x.oc.map unown = x.ro := by simp [TStep.oc, TStep.ro, go_sem]
@[go_sem] theorem TStep_oc_eq (x : TStep) : x.oc = [.int .i64 x.kind, .int .i64 x.par, .str x.name, .int .i64 x.arg, owc 4 (x.cond.map TNode.ro), owc 4 (x.expr.map TNode.ro)] := rfl
@[go_sem high] theorem TStep_oc_unL (l : List _) : unownLL (l.map TStep.oc) = l.map TStep.ro := unownLL_map TStep_oc_un l
@[go_sem high] theorem TStep_oc_unM (l : List _) : (l.map TStep.oc).map (List.map unown) = l.map TStep.ro := mapun TStep_oc_un l
@[go_sem] theorem TStep_oc_ownd (x) : owndL (TStep.oc x) = true := by simp [TStep.oc, go_sem]
@[go_sem high] theorem TStep_oc_owndL (l : List _) : owndLL (l.map TStep.oc) = true := owndLL_map TStep_oc_ownd l
@[go_sem] theorem TStep_oc_ids (x) : idsL (TStep.oc x) = [] := by simp [TStep.oc, go_sem]
@[go_sem high] theorem TStep_oc_idsL (l : List _) : (l.map TStep.oc).flatMap idsL = [] := flatids TStep_oc_ids l
theorem TStep_oc_tree (a) : ∀ x ∈ TStep.oc a, x.tree = true := by simp [TStep.oc, go_sem]
@[go_sem high] theorem TStep_oc_treeL (l : List _) : (∀ c ∈ l.map TStep.oc, ∀ x ∈ c, AV.tree x = true) ↔ True := maptree TStep_oc_tree l
def TStep.sz (x : TStep) : Nat := x.name.length + x.cond.length + x.expr.length

/-- impl.GNode -/
structure TGNode where
  kind : Int
  step : Int
  name : List UInt8
  arg : Int
  expr : List TNode
  deriving DecidableEq
def TGNode.ro (x : TGNode) : List AV := [.int .i64 x.kind, .int .i64 x.step, .str x.name, .int .i64 x.arg, .isl 4 (x.expr.map TNode.ro)]
@[go_sem] theorem TGNode_ro_eq (x : TGNode) : x.ro = [.int .i64 x.kind, .int .i64 x.step, .str x.name, .int .i64 x.arg, .isl 4 (x.expr.map TNode.ro)] := rfl
def TGNode.oc (x : TGNode) : List AV := [.int .i64 x.kind, .int .i64 x.step, .str x.name, .int .i64 x.arg, owc 4 (x.expr.map TNode.ro)]
theorem TGNode_oc_un (x : TGNode) : x.oc.map unown = x.ro := by simp [TGNode.oc, TGNode.ro, go_sem]
@[go_sem] theorem TGNode_oc_eq (x : TGNode) : x.oc = [.int .i64 x.kind, .int .i64 x.step, .str x.name, .int .i64 x.arg, owc 4 (x.expr.map TNode.ro)] := rfl
@[go_sem high] theorem TGNode_oc_unL (l : List _) : unownLL (l.map TGNode.oc) = l.map TGNode.ro := unownLL_map TGNode_oc_un l
@[go_sem high] theorem TGNode_oc_unM (l : List _) : (l.map TGNode.oc).map (List.map unown) = l.map TGNode.ro := mapun TGNode_oc_un l
@[go_sem] theorem TGNode_oc_ownd (x) : owndL (TGNode.oc x) = true := by simp [TGNode.oc, go_sem]
@[go_sem high] theorem TGNode_oc_owndL (l : List _) : owndLL (l.map TGNode.oc) = true := owndLL_map TGNode_oc_ownd l
@[go_sem] theorem TGNode_oc_ids (x) : idsL (TGNode.oc x) = [] := by simp [TGNode.oc, go_sem]
@[go_sem high] theorem TGNode_oc_idsL (l : List _) : (l.map TGNode.oc).flatMap idsL = [] := flatids TGNode_oc_ids l
theorem TGNode_oc_tree (a) : ∀ x ∈ TGNode.oc a, x.tree = true := by simp [TGNode.oc, go_sem]
@[go_sem high] theorem TGNode_oc_treeL (l : List _) : (∀ c ∈ l.map TGNode.oc, ∀ x ∈ c, AV.tree x = true) ↔ True := maptree TGNode_oc_tree l
def TGNode.sz (x : TGNode) : Nat := x.name.length + x.expr.length

/-- impl.Flow -/
structure TFlow where
  frm : Int
  to : Int
  cond : List TNode
  deriving DecidableEq
def TFlow.ro (x : TFlow) : List AV := [.int .i64 x.frm, .int .i64 x.to, .isl 4 (x.cond.map TNode.ro)]
@[go_sem] theorem TFlow_ro_eq (x : TFlow) : x.ro = [.int .i64 x.frm, .int .i64 x.to, .isl 4 (x.cond.map TNode.ro)] := rfl
def TFlow.oc (x : TFlow) : List AV := [.int .i64 x.frm, .int .i64 x.to, owc 4 (x.cond.map TNode.ro)]
theorem TFlow_oc_un (x : TFlow) : x.oc.map unown = x.ro := by simp [TFlow.oc, TFlow.ro, go_sem]
@[go_sem] theorem TFlow_oc_eq (x : TFlow) : x.oc = [.int .i64 x.frm, .int .i64 x.to, owc 4 (x.cond.map TNode.ro)] := rfl
@[go_sem high] theorem TFlow_oc_unL (l : List _) : unownLL (l.map TFlow.oc) = l.map TFlow.ro := unownLL_map TFlow_oc_un l
@[go_sem high] theorem TFlow_oc_unM (l : List _) : (l.map TFlow.oc).map (List.map unown) = l.map TFlow.ro := mapun TFlow_oc_un l
@[go_sem] theorem TFlow_oc_ownd (x) : owndL (TFlow.oc x) = true := by simp [TFlow.oc, go_sem]
@[go_sem high] theorem TFlow_oc_owndL (l : List _) : owndLL (l.map TFlow.oc) = true := owndLL_map TFlow_oc_ownd l
@[go_sem] theorem TFlow_oc_ids (x) : idsL (TFlow.oc x) = [] := by simp [TFlow.oc, go_sem]
@[go_sem high] theorem TFlow_oc_idsL (l : List _) : (l.map TFlow.oc).flatMap idsL = [] := flatids TFlow_oc_ids l
theorem TFlow_oc_tree (a) : ∀ x ∈ TFlow.oc a, x.tree = true := by simp [TFlow.oc, go_sem]
@[go_sem high] theorem TFlow_oc_treeL (l : List _) : (∀ c ∈ l.map TFlow.oc, ∀ x ∈ c, AV.tree x = true) ↔ True := maptree TFlow_oc_tree l
def TFlow.sz (x : TFlow) : Nat := x.cond.length

/-- impl.Graph -/
structure TGraph where
  nodes : List TGNode
  flows : List TFlow
  deriving DecidableEq
def TGraph.ro (x : TGraph) : List AV := [.isl 5 (x.nodes.map TGNode.ro), .isl 3 (x.flows.map TFlow.ro)]
@[go_sem] theorem TGraph_ro_eq (x : TGraph) : x.ro = [.isl 5 (x.nodes.map TGNode.ro), .isl 3 (x.flows.map TFlow.ro)] := rfl
def TGraph.oc (x : TGraph) : List AV := [owc 5 (x.nodes.map TGNode.oc), owc 3 (x.flows.map TFlow.oc)]
theorem TGraph_oc_un (x : TGraph) : x.oc.map unown = x.ro := by simp [TGraph.oc, TGraph.ro, go_sem]
@[go_sem] theorem TGraph_oc_eq (x : TGraph) : x.oc = [owc 5 (x.nodes.map TGNode.oc), owc 3 (x.flows.map TFlow.oc)] := rfl
@[go_sem high] theorem TGraph_oc_unL (l : List _) : unownLL (l.map TGraph.oc) = l.map TGraph.ro := unownLL_map TGraph_oc_un l
@[go_sem high] theorem TGraph_oc_unM (l : List _) : (l.map TGraph.oc).map (List.map unown) = l.map TGraph.ro := mapun TGraph_oc_un l
@[go_sem] theorem TGraph_oc_ownd (x) : owndL (TGraph.oc x) = true := by simp [TGraph.oc, go_sem]
@[go_sem high] theorem TGraph_oc_owndL (l : List _) : owndLL (l.map TGraph.oc) = true := owndLL_map TGraph_oc_ownd l
@[go_sem] theorem TGraph_oc_ids (x) : idsL (TGraph.oc x) = [] := by simp [TGraph.oc, go_sem]
@[go_sem high] theorem TGraph_oc_idsL (l : List _) : (l.map TGraph.oc).flatMap idsL = [] := flatids TGraph_oc_ids l
theorem TGraph_oc_tree (a) : ∀ x ∈ TGraph.oc a, x.tree = true := by simp [TGraph.oc, go_sem]
@[go_sem high] theorem TGraph_oc_treeL (l : List _) : (∀ c ∈ l.map TGraph.oc, ∀ x ∈ c, AV.tree x = true) ↔ True := maptree TGraph_oc_tree l
def TGraph.sz (x : TGraph) : Nat := (x.nodes.length + (x.nodes.map TGNode.sz).sum) + (x.flows.length + (x.flows.map TFlow.sz).sum)

/-- impl.Run -/
structure TRun where
  status : Int
  now : Int
  vars : List Int
  marks : List Int
  dues : List Int
  deriving DecidableEq
def TRun.ro (x : TRun) : List AV := [.int .i64 x.status, .int .i64 x.now, .isl 1 (x.vars.map I1), .isl 1 (x.marks.map I1), .isl 1 (x.dues.map I1)]
@[go_sem] theorem TRun_ro_eq (x : TRun) : x.ro = [.int .i64 x.status, .int .i64 x.now, .isl 1 (x.vars.map I1), .isl 1 (x.marks.map I1), .isl 1 (x.dues.map I1)] := rfl
def TRun.oc (x : TRun) : List AV := [.int .i64 x.status, .int .i64 x.now, owc 1 (x.vars.map I1), owc 1 (x.marks.map I1), owc 1 (x.dues.map I1)]
theorem TRun_oc_un (x : TRun) : x.oc.map unown = x.ro := by simp [TRun.oc, TRun.ro, go_sem]
@[go_sem] theorem TRun_oc_eq (x : TRun) : x.oc = [.int .i64 x.status, .int .i64 x.now, owc 1 (x.vars.map I1), owc 1 (x.marks.map I1), owc 1 (x.dues.map I1)] := rfl
@[go_sem high] theorem TRun_oc_unL (l : List _) : unownLL (l.map TRun.oc) = l.map TRun.ro := unownLL_map TRun_oc_un l
@[go_sem high] theorem TRun_oc_unM (l : List _) : (l.map TRun.oc).map (List.map unown) = l.map TRun.ro := mapun TRun_oc_un l
@[go_sem] theorem TRun_oc_ownd (x) : owndL (TRun.oc x) = true := by simp [TRun.oc, go_sem]
@[go_sem high] theorem TRun_oc_owndL (l : List _) : owndLL (l.map TRun.oc) = true := owndLL_map TRun_oc_ownd l
@[go_sem] theorem TRun_oc_ids (x) : idsL (TRun.oc x) = [] := by simp [TRun.oc, go_sem]
@[go_sem high] theorem TRun_oc_idsL (l : List _) : (l.map TRun.oc).flatMap idsL = [] := flatids TRun_oc_ids l
theorem TRun_oc_tree (a) : ∀ x ∈ TRun.oc a, x.tree = true := by simp [TRun.oc, go_sem]
@[go_sem high] theorem TRun_oc_treeL (l : List _) : (∀ c ∈ l.map TRun.oc, ∀ x ∈ c, AV.tree x = true) ↔ True := maptree TRun_oc_tree l
def TRun.sz (x : TRun) : Nat := x.vars.length + x.marks.length + x.dues.length

/-- impl.Chart -/
structure TChart where
  status : Int
  now : Int
  vars : List Int
  acts : List Int
  dues : List Int
  deriving DecidableEq
def TChart.ro (x : TChart) : List AV := [.int .i64 x.status, .int .i64 x.now, .isl 1 (x.vars.map I1), .isl 1 (x.acts.map I1), .isl 1 (x.dues.map I1)]
@[go_sem] theorem TChart_ro_eq (x : TChart) : x.ro = [.int .i64 x.status, .int .i64 x.now, .isl 1 (x.vars.map I1), .isl 1 (x.acts.map I1), .isl 1 (x.dues.map I1)] := rfl
def TChart.oc (x : TChart) : List AV := [.int .i64 x.status, .int .i64 x.now, owc 1 (x.vars.map I1), owc 1 (x.acts.map I1), owc 1 (x.dues.map I1)]
theorem TChart_oc_un (x : TChart) : x.oc.map unown = x.ro := by simp [TChart.oc, TChart.ro, go_sem]
@[go_sem] theorem TChart_oc_eq (x : TChart) : x.oc = [.int .i64 x.status, .int .i64 x.now, owc 1 (x.vars.map I1), owc 1 (x.acts.map I1), owc 1 (x.dues.map I1)] := rfl
@[go_sem high] theorem TChart_oc_unL (l : List _) : unownLL (l.map TChart.oc) = l.map TChart.ro := unownLL_map TChart_oc_un l
@[go_sem high] theorem TChart_oc_unM (l : List _) : (l.map TChart.oc).map (List.map unown) = l.map TChart.ro := mapun TChart_oc_un l
@[go_sem] theorem TChart_oc_ownd (x) : owndL (TChart.oc x) = true := by simp [TChart.oc, go_sem]
@[go_sem high] theorem TChart_oc_owndL (l : List _) : owndLL (l.map TChart.oc) = true := owndLL_map TChart_oc_ownd l
@[go_sem] theorem TChart_oc_ids (x) : idsL (TChart.oc x) = [] := by simp [TChart.oc, go_sem]
@[go_sem high] theorem TChart_oc_idsL (l : List _) : (l.map TChart.oc).flatMap idsL = [] := flatids TChart_oc_ids l
theorem TChart_oc_tree (a) : ∀ x ∈ TChart.oc a, x.tree = true := by simp [TChart.oc, go_sem]
@[go_sem high] theorem TChart_oc_treeL (l : List _) : (∀ c ∈ l.map TChart.oc, ∀ x ∈ c, AV.tree x = true) ↔ True := maptree TChart_oc_tree l
def TChart.sz (x : TChart) : Nat := x.vars.length + x.acts.length + x.dues.length

/-- impl.Act -/
structure TAct where
  kind : Int
  at_ : Int
  vars : List Int
  deriving DecidableEq
def TAct.ro (x : TAct) : List AV := [.int .i64 x.kind, .int .i64 x.at_, .isl 1 (x.vars.map I1)]
@[go_sem] theorem TAct_ro_eq (x : TAct) : x.ro = [.int .i64 x.kind, .int .i64 x.at_, .isl 1 (x.vars.map I1)] := rfl
def TAct.oc (x : TAct) : List AV := [.int .i64 x.kind, .int .i64 x.at_, owc 1 (x.vars.map I1)]
theorem TAct_oc_un (x : TAct) : x.oc.map unown = x.ro := by simp [TAct.oc, TAct.ro, go_sem]
@[go_sem] theorem TAct_oc_eq (x : TAct) : x.oc = [.int .i64 x.kind, .int .i64 x.at_, owc 1 (x.vars.map I1)] := rfl
@[go_sem high] theorem TAct_oc_unL (l : List _) : unownLL (l.map TAct.oc) = l.map TAct.ro := unownLL_map TAct_oc_un l
@[go_sem high] theorem TAct_oc_unM (l : List _) : (l.map TAct.oc).map (List.map unown) = l.map TAct.ro := mapun TAct_oc_un l
@[go_sem] theorem TAct_oc_ownd (x) : owndL (TAct.oc x) = true := by simp [TAct.oc, go_sem]
@[go_sem high] theorem TAct_oc_owndL (l : List _) : owndLL (l.map TAct.oc) = true := owndLL_map TAct_oc_ownd l
@[go_sem] theorem TAct_oc_ids (x) : idsL (TAct.oc x) = [] := by simp [TAct.oc, go_sem]
@[go_sem high] theorem TAct_oc_idsL (l : List _) : (l.map TAct.oc).flatMap idsL = [] := flatids TAct_oc_ids l
theorem TAct_oc_tree (a) : ∀ x ∈ TAct.oc a, x.tree = true := by simp [TAct.oc, go_sem]
@[go_sem high] theorem TAct_oc_treeL (l : List _) : (∀ c ∈ l.map TAct.oc, ∀ x ∈ c, AV.tree x = true) ↔ True := maptree TAct_oc_tree l
def TAct.sz (x : TAct) : Nat := x.vars.length

/-- impl.Proc -/
structure TProc where
  steps : List TStep
  deriving DecidableEq
def TProc.ro (x : TProc) : List AV := [.isl 6 (x.steps.map TStep.ro)]
@[go_sem] theorem TProc_ro_eq (x : TProc) : x.ro = [.isl 6 (x.steps.map TStep.ro)] := rfl
def TProc.oc (x : TProc) : List AV := [owc 6 (x.steps.map TStep.oc)]
theorem TProc_oc_un (x : TProc) : x.oc.map unown = x.ro := by simp [TProc.oc, TProc.ro, go_sem]
@[go_sem] theorem TProc_oc_eq (x : TProc) : x.oc = [owc 6 (x.steps.map TStep.oc)] := rfl
@[go_sem high] theorem TProc_oc_unL (l : List _) : unownLL (l.map TProc.oc) = l.map TProc.ro := unownLL_map TProc_oc_un l
@[go_sem high] theorem TProc_oc_unM (l : List _) : (l.map TProc.oc).map (List.map unown) = l.map TProc.ro := mapun TProc_oc_un l
@[go_sem] theorem TProc_oc_ownd (x) : owndL (TProc.oc x) = true := by simp [TProc.oc, go_sem]
@[go_sem high] theorem TProc_oc_owndL (l : List _) : owndLL (l.map TProc.oc) = true := owndLL_map TProc_oc_ownd l
@[go_sem] theorem TProc_oc_ids (x) : idsL (TProc.oc x) = [] := by simp [TProc.oc, go_sem]
@[go_sem high] theorem TProc_oc_idsL (l : List _) : (l.map TProc.oc).flatMap idsL = [] := flatids TProc_oc_ids l
theorem TProc_oc_tree (a) : ∀ x ∈ TProc.oc a, x.tree = true := by simp [TProc.oc, go_sem]
@[go_sem high] theorem TProc_oc_treeL (l : List _) : (∀ c ∈ l.map TProc.oc, ∀ x ∈ c, AV.tree x = true) ↔ True := maptree TProc_oc_tree l
def TProc.sz (x : TProc) : Nat := (x.steps.length + (x.steps.map TStep.sz).sum)

/-- impl.Inst -/
structure TInst where
  proc : Int
  chart : TChart
  deriving DecidableEq
def TInst.ro (x : TInst) : List AV := [.int .i64 x.proc, .int .i64 x.chart.status, .int .i64 x.chart.now, .isl 1 (x.chart.vars.map I1), .isl 1 (x.chart.acts.map I1), .isl 1 (x.chart.dues.map I1)]
@[go_sem] theorem TInst_ro_eq (x : TInst) : x.ro = [.int .i64 x.proc, .int .i64 x.chart.status, .int .i64 x.chart.now, .isl 1 (x.chart.vars.map I1), .isl 1 (x.chart.acts.map I1), .isl 1 (x.chart.dues.map I1)] := rfl
def TInst.oc (x : TInst) : List AV := [.int .i64 x.proc, .int .i64 x.chart.status, .int .i64 x.chart.now, owc 1 (x.chart.vars.map I1), owc 1 (x.chart.acts.map I1), owc 1 (x.chart.dues.map I1)]
theorem TInst_oc_un (x : TInst) : x.oc.map unown = x.ro := by simp [TInst.oc, TInst.ro, go_sem]
@[go_sem] theorem TInst_oc_eq (x : TInst) : x.oc = [.int .i64 x.proc, .int .i64 x.chart.status, .int .i64 x.chart.now, owc 1 (x.chart.vars.map I1), owc 1 (x.chart.acts.map I1), owc 1 (x.chart.dues.map I1)] := rfl
@[go_sem high] theorem TInst_oc_unL (l : List _) : unownLL (l.map TInst.oc) = l.map TInst.ro := unownLL_map TInst_oc_un l
@[go_sem high] theorem TInst_oc_unM (l : List _) : (l.map TInst.oc).map (List.map unown) = l.map TInst.ro := mapun TInst_oc_un l
@[go_sem] theorem TInst_oc_ownd (x) : owndL (TInst.oc x) = true := by simp [TInst.oc, go_sem]
@[go_sem high] theorem TInst_oc_owndL (l : List _) : owndLL (l.map TInst.oc) = true := owndLL_map TInst_oc_ownd l
@[go_sem] theorem TInst_oc_ids (x) : idsL (TInst.oc x) = [] := by simp [TInst.oc, go_sem]
@[go_sem high] theorem TInst_oc_idsL (l : List _) : (l.map TInst.oc).flatMap idsL = [] := flatids TInst_oc_ids l
theorem TInst_oc_tree (a) : ∀ x ∈ TInst.oc a, x.tree = true := by simp [TInst.oc, go_sem]
@[go_sem high] theorem TInst_oc_treeL (l : List _) : (∀ c ∈ l.map TInst.oc, ∀ x ∈ c, AV.tree x = true) ↔ True := maptree TInst_oc_tree l
def TInst.sz (x : TInst) : Nat := x.chart.sz

/-- impl.Engine -/
structure TEngine where
  procs : List TProc
  insts : List TInst
  now : Int
  deriving DecidableEq
def TEngine.ro (x : TEngine) : List AV := [.isl 1 (x.procs.map TProc.ro), .isl 6 (x.insts.map TInst.ro), .int .i64 x.now]
@[go_sem] theorem TEngine_ro_eq (x : TEngine) : x.ro = [.isl 1 (x.procs.map TProc.ro), .isl 6 (x.insts.map TInst.ro), .int .i64 x.now] := rfl
def TEngine.oc (x : TEngine) : List AV := [owc 1 (x.procs.map TProc.oc), owc 6 (x.insts.map TInst.oc), .int .i64 x.now]
theorem TEngine_oc_un (x : TEngine) : x.oc.map unown = x.ro := by simp [TEngine.oc, TEngine.ro, go_sem]
@[go_sem] theorem TEngine_oc_eq (x : TEngine) : x.oc = [owc 1 (x.procs.map TProc.oc), owc 6 (x.insts.map TInst.oc), .int .i64 x.now] := rfl
@[go_sem high] theorem TEngine_oc_unL (l : List _) : unownLL (l.map TEngine.oc) = l.map TEngine.ro := unownLL_map TEngine_oc_un l
@[go_sem high] theorem TEngine_oc_unM (l : List _) : (l.map TEngine.oc).map (List.map unown) = l.map TEngine.ro := mapun TEngine_oc_un l
@[go_sem] theorem TEngine_oc_ownd (x) : owndL (TEngine.oc x) = true := by simp [TEngine.oc, go_sem]
@[go_sem high] theorem TEngine_oc_owndL (l : List _) : owndLL (l.map TEngine.oc) = true := owndLL_map TEngine_oc_ownd l
@[go_sem] theorem TEngine_oc_ids (x) : idsL (TEngine.oc x) = [] := by simp [TEngine.oc, go_sem]
@[go_sem high] theorem TEngine_oc_idsL (l : List _) : (l.map TEngine.oc).flatMap idsL = [] := flatids TEngine_oc_ids l
theorem TEngine_oc_tree (a) : ∀ x ∈ TEngine.oc a, x.tree = true := by simp [TEngine.oc, go_sem]
@[go_sem high] theorem TEngine_oc_treeL (l : List _) : (∀ c ∈ l.map TEngine.oc, ∀ x ∈ c, AV.tree x = true) ↔ True := maptree TEngine_oc_tree l
def TEngine.sz (x : TEngine) : Nat := (x.procs.length + (x.procs.map TProc.sz).sum) + (x.insts.length + (x.insts.map TInst.sz).sum)

/-- impl.Claim -/
structure TClaim where
  inst : Int
  step : Int
  user : Int
  deriving DecidableEq
def TClaim.ro (x : TClaim) : List AV := [.int .i64 x.inst, .int .i64 x.step, .int .i64 x.user]
@[go_sem] theorem TClaim_ro_eq (x : TClaim) : x.ro = [.int .i64 x.inst, .int .i64 x.step, .int .i64 x.user] := rfl
theorem TClaim_ro_un (x : TClaim) : x.ro.map unown = x.ro := by simp [TClaim.ro, go_sem]
@[go_sem high] theorem TClaim_ro_unL (l : List _) : unownLL (l.map TClaim.ro) = l.map TClaim.ro := unownLL_map TClaim_ro_un l
@[go_sem high] theorem TClaim_ro_unM (l : List _) : (l.map TClaim.ro).map (List.map unown) = l.map TClaim.ro := mapun TClaim_ro_un l
@[go_sem] theorem TClaim_ro_ownd (x) : owndL (TClaim.ro x) = true := by simp [TClaim.ro, go_sem]
@[go_sem high] theorem TClaim_ro_owndL (l : List _) : owndLL (l.map TClaim.ro) = true := owndLL_map TClaim_ro_ownd l
@[go_sem] theorem TClaim_ro_ids (x) : idsL (TClaim.ro x) = [] := by simp [TClaim.ro, go_sem]
@[go_sem high] theorem TClaim_ro_idsL (l : List _) : (l.map TClaim.ro).flatMap idsL = [] := flatids TClaim_ro_ids l
theorem TClaim_ro_tree (a) : ∀ x ∈ TClaim.ro a, x.tree = true := by simp [TClaim.ro, go_sem]
@[go_sem high] theorem TClaim_ro_treeL (l : List _) : (∀ c ∈ l.map TClaim.ro, ∀ x ∈ c, AV.tree x = true) ↔ True := maptree TClaim_ro_tree l

/-- impl.Desk -/
structure TDesk where
  engine : TEngine
  claims : List TClaim
  deriving DecidableEq
def TDesk.ro (x : TDesk) : List AV := [.isl 1 (x.engine.procs.map TProc.ro), .isl 6 (x.engine.insts.map TInst.ro), .int .i64 x.engine.now, .isl 3 (x.claims.map TClaim.ro)]
@[go_sem] theorem TDesk_ro_eq (x : TDesk) : x.ro = [.isl 1 (x.engine.procs.map TProc.ro), .isl 6 (x.engine.insts.map TInst.ro), .int .i64 x.engine.now, .isl 3 (x.claims.map TClaim.ro)] := rfl
def TDesk.oc (x : TDesk) : List AV := [owc 1 (x.engine.procs.map TProc.oc), owc 6 (x.engine.insts.map TInst.oc), .int .i64 x.engine.now, owc 3 (x.claims.map TClaim.ro)]
theorem TDesk_oc_un (x : TDesk) : x.oc.map unown = x.ro := by simp [TDesk.oc, TDesk.ro, go_sem]
@[go_sem] theorem TDesk_oc_eq (x : TDesk) : x.oc = [owc 1 (x.engine.procs.map TProc.oc), owc 6 (x.engine.insts.map TInst.oc), .int .i64 x.engine.now, owc 3 (x.claims.map TClaim.ro)] := rfl
@[go_sem high] theorem TDesk_oc_unL (l : List _) : unownLL (l.map TDesk.oc) = l.map TDesk.ro := unownLL_map TDesk_oc_un l
@[go_sem high] theorem TDesk_oc_unM (l : List _) : (l.map TDesk.oc).map (List.map unown) = l.map TDesk.ro := mapun TDesk_oc_un l
@[go_sem] theorem TDesk_oc_ownd (x) : owndL (TDesk.oc x) = true := by simp [TDesk.oc, go_sem]
@[go_sem high] theorem TDesk_oc_owndL (l : List _) : owndLL (l.map TDesk.oc) = true := owndLL_map TDesk_oc_ownd l
@[go_sem] theorem TDesk_oc_ids (x) : idsL (TDesk.oc x) = [] := by simp [TDesk.oc, go_sem]
@[go_sem high] theorem TDesk_oc_idsL (l : List _) : (l.map TDesk.oc).flatMap idsL = [] := flatids TDesk_oc_ids l
theorem TDesk_oc_tree (a) : ∀ x ∈ TDesk.oc a, x.tree = true := by simp [TDesk.oc, go_sem]
@[go_sem high] theorem TDesk_oc_treeL (l : List _) : (∀ c ∈ l.map TDesk.oc, ∀ x ∈ c, AV.tree x = true) ↔ True := maptree TDesk_oc_tree l
def TDesk.sz (x : TDesk) : Nat := x.engine.sz + x.claims.length

/-- impl.Journal -/
structure TJournal where
  sure : List UInt8
  loose : List UInt8
  deriving DecidableEq
def TJournal.ro (x : TJournal) : List AV := [.isl 1 (x.sure.map B1), .isl 1 (x.loose.map B1)]
@[go_sem] theorem TJournal_ro_eq (x : TJournal) : x.ro = [.isl 1 (x.sure.map B1), .isl 1 (x.loose.map B1)] := rfl
def TJournal.oc (x : TJournal) : List AV := [owc 1 (x.sure.map B1), owc 1 (x.loose.map B1)]
theorem TJournal_oc_un (x : TJournal) : x.oc.map unown = x.ro := by simp [TJournal.oc, TJournal.ro, go_sem]
@[go_sem] theorem TJournal_oc_eq (x : TJournal) : x.oc = [owc 1 (x.sure.map B1), owc 1 (x.loose.map B1)] := rfl
@[go_sem high] theorem TJournal_oc_unL (l : List _) : unownLL (l.map TJournal.oc) = l.map TJournal.ro := unownLL_map TJournal_oc_un l
@[go_sem high] theorem TJournal_oc_unM (l : List _) : (l.map TJournal.oc).map (List.map unown) = l.map TJournal.ro := mapun TJournal_oc_un l
@[go_sem] theorem TJournal_oc_ownd (x) : owndL (TJournal.oc x) = true := by simp [TJournal.oc, go_sem]
@[go_sem high] theorem TJournal_oc_owndL (l : List _) : owndLL (l.map TJournal.oc) = true := owndLL_map TJournal_oc_ownd l
@[go_sem] theorem TJournal_oc_ids (x) : idsL (TJournal.oc x) = [] := by simp [TJournal.oc, go_sem]
@[go_sem high] theorem TJournal_oc_idsL (l : List _) : (l.map TJournal.oc).flatMap idsL = [] := flatids TJournal_oc_ids l
theorem TJournal_oc_tree (a) : ∀ x ∈ TJournal.oc a, x.tree = true := by simp [TJournal.oc, go_sem]
@[go_sem high] theorem TJournal_oc_treeL (l : List _) : (∀ c ∈ l.map TJournal.oc, ∀ x ∈ c, AV.tree x = true) ↔ True := maptree TJournal_oc_tree l
def TJournal.sz (x : TJournal) : Nat := x.sure.length + x.loose.length

/-- impl.World -/
structure TWorld where
  desk : TDesk
  journal : TJournal
  deriving DecidableEq
def TWorld.ro (x : TWorld) : List AV := [.isl 1 (x.desk.engine.procs.map TProc.ro), .isl 6 (x.desk.engine.insts.map TInst.ro), .int .i64 x.desk.engine.now, .isl 3 (x.desk.claims.map TClaim.ro), .isl 1 (x.journal.sure.map B1), .isl 1 (x.journal.loose.map B1)]
@[go_sem] theorem TWorld_ro_eq (x : TWorld) : x.ro = [.isl 1 (x.desk.engine.procs.map TProc.ro), .isl 6 (x.desk.engine.insts.map TInst.ro), .int .i64 x.desk.engine.now, .isl 3 (x.desk.claims.map TClaim.ro), .isl 1 (x.journal.sure.map B1), .isl 1 (x.journal.loose.map B1)] := rfl
def TWorld.oc (x : TWorld) : List AV := [owc 1 (x.desk.engine.procs.map TProc.oc), owc 6 (x.desk.engine.insts.map TInst.oc), .int .i64 x.desk.engine.now, owc 3 (x.desk.claims.map TClaim.ro), owc 1 (x.journal.sure.map B1), owc 1 (x.journal.loose.map B1)]
theorem TWorld_oc_un (x : TWorld) : x.oc.map unown = x.ro := by simp [TWorld.oc, TWorld.ro, go_sem]
@[go_sem] theorem TWorld_oc_eq (x : TWorld) : x.oc = [owc 1 (x.desk.engine.procs.map TProc.oc), owc 6 (x.desk.engine.insts.map TInst.oc), .int .i64 x.desk.engine.now, owc 3 (x.desk.claims.map TClaim.ro), owc 1 (x.journal.sure.map B1), owc 1 (x.journal.loose.map B1)] := rfl
@[go_sem high] theorem TWorld_oc_unL (l : List _) : unownLL (l.map TWorld.oc) = l.map TWorld.ro := unownLL_map TWorld_oc_un l
@[go_sem high] theorem TWorld_oc_unM (l : List _) : (l.map TWorld.oc).map (List.map unown) = l.map TWorld.ro := mapun TWorld_oc_un l
@[go_sem] theorem TWorld_oc_ownd (x) : owndL (TWorld.oc x) = true := by simp [TWorld.oc, go_sem]
@[go_sem high] theorem TWorld_oc_owndL (l : List _) : owndLL (l.map TWorld.oc) = true := owndLL_map TWorld_oc_ownd l
@[go_sem] theorem TWorld_oc_ids (x) : idsL (TWorld.oc x) = [] := by simp [TWorld.oc, go_sem]
@[go_sem high] theorem TWorld_oc_idsL (l : List _) : (l.map TWorld.oc).flatMap idsL = [] := flatids TWorld_oc_ids l
theorem TWorld_oc_tree (a) : ∀ x ∈ TWorld.oc a, x.tree = true := by simp [TWorld.oc, go_sem]
@[go_sem high] theorem TWorld_oc_treeL (l : List _) : (∀ c ∈ l.map TWorld.oc, ∀ x ∈ c, AV.tree x = true) ↔ True := maptree TWorld_oc_tree l
def TWorld.sz (x : TWorld) : Nat := x.desk.sz + x.journal.sz

/-- impl.IntResult -/
structure TIntResult where
  code : Int
  val : Int
  deriving DecidableEq
def TIntResult.ro (x : TIntResult) : List AV := [.int .i64 x.code, .int .i64 x.val]
@[go_sem] theorem TIntResult_ro_eq (x : TIntResult) : x.ro = [.int .i64 x.code, .int .i64 x.val] := rfl
theorem TIntResult_ro_un (x : TIntResult) : x.ro.map unown = x.ro := by simp [TIntResult.ro, go_sem]
@[go_sem high] theorem TIntResult_ro_unL (l : List _) : unownLL (l.map TIntResult.ro) = l.map TIntResult.ro := unownLL_map TIntResult_ro_un l
@[go_sem high] theorem TIntResult_ro_unM (l : List _) : (l.map TIntResult.ro).map (List.map unown) = l.map TIntResult.ro := mapun TIntResult_ro_un l
@[go_sem] theorem TIntResult_ro_ownd (x) : owndL (TIntResult.ro x) = true := by simp [TIntResult.ro, go_sem]
@[go_sem high] theorem TIntResult_ro_owndL (l : List _) : owndLL (l.map TIntResult.ro) = true := owndLL_map TIntResult_ro_ownd l
@[go_sem] theorem TIntResult_ro_ids (x) : idsL (TIntResult.ro x) = [] := by simp [TIntResult.ro, go_sem]
@[go_sem high] theorem TIntResult_ro_idsL (l : List _) : (l.map TIntResult.ro).flatMap idsL = [] := flatids TIntResult_ro_ids l
theorem TIntResult_ro_tree (a) : ∀ x ∈ TIntResult.ro a, x.tree = true := by simp [TIntResult.ro, go_sem]
@[go_sem high] theorem TIntResult_ro_treeL (l : List _) : (∀ c ∈ l.map TIntResult.ro, ∀ x ∈ c, AV.tree x = true) ↔ True := maptree TIntResult_ro_tree l

/-- impl.IntsResult -/
structure TIntsResult where
  code : Int
  list : List Int
  deriving DecidableEq
def TIntsResult.ro (x : TIntsResult) : List AV := [.int .i64 x.code, .isl 1 (x.list.map I1)]
@[go_sem] theorem TIntsResult_ro_eq (x : TIntsResult) : x.ro = [.int .i64 x.code, .isl 1 (x.list.map I1)] := rfl
def TIntsResult.oc (x : TIntsResult) : List AV := [.int .i64 x.code, owc 1 (x.list.map I1)]
theorem TIntsResult_oc_un (x : TIntsResult) : x.oc.map unown = x.ro := by simp [TIntsResult.oc, TIntsResult.ro, go_sem]
@[go_sem] theorem TIntsResult_oc_eq (x : TIntsResult) : x.oc = [.int .i64 x.code, owc 1 (x.list.map I1)] := rfl
@[go_sem high] theorem TIntsResult_oc_unL (l : List _) : unownLL (l.map TIntsResult.oc) = l.map TIntsResult.ro := unownLL_map TIntsResult_oc_un l
@[go_sem high] theorem TIntsResult_oc_unM (l : List _) : (l.map TIntsResult.oc).map (List.map unown) = l.map TIntsResult.ro := mapun TIntsResult_oc_un l
@[go_sem] theorem TIntsResult_oc_ownd (x) : owndL (TIntsResult.oc x) = true := by simp [TIntsResult.oc, go_sem]
@[go_sem high] theorem TIntsResult_oc_owndL (l : List _) : owndLL (l.map TIntsResult.oc) = true := owndLL_map TIntsResult_oc_ownd l
@[go_sem] theorem TIntsResult_oc_ids (x) : idsL (TIntsResult.oc x) = [] := by simp [TIntsResult.oc, go_sem]
@[go_sem high] theorem TIntsResult_oc_idsL (l : List _) : (l.map TIntsResult.oc).flatMap idsL = [] := flatids TIntsResult_oc_ids l
theorem TIntsResult_oc_tree (a) : ∀ x ∈ TIntsResult.oc a, x.tree = true := by simp [TIntsResult.oc, go_sem]
@[go_sem high] theorem TIntsResult_oc_treeL (l : List _) : (∀ c ∈ l.map TIntsResult.oc, ∀ x ∈ c, AV.tree x = true) ↔ True := maptree TIntsResult_oc_tree l
def TIntsResult.sz (x : TIntsResult) : Nat := x.list.length

/-- impl.TextResult -/
structure TTextResult where
  code : Int
  text : List UInt8
  deriving DecidableEq
def TTextResult.ro (x : TTextResult) : List AV := [.int .i64 x.code, .str x.text]
@[go_sem] theorem TTextResult_ro_eq (x : TTextResult) : x.ro = [.int .i64 x.code, .str x.text] := rfl
theorem TTextResult_ro_un (x : TTextResult) : x.ro.map unown = x.ro := by simp [TTextResult.ro, go_sem]
@[go_sem high] theorem TTextResult_ro_unL (l : List _) : unownLL (l.map TTextResult.ro) = l.map TTextResult.ro := unownLL_map TTextResult_ro_un l
@[go_sem high] theorem TTextResult_ro_unM (l : List _) : (l.map TTextResult.ro).map (List.map unown) = l.map TTextResult.ro := mapun TTextResult_ro_un l
@[go_sem] theorem TTextResult_ro_ownd (x) : owndL (TTextResult.ro x) = true := by simp [TTextResult.ro, go_sem]
@[go_sem high] theorem TTextResult_ro_owndL (l : List _) : owndLL (l.map TTextResult.ro) = true := owndLL_map TTextResult_ro_ownd l
@[go_sem] theorem TTextResult_ro_ids (x) : idsL (TTextResult.ro x) = [] := by simp [TTextResult.ro, go_sem]
@[go_sem high] theorem TTextResult_ro_idsL (l : List _) : (l.map TTextResult.ro).flatMap idsL = [] := flatids TTextResult_ro_ids l
theorem TTextResult_ro_tree (a) : ∀ x ∈ TTextResult.ro a, x.tree = true := by simp [TTextResult.ro, go_sem]
@[go_sem high] theorem TTextResult_ro_treeL (l : List _) : (∀ c ∈ l.map TTextResult.ro, ∀ x ∈ c, AV.tree x = true) ↔ True := maptree TTextResult_ro_tree l
def TTextResult.sz (x : TTextResult) : Nat := x.text.length

/-- impl.BytesResult -/
structure TBytesResult where
  code : Int
  bytes : List UInt8
  deriving DecidableEq
def TBytesResult.ro (x : TBytesResult) : List AV := [.int .i64 x.code, .isl 1 (x.bytes.map B1)]
@[go_sem] theorem TBytesResult_ro_eq (x : TBytesResult) : x.ro = [.int .i64 x.code, .isl 1 (x.bytes.map B1)] := rfl
def TBytesResult.oc (x : TBytesResult) : List AV := [.int .i64 x.code, owc 1 (x.bytes.map B1)]
theorem TBytesResult_oc_un (x : TBytesResult) : x.oc.map unown = x.ro := by simp [TBytesResult.oc, TBytesResult.ro, go_sem]
@[go_sem] theorem TBytesResult_oc_eq (x : TBytesResult) : x.oc = [.int .i64 x.code, owc 1 (x.bytes.map B1)] := rfl
@[go_sem high] theorem TBytesResult_oc_unL (l : List _) : unownLL (l.map TBytesResult.oc) = l.map TBytesResult.ro := unownLL_map TBytesResult_oc_un l
@[go_sem high] theorem TBytesResult_oc_unM (l : List _) : (l.map TBytesResult.oc).map (List.map unown) = l.map TBytesResult.ro := mapun TBytesResult_oc_un l
@[go_sem] theorem TBytesResult_oc_ownd (x) : owndL (TBytesResult.oc x) = true := by simp [TBytesResult.oc, go_sem]
@[go_sem high] theorem TBytesResult_oc_owndL (l : List _) : owndLL (l.map TBytesResult.oc) = true := owndLL_map TBytesResult_oc_ownd l
@[go_sem] theorem TBytesResult_oc_ids (x) : idsL (TBytesResult.oc x) = [] := by simp [TBytesResult.oc, go_sem]
@[go_sem high] theorem TBytesResult_oc_idsL (l : List _) : (l.map TBytesResult.oc).flatMap idsL = [] := flatids TBytesResult_oc_ids l
theorem TBytesResult_oc_tree (a) : ∀ x ∈ TBytesResult.oc a, x.tree = true := by simp [TBytesResult.oc, go_sem]
@[go_sem high] theorem TBytesResult_oc_treeL (l : List _) : (∀ c ∈ l.map TBytesResult.oc, ∀ x ∈ c, AV.tree x = true) ↔ True := maptree TBytesResult_oc_tree l
def TBytesResult.sz (x : TBytesResult) : Nat := x.bytes.length

/-- impl.LinesResult -/
structure TLinesResult where
  code : Int
  broken : Bool
  lines : List (List UInt8)
  deriving DecidableEq
def TLinesResult.ro (x : TLinesResult) : List AV := [.int .i64 x.code, .bool x.broken, .isl 1 (x.lines.map S1)]
@[go_sem] theorem TLinesResult_ro_eq (x : TLinesResult) : x.ro = [.int .i64 x.code, .bool x.broken, .isl 1 (x.lines.map S1)] := rfl
def TLinesResult.oc (x : TLinesResult) : List AV := [.int .i64 x.code, .bool x.broken, owc 1 (x.lines.map S1)]
theorem TLinesResult_oc_un (x : TLinesResult) : x.oc.map unown = x.ro := by simp [TLinesResult.oc, TLinesResult.ro, go_sem]
@[go_sem] theorem TLinesResult_oc_eq (x : TLinesResult) : x.oc = [.int .i64 x.code, .bool x.broken, owc 1 (x.lines.map S1)] := rfl
@[go_sem high] theorem TLinesResult_oc_unL (l : List _) : unownLL (l.map TLinesResult.oc) = l.map TLinesResult.ro := unownLL_map TLinesResult_oc_un l
@[go_sem high] theorem TLinesResult_oc_unM (l : List _) : (l.map TLinesResult.oc).map (List.map unown) = l.map TLinesResult.ro := mapun TLinesResult_oc_un l
@[go_sem] theorem TLinesResult_oc_ownd (x) : owndL (TLinesResult.oc x) = true := by simp [TLinesResult.oc, go_sem]
@[go_sem high] theorem TLinesResult_oc_owndL (l : List _) : owndLL (l.map TLinesResult.oc) = true := owndLL_map TLinesResult_oc_ownd l
@[go_sem] theorem TLinesResult_oc_ids (x) : idsL (TLinesResult.oc x) = [] := by simp [TLinesResult.oc, go_sem]
@[go_sem high] theorem TLinesResult_oc_idsL (l : List _) : (l.map TLinesResult.oc).flatMap idsL = [] := flatids TLinesResult_oc_ids l
theorem TLinesResult_oc_tree (a) : ∀ x ∈ TLinesResult.oc a, x.tree = true := by simp [TLinesResult.oc, go_sem]
@[go_sem high] theorem TLinesResult_oc_treeL (l : List _) : (∀ c ∈ l.map TLinesResult.oc, ∀ x ∈ c, AV.tree x = true) ↔ True := maptree TLinesResult_oc_tree l
def TLinesResult.sz (x : TLinesResult) : Nat := (x.lines.length + (x.lines.map List.length).sum)

/-- impl.JournalResult -/
structure TJournalResult where
  code : Int
  count : Int
  journal : TJournal
  deriving DecidableEq
def TJournalResult.ro (x : TJournalResult) : List AV := [.int .i64 x.code, .int .i64 x.count, .isl 1 (x.journal.sure.map B1), .isl 1 (x.journal.loose.map B1)]
@[go_sem] theorem TJournalResult_ro_eq (x : TJournalResult) : x.ro = [.int .i64 x.code, .int .i64 x.count, .isl 1 (x.journal.sure.map B1), .isl 1 (x.journal.loose.map B1)] := rfl
def TJournalResult.oc (x : TJournalResult) : List AV := [.int .i64 x.code, .int .i64 x.count, owc 1 (x.journal.sure.map B1), owc 1 (x.journal.loose.map B1)]
theorem TJournalResult_oc_un (x : TJournalResult) : x.oc.map unown = x.ro := by simp [TJournalResult.oc, TJournalResult.ro, go_sem]
@[go_sem] theorem TJournalResult_oc_eq (x : TJournalResult) : x.oc = [.int .i64 x.code, .int .i64 x.count, owc 1 (x.journal.sure.map B1), owc 1 (x.journal.loose.map B1)] := rfl
@[go_sem high] theorem TJournalResult_oc_unL (l : List _) : unownLL (l.map TJournalResult.oc) = l.map TJournalResult.ro := unownLL_map TJournalResult_oc_un l
@[go_sem high] theorem TJournalResult_oc_unM (l : List _) : (l.map TJournalResult.oc).map (List.map unown) = l.map TJournalResult.ro := mapun TJournalResult_oc_un l
@[go_sem] theorem TJournalResult_oc_ownd (x) : owndL (TJournalResult.oc x) = true := by simp [TJournalResult.oc, go_sem]
@[go_sem high] theorem TJournalResult_oc_owndL (l : List _) : owndLL (l.map TJournalResult.oc) = true := owndLL_map TJournalResult_oc_ownd l
@[go_sem] theorem TJournalResult_oc_ids (x) : idsL (TJournalResult.oc x) = [] := by simp [TJournalResult.oc, go_sem]
@[go_sem high] theorem TJournalResult_oc_idsL (l : List _) : (l.map TJournalResult.oc).flatMap idsL = [] := flatids TJournalResult_oc_ids l
theorem TJournalResult_oc_tree (a) : ∀ x ∈ TJournalResult.oc a, x.tree = true := by simp [TJournalResult.oc, go_sem]
@[go_sem high] theorem TJournalResult_oc_treeL (l : List _) : (∀ c ∈ l.map TJournalResult.oc, ∀ x ∈ c, AV.tree x = true) ↔ True := maptree TJournalResult_oc_tree l
def TJournalResult.sz (x : TJournalResult) : Nat := x.journal.sz

/-- impl.ProcResult -/
structure TProcResult where
  code : Int
  proc : List TStep
  deriving DecidableEq
def TProcResult.ro (x : TProcResult) : List AV := [.int .i64 x.code, .isl 6 (x.proc.map TStep.ro)]
@[go_sem] theorem TProcResult_ro_eq (x : TProcResult) : x.ro = [.int .i64 x.code, .isl 6 (x.proc.map TStep.ro)] := rfl
def TProcResult.oc (x : TProcResult) : List AV := [.int .i64 x.code, owc 6 (x.proc.map TStep.oc)]
theorem TProcResult_oc_un (x : TProcResult) : x.oc.map unown = x.ro := by simp [TProcResult.oc, TProcResult.ro, go_sem]
@[go_sem] theorem TProcResult_oc_eq (x : TProcResult) : x.oc = [.int .i64 x.code, owc 6 (x.proc.map TStep.oc)] := rfl
@[go_sem high] theorem TProcResult_oc_unL (l : List _) : unownLL (l.map TProcResult.oc) = l.map TProcResult.ro := unownLL_map TProcResult_oc_un l
@[go_sem high] theorem TProcResult_oc_unM (l : List _) : (l.map TProcResult.oc).map (List.map unown) = l.map TProcResult.ro := mapun TProcResult_oc_un l
@[go_sem] theorem TProcResult_oc_ownd (x) : owndL (TProcResult.oc x) = true := by simp [TProcResult.oc, go_sem]
@[go_sem high] theorem TProcResult_oc_owndL (l : List _) : owndLL (l.map TProcResult.oc) = true := owndLL_map TProcResult_oc_ownd l
@[go_sem] theorem TProcResult_oc_ids (x) : idsL (TProcResult.oc x) = [] := by simp [TProcResult.oc, go_sem]
@[go_sem high] theorem TProcResult_oc_idsL (l : List _) : (l.map TProcResult.oc).flatMap idsL = [] := flatids TProcResult_oc_ids l
theorem TProcResult_oc_tree (a) : ∀ x ∈ TProcResult.oc a, x.tree = true := by simp [TProcResult.oc, go_sem]
@[go_sem high] theorem TProcResult_oc_treeL (l : List _) : (∀ c ∈ l.map TProcResult.oc, ∀ x ∈ c, AV.tree x = true) ↔ True := maptree TProcResult_oc_tree l
def TProcResult.sz (x : TProcResult) : Nat := (x.proc.length + (x.proc.map TStep.sz).sum)

/-- impl.GraphResult -/
structure TGraphResult where
  code : Int
  graph : TGraph
  deriving DecidableEq
def TGraphResult.ro (x : TGraphResult) : List AV := [.int .i64 x.code, .isl 5 (x.graph.nodes.map TGNode.ro), .isl 3 (x.graph.flows.map TFlow.ro)]
@[go_sem] theorem TGraphResult_ro_eq (x : TGraphResult) : x.ro = [.int .i64 x.code, .isl 5 (x.graph.nodes.map TGNode.ro), .isl 3 (x.graph.flows.map TFlow.ro)] := rfl
def TGraphResult.oc (x : TGraphResult) : List AV := [.int .i64 x.code, owc 5 (x.graph.nodes.map TGNode.oc), owc 3 (x.graph.flows.map TFlow.oc)]
theorem TGraphResult_oc_un (x : TGraphResult) : x.oc.map unown = x.ro := by simp [TGraphResult.oc, TGraphResult.ro, go_sem]
@[go_sem] theorem TGraphResult_oc_eq (x : TGraphResult) : x.oc = [.int .i64 x.code, owc 5 (x.graph.nodes.map TGNode.oc), owc 3 (x.graph.flows.map TFlow.oc)] := rfl
@[go_sem high] theorem TGraphResult_oc_unL (l : List _) : unownLL (l.map TGraphResult.oc) = l.map TGraphResult.ro := unownLL_map TGraphResult_oc_un l
@[go_sem high] theorem TGraphResult_oc_unM (l : List _) : (l.map TGraphResult.oc).map (List.map unown) = l.map TGraphResult.ro := mapun TGraphResult_oc_un l
@[go_sem] theorem TGraphResult_oc_ownd (x) : owndL (TGraphResult.oc x) = true := by simp [TGraphResult.oc, go_sem]
@[go_sem high] theorem TGraphResult_oc_owndL (l : List _) : owndLL (l.map TGraphResult.oc) = true := owndLL_map TGraphResult_oc_ownd l
@[go_sem] theorem TGraphResult_oc_ids (x) : idsL (TGraphResult.oc x) = [] := by simp [TGraphResult.oc, go_sem]
@[go_sem high] theorem TGraphResult_oc_idsL (l : List _) : (l.map TGraphResult.oc).flatMap idsL = [] := flatids TGraphResult_oc_ids l
theorem TGraphResult_oc_tree (a) : ∀ x ∈ TGraphResult.oc a, x.tree = true := by simp [TGraphResult.oc, go_sem]
@[go_sem high] theorem TGraphResult_oc_treeL (l : List _) : (∀ c ∈ l.map TGraphResult.oc, ∀ x ∈ c, AV.tree x = true) ↔ True := maptree TGraphResult_oc_tree l
def TGraphResult.sz (x : TGraphResult) : Nat := x.graph.sz

/-- impl.RunResult -/
structure TRunResult where
  code : Int
  run : TRun
  deriving DecidableEq
def TRunResult.ro (x : TRunResult) : List AV := [.int .i64 x.code, .int .i64 x.run.status, .int .i64 x.run.now, .isl 1 (x.run.vars.map I1), .isl 1 (x.run.marks.map I1), .isl 1 (x.run.dues.map I1)]
@[go_sem] theorem TRunResult_ro_eq (x : TRunResult) : x.ro = [.int .i64 x.code, .int .i64 x.run.status, .int .i64 x.run.now, .isl 1 (x.run.vars.map I1), .isl 1 (x.run.marks.map I1), .isl 1 (x.run.dues.map I1)] := rfl
def TRunResult.oc (x : TRunResult) : List AV := [.int .i64 x.code, .int .i64 x.run.status, .int .i64 x.run.now, owc 1 (x.run.vars.map I1), owc 1 (x.run.marks.map I1), owc 1 (x.run.dues.map I1)]
theorem TRunResult_oc_un (x : TRunResult) : x.oc.map unown = x.ro := by simp [TRunResult.oc, TRunResult.ro, go_sem]
@[go_sem] theorem TRunResult_oc_eq (x : TRunResult) : x.oc = [.int .i64 x.code, .int .i64 x.run.status, .int .i64 x.run.now, owc 1 (x.run.vars.map I1), owc 1 (x.run.marks.map I1), owc 1 (x.run.dues.map I1)] := rfl
@[go_sem high] theorem TRunResult_oc_unL (l : List _) : unownLL (l.map TRunResult.oc) = l.map TRunResult.ro := unownLL_map TRunResult_oc_un l
@[go_sem high] theorem TRunResult_oc_unM (l : List _) : (l.map TRunResult.oc).map (List.map unown) = l.map TRunResult.ro := mapun TRunResult_oc_un l
@[go_sem] theorem TRunResult_oc_ownd (x) : owndL (TRunResult.oc x) = true := by simp [TRunResult.oc, go_sem]
@[go_sem high] theorem TRunResult_oc_owndL (l : List _) : owndLL (l.map TRunResult.oc) = true := owndLL_map TRunResult_oc_ownd l
@[go_sem] theorem TRunResult_oc_ids (x) : idsL (TRunResult.oc x) = [] := by simp [TRunResult.oc, go_sem]
@[go_sem high] theorem TRunResult_oc_idsL (l : List _) : (l.map TRunResult.oc).flatMap idsL = [] := flatids TRunResult_oc_ids l
theorem TRunResult_oc_tree (a) : ∀ x ∈ TRunResult.oc a, x.tree = true := by simp [TRunResult.oc, go_sem]
@[go_sem high] theorem TRunResult_oc_treeL (l : List _) : (∀ c ∈ l.map TRunResult.oc, ∀ x ∈ c, AV.tree x = true) ↔ True := maptree TRunResult_oc_tree l
def TRunResult.sz (x : TRunResult) : Nat := x.run.sz

/-- impl.ChartResult -/
structure TChartResult where
  code : Int
  chart : TChart
  deriving DecidableEq
def TChartResult.ro (x : TChartResult) : List AV := [.int .i64 x.code, .int .i64 x.chart.status, .int .i64 x.chart.now, .isl 1 (x.chart.vars.map I1), .isl 1 (x.chart.acts.map I1), .isl 1 (x.chart.dues.map I1)]
@[go_sem] theorem TChartResult_ro_eq (x : TChartResult) : x.ro = [.int .i64 x.code, .int .i64 x.chart.status, .int .i64 x.chart.now, .isl 1 (x.chart.vars.map I1), .isl 1 (x.chart.acts.map I1), .isl 1 (x.chart.dues.map I1)] := rfl
def TChartResult.oc (x : TChartResult) : List AV := [.int .i64 x.code, .int .i64 x.chart.status, .int .i64 x.chart.now, owc 1 (x.chart.vars.map I1), owc 1 (x.chart.acts.map I1), owc 1 (x.chart.dues.map I1)]
theorem TChartResult_oc_un (x : TChartResult) : x.oc.map unown = x.ro := by simp [TChartResult.oc, TChartResult.ro, go_sem]
@[go_sem] theorem TChartResult_oc_eq (x : TChartResult) : x.oc = [.int .i64 x.code, .int .i64 x.chart.status, .int .i64 x.chart.now, owc 1 (x.chart.vars.map I1), owc 1 (x.chart.acts.map I1), owc 1 (x.chart.dues.map I1)] := rfl
@[go_sem high] theorem TChartResult_oc_unL (l : List _) : unownLL (l.map TChartResult.oc) = l.map TChartResult.ro := unownLL_map TChartResult_oc_un l
@[go_sem high] theorem TChartResult_oc_unM (l : List _) : (l.map TChartResult.oc).map (List.map unown) = l.map TChartResult.ro := mapun TChartResult_oc_un l
@[go_sem] theorem TChartResult_oc_ownd (x) : owndL (TChartResult.oc x) = true := by simp [TChartResult.oc, go_sem]
@[go_sem high] theorem TChartResult_oc_owndL (l : List _) : owndLL (l.map TChartResult.oc) = true := owndLL_map TChartResult_oc_ownd l
@[go_sem] theorem TChartResult_oc_ids (x) : idsL (TChartResult.oc x) = [] := by simp [TChartResult.oc, go_sem]
@[go_sem high] theorem TChartResult_oc_idsL (l : List _) : (l.map TChartResult.oc).flatMap idsL = [] := flatids TChartResult_oc_ids l
theorem TChartResult_oc_tree (a) : ∀ x ∈ TChartResult.oc a, x.tree = true := by simp [TChartResult.oc, go_sem]
@[go_sem high] theorem TChartResult_oc_treeL (l : List _) : (∀ c ∈ l.map TChartResult.oc, ∀ x ∈ c, AV.tree x = true) ↔ True := maptree TChartResult_oc_tree l
def TChartResult.sz (x : TChartResult) : Nat := x.chart.sz

/-- impl.EngineResult -/
structure TEngineResult where
  code : Int
  val : Int
  engine : TEngine
  deriving DecidableEq
def TEngineResult.ro (x : TEngineResult) : List AV := [.int .i64 x.code, .int .i64 x.val, .isl 1 (x.engine.procs.map TProc.ro), .isl 6 (x.engine.insts.map TInst.ro), .int .i64 x.engine.now]
@[go_sem] theorem TEngineResult_ro_eq (x : TEngineResult) : x.ro = [.int .i64 x.code, .int .i64 x.val, .isl 1 (x.engine.procs.map TProc.ro), .isl 6 (x.engine.insts.map TInst.ro), .int .i64 x.engine.now] := rfl
def TEngineResult.oc (x : TEngineResult) : List AV := [.int .i64 x.code, .int .i64 x.val, owc 1 (x.engine.procs.map TProc.oc), owc 6 (x.engine.insts.map TInst.oc), .int .i64 x.engine.now]
theorem TEngineResult_oc_un (x : TEngineResult) : x.oc.map unown = x.ro := by simp [TEngineResult.oc, TEngineResult.ro, go_sem]
@[go_sem] theorem TEngineResult_oc_eq (x : TEngineResult) : x.oc = [.int .i64 x.code, .int .i64 x.val, owc 1 (x.engine.procs.map TProc.oc), owc 6 (x.engine.insts.map TInst.oc), .int .i64 x.engine.now] := rfl
@[go_sem high] theorem TEngineResult_oc_unL (l : List _) : unownLL (l.map TEngineResult.oc) = l.map TEngineResult.ro := unownLL_map TEngineResult_oc_un l
@[go_sem high] theorem TEngineResult_oc_unM (l : List _) : (l.map TEngineResult.oc).map (List.map unown) = l.map TEngineResult.ro := mapun TEngineResult_oc_un l
@[go_sem] theorem TEngineResult_oc_ownd (x) : owndL (TEngineResult.oc x) = true := by simp [TEngineResult.oc, go_sem]
@[go_sem high] theorem TEngineResult_oc_owndL (l : List _) : owndLL (l.map TEngineResult.oc) = true := owndLL_map TEngineResult_oc_ownd l
@[go_sem] theorem TEngineResult_oc_ids (x) : idsL (TEngineResult.oc x) = [] := by simp [TEngineResult.oc, go_sem]
@[go_sem high] theorem TEngineResult_oc_idsL (l : List _) : (l.map TEngineResult.oc).flatMap idsL = [] := flatids TEngineResult_oc_ids l
theorem TEngineResult_oc_tree (a) : ∀ x ∈ TEngineResult.oc a, x.tree = true := by simp [TEngineResult.oc, go_sem]
@[go_sem high] theorem TEngineResult_oc_treeL (l : List _) : (∀ c ∈ l.map TEngineResult.oc, ∀ x ∈ c, AV.tree x = true) ↔ True := maptree TEngineResult_oc_tree l
def TEngineResult.sz (x : TEngineResult) : Nat := x.engine.sz

/-- impl.DeskResult -/
structure TDeskResult where
  code : Int
  val : Int
  desk : TDesk
  deriving DecidableEq
def TDeskResult.ro (x : TDeskResult) : List AV := [.int .i64 x.code, .int .i64 x.val, .isl 1 (x.desk.engine.procs.map TProc.ro), .isl 6 (x.desk.engine.insts.map TInst.ro), .int .i64 x.desk.engine.now, .isl 3 (x.desk.claims.map TClaim.ro)]
@[go_sem] theorem TDeskResult_ro_eq (x : TDeskResult) : x.ro = [.int .i64 x.code, .int .i64 x.val, .isl 1 (x.desk.engine.procs.map TProc.ro), .isl 6 (x.desk.engine.insts.map TInst.ro), .int .i64 x.desk.engine.now, .isl 3 (x.desk.claims.map TClaim.ro)] := rfl
def TDeskResult.oc (x : TDeskResult) : List AV := [.int .i64 x.code, .int .i64 x.val, owc 1 (x.desk.engine.procs.map TProc.oc), owc 6 (x.desk.engine.insts.map TInst.oc), .int .i64 x.desk.engine.now, owc 3 (x.desk.claims.map TClaim.ro)]
theorem TDeskResult_oc_un (x : TDeskResult) : x.oc.map unown = x.ro := by simp [TDeskResult.oc, TDeskResult.ro, go_sem]
@[go_sem] theorem TDeskResult_oc_eq (x : TDeskResult) : x.oc = [.int .i64 x.code, .int .i64 x.val, owc 1 (x.desk.engine.procs.map TProc.oc), owc 6 (x.desk.engine.insts.map TInst.oc), .int .i64 x.desk.engine.now, owc 3 (x.desk.claims.map TClaim.ro)] := rfl
@[go_sem high] theorem TDeskResult_oc_unL (l : List _) : unownLL (l.map TDeskResult.oc) = l.map TDeskResult.ro := unownLL_map TDeskResult_oc_un l
@[go_sem high] theorem TDeskResult_oc_unM (l : List _) : (l.map TDeskResult.oc).map (List.map unown) = l.map TDeskResult.ro := mapun TDeskResult_oc_un l
@[go_sem] theorem TDeskResult_oc_ownd (x) : owndL (TDeskResult.oc x) = true := by simp [TDeskResult.oc, go_sem]
@[go_sem high] theorem TDeskResult_oc_owndL (l : List _) : owndLL (l.map TDeskResult.oc) = true := owndLL_map TDeskResult_oc_ownd l
@[go_sem] theorem TDeskResult_oc_ids (x) : idsL (TDeskResult.oc x) = [] := by simp [TDeskResult.oc, go_sem]
@[go_sem high] theorem TDeskResult_oc_idsL (l : List _) : (l.map TDeskResult.oc).flatMap idsL = [] := flatids TDeskResult_oc_ids l
theorem TDeskResult_oc_tree (a) : ∀ x ∈ TDeskResult.oc a, x.tree = true := by simp [TDeskResult.oc, go_sem]
@[go_sem high] theorem TDeskResult_oc_treeL (l : List _) : (∀ c ∈ l.map TDeskResult.oc, ∀ x ∈ c, AV.tree x = true) ↔ True := maptree TDeskResult_oc_tree l
def TDeskResult.sz (x : TDeskResult) : Nat := x.desk.sz

/-- impl.OfferResult -/
structure TOfferResult where
  code : Int
  claims : List TClaim
  deriving DecidableEq
def TOfferResult.ro (x : TOfferResult) : List AV := [.int .i64 x.code, .isl 3 (x.claims.map TClaim.ro)]
@[go_sem] theorem TOfferResult_ro_eq (x : TOfferResult) : x.ro = [.int .i64 x.code, .isl 3 (x.claims.map TClaim.ro)] := rfl
def TOfferResult.oc (x : TOfferResult) : List AV := [.int .i64 x.code, owc 3 (x.claims.map TClaim.ro)]
theorem TOfferResult_oc_un (x : TOfferResult) : x.oc.map unown = x.ro := by simp [TOfferResult.oc, TOfferResult.ro, go_sem]
@[go_sem] theorem TOfferResult_oc_eq (x : TOfferResult) : x.oc = [.int .i64 x.code, owc 3 (x.claims.map TClaim.ro)] := rfl
@[go_sem high] theorem TOfferResult_oc_unL (l : List _) : unownLL (l.map TOfferResult.oc) = l.map TOfferResult.ro := unownLL_map TOfferResult_oc_un l
@[go_sem high] theorem TOfferResult_oc_unM (l : List _) : (l.map TOfferResult.oc).map (List.map unown) = l.map TOfferResult.ro := mapun TOfferResult_oc_un l
@[go_sem] theorem TOfferResult_oc_ownd (x) : owndL (TOfferResult.oc x) = true := by simp [TOfferResult.oc, go_sem]
@[go_sem high] theorem TOfferResult_oc_owndL (l : List _) : owndLL (l.map TOfferResult.oc) = true := owndLL_map TOfferResult_oc_ownd l
@[go_sem] theorem TOfferResult_oc_ids (x) : idsL (TOfferResult.oc x) = [] := by simp [TOfferResult.oc, go_sem]
@[go_sem high] theorem TOfferResult_oc_idsL (l : List _) : (l.map TOfferResult.oc).flatMap idsL = [] := flatids TOfferResult_oc_ids l
theorem TOfferResult_oc_tree (a) : ∀ x ∈ TOfferResult.oc a, x.tree = true := by simp [TOfferResult.oc, go_sem]
@[go_sem high] theorem TOfferResult_oc_treeL (l : List _) : (∀ c ∈ l.map TOfferResult.oc, ∀ x ∈ c, AV.tree x = true) ↔ True := maptree TOfferResult_oc_tree l
def TOfferResult.sz (x : TOfferResult) : Nat := x.claims.length
end Go.AM

/-! ### Am23 -/
set_option linter.unusedVariables false
set_option linter.unusedSimpArgs false
namespace Go.AM
open Go.ChangeShapes Go.WideShapes Go.RowKit

/-- cells that read as abstract values -/
def RdC (w : World) (cs : List Value) (ys : List AV) : Prop :=
  ys.length = cs.length ∧ (∀ (j : Nat) y v, ys[j]? = some y → cs[j]? = some v → I w (fun _ => none) y v) ∧ ∀ y ∈ ys, AV.plain y = true

theorem RdC.nil {w : World} {cs : List Value} (h : cs = []) : RdC w cs [] := by subst h; exact ⟨rfl, by intro j y v h; simp at h, by simp⟩

theorem RdC.one {w : World} {v : Value} {y : AV} (h : I w (fun _ => none) y v) (hp : y.plain = true) : RdC w [v] [y] := by
  refine ⟨rfl, ?_, by simpa using hp⟩
  intro j y' v' hy hv
  cases j with
  | zero => simp at hy hv; subst hy; subst hv; exact h
  | succ j => simp at hy

theorem RdC.cons {w : World} {cs : List Value} {o s : Nat} {ys zs : List AV} (h1 : RdC w ((cs.drop o).take s) ys) (h2 : RdC w (cs.drop (o + s)) zs) : RdC w (cs.drop o) (ys ++ zs) := by
  have e : cs.drop o = (cs.drop o).take s ++ cs.drop (o + s) := by rw [← List.drop_drop, List.take_append_drop]
  rw [e]
  obtain ⟨a1, a2, a3⟩ := h1
  obtain ⟨b1, b2, b3⟩ := h2
  refine ⟨by rw [List.length_append, List.length_append, a1, b1], ?_, ?_⟩
  · intro j y v hy hv
    rw [List.getElem?_append] at hy hv
    rw [a1] at hy
    split at hy
    · rename_i h; rw [if_pos h] at hv; exact a2 j y v hy hv
    · rename_i h; rw [if_neg h] at hv; exact b2 _ y v hy hv
  · intro y hy
    rcases List.mem_append.1 hy with hy | hy
    · exact a3 y hy
    · exact b3 y hy

/-- a type's data, read -/
structure Rd (P : Program) (t : TypeId) (α : Type) (f : α → List AV) (ok : α → Prop) (n : Nat) : Prop where
  size : P.cellsOf t = n
  read : ∀ {H : Type} (enc : TypeId × Value → H) (w : World) (base : Nat) (spare : Nat → Bool) (held : Bool) (fuel : Nat) (cs : List Value) (x : DataW H × List MemPlace),
    DataW.trod enc P w base spare held fuel t cs = some x → ∃ a : α, ok a ∧ RdC w cs (f a) ∧ cs.length = n

theorem cellsOf_of {P : Program} {ti : TI} (hT : TOk P ti) {t : Nat} {i : TInfo} (h : ti t = some i) : P.cellsOf t = i.size := by
  obtain ⟨info, h1, h2, _⟩ := (hT t i h).info
  simp [Program.cellsOf, h1, h2]

section
variable {P : Program} {t : TypeId}

theorem trod_int' {k : IntKind} {H : Type} {enc : TypeId × Value → H} {w : World} {base : Nat} {spare : Nat → Bool} {held : Bool} {fuel : Nat} {cs : List Value} {x : DataW H × List MemPlace} (ht : P.underlying t = some (.int k))
    (h : DataW.trod enc P w base spare held fuel t cs = some x) : ∃ n, cs = [.int k n] ∧ (Lit.int k n).wf = true := by
  cases fuel with
  | zero => simp [DataW.trod] at h
  | succ m =>
    unfold DataW.trod at h
    rw [ht] at h
    split at h <;> simp_all

theorem Rd.int (hs : P.cellsOf t = 1) (ht : P.underlying t = some (.int .i64)) : Rd P t Int I1 (fun n => -9223372036854775808 ≤ n ∧ n ≤ 9223372036854775807) 1 := by
  refine ⟨hs, ?_⟩
  intro H enc w base spare held fuel cs x h
  obtain ⟨n, rfl, hw⟩ := trod_int' ht h
  refine ⟨n, ?_, .one (.int _ _) rfl, rfl⟩
  simp [Lit.wf, IntKind.min, IntKind.max, IntKind.bits, IntKind.signed] at hw
  first | exact hw | omega

theorem Rd.byte (hs : P.cellsOf t = 1) (ht : P.underlying t = some (.int .u8)) : Rd P t UInt8 B1 (fun _ => True) 1 := by
  refine ⟨hs, ?_⟩
  intro H enc w base spare held fuel cs x h
  obtain ⟨n, rfl, hw⟩ := trod_int' ht h
  simp [Lit.wf, IntKind.min, IntKind.max, IntKind.bits, IntKind.signed] at hw
  refine ⟨UInt8.ofNat n.toNat, trivial, ?_, rfl⟩
  have e : ((UInt8.ofNat n.toNat).toNat : Int) = n := by rw [UInt8.toNat_ofNat']; omega
  unfold B1
  rw [e]
  exact .one (.int _ _) rfl

theorem trod_str' {H : Type} {enc : TypeId × Value → H} {w : World} {base : Nat} {spare : Nat → Bool} {held : Bool} {fuel : Nat} {cs : List Value} {x : DataW H × List MemPlace} (ht : P.underlying t = some .string)
    (h : DataW.trod enc P w base spare held fuel t cs = some x) : ∃ s, cs = [.string s] ∧ s.size ≤ maxLen := by
  cases fuel with
  | zero => simp [DataW.trod] at h
  | succ m =>
    unfold DataW.trod at h
    rw [ht] at h
    split at h <;> simp_all

theorem Rd.str (hs : P.cellsOf t = 1) (ht : P.underlying t = some .string) : Rd P t (List UInt8) S1 (fun s => s.length ≤ 9223372036854775807) 1 := by
  refine ⟨hs, ?_⟩
  intro H enc w base spare held fuel cs x h
  obtain ⟨s, rfl, hw⟩ := trod_str' ht h
  refine ⟨s.data.toList, ?_, .one (I.ofString s) rfl, rfl⟩
  unfold maxLen at hw
  exact hw

theorem trod_bool' {H : Type} {enc : TypeId × Value → H} {w : World} {base : Nat} {spare : Nat → Bool} {held : Bool} {fuel : Nat} {cs : List Value} {x : DataW H × List MemPlace} (ht : P.underlying t = some .bool)
    (h : DataW.trod enc P w base spare held fuel t cs = some x) : ∃ b, cs = [.bool b] := by
  cases fuel with
  | zero => simp [DataW.trod] at h
  | succ m =>
    unfold DataW.trod at h
    rw [ht] at h
    split at h <;> simp_all

theorem cell_spot {w : World} {a : Addr} {v : Value} (h : w.cell? a = some v) : a.spot = none ∧ a.block < w.heap.size := by
  unfold World.cell? at h
  split at h
  · rename_i hb
    refine ⟨?_, ?_⟩
    · split at h
      · cases h
      · rename_i hs; simpa using hs
    rcases Nat.lt_or_ge a.block w.heap.size with h1 | h1
    · exact h1
    · simp [Array.getElem?_eq_none h1] at hb
  · cases h

theorem mapM_get {α β : Type} {f : α → Option β} : ∀ {l : List α} {r : List β}, l.mapM f = some r → r.length = l.length ∧ ∀ (i : Nat) a, l[i]? = some a → f a = r[i]? := by
  intro l
  induction l with
  | nil => intro r h; simp at h; subst h; exact ⟨rfl, by intro i a h; simp at h⟩
  | cons x l ih =>
    intro r h
    simp only [List.mapM_cons, Option.bind_eq_bind] at h
    cases hx : f x with
    | none => simp [hx] at h
    | some y =>
      cases hl : l.mapM f with
      | none => simp [hx, hl] at h
      | some ys =>
        simp [hx, hl] at h
        subst h
        obtain ⟨h1, h2⟩ := ih hl
        refine ⟨by simp [h1], ?_⟩
        intro i a hi
        cases i with
        | zero => simp at hi; subst hi; simp [hx]
        | succ i => simpa using h2 i a (by simpa using hi)

theorem Rd.slice {e : TypeId} {α : Type} {f : α → List AV} {ok : α → Prop} {n : Nat} (he : Rd P e α f ok n) (hn : 0 < n) (hs : P.cellsOf t = 1) (ht : P.underlying t = some (.slice e)) :
    Rd P t (List α) (fun l => [.isl n (l.map f)]) (fun l => l.length ≤ 9223372036854775807 ∧ ∀ a ∈ l, ok a) 1 := by
  refine ⟨hs, ?_⟩
  intro H enc w base spare held fuel cs x h
  rcases DataW.trod_slice ht h with ⟨rfl, _⟩ | ⟨a, len, cap, elems, rest, m, rfl, rfl, _, hb, hlc, hcap, hel, hget, _⟩
  · exact ⟨[], ⟨Nat.zero_le _, by simp⟩, .one (.nsl _) rfl, rfl⟩
  · rw [he.size] at hget
    have hrow : ∀ i, i < len → ∃ (b : α) (vs : List Value), ok b ∧ RdC w vs (f b) ∧ vs.length = n ∧ ∀ j, j < n → w.cell? ((a.add (i * n)).add j) = vs[j]? := by
      intro i hi
      have h1 := hget i hi
      have h2 : ∃ y, elems[i]? = some y := ⟨elems[i]'(by omega), List.getElem?_eq_getElem _⟩
      obtain ⟨y, hy⟩ := h2
      rw [hy, Option.bind_eq_some_iff] at h1
      obtain ⟨vs, h3, h4⟩ := h1
      obtain ⟨b, h5, h6, h7⟩ := he.read enc w base spare held m vs y h4
      refine ⟨b, vs, h5, h6, h7, ?_⟩
      unfold World.cells? at h3
      split at h3
      · obtain ⟨_, h8⟩ := mapM_get h3
        intro j hj
        exact h8 j j (by simp [hj])
      · cases h3
    by_cases hz : len = 0
    · subst hz
      exact ⟨[], ⟨Nat.zero_le _, by simp⟩, .one (.esl _ _ _) rfl, rfl⟩
    obtain ⟨b0, vs0, hb0⟩ := hrow 0 (by omega)
    obtain ⟨g, gv, hg⟩ : ∃ (g : Nat → α) (gv : Nat → List Value), ∀ i, i < len → ok (g i) ∧ RdC w (gv i) (f (g i)) ∧ (gv i).length = n ∧ ∀ j, j < n → w.cell? ((a.add (i * n)).add j) = (gv i)[j]? := by
      refine ⟨fun i => if h : i < len then (hrow i h).choose else b0, fun i => if h : i < len then (hrow i h).choose_spec.choose else vs0, ?_⟩
      intro i hi
      simp only [dif_pos hi]
      exact (hrow i hi).choose_spec.choose_spec
    have hsp : a.spot = none ∧ a.block < w.heap.size := by
      obtain ⟨_, _, h3, h4⟩ := hg 0 (by omega)
      have h5 := h4 0 hn
      have h6 : ∃ v, (gv 0)[0]? = some v := ⟨(gv 0)[0]'(by omega), List.getElem?_eq_getElem _⟩
      obtain ⟨v, h6⟩ := h6
      rw [h6] at h5
      have h7 := cell_spot h5
      simpa [Addr.add] using h7
    obtain ⟨ab, ao, asp⟩ := a
    obtain ⟨hsp1, hsp2⟩ := hsp
    simp only at hsp1 hsp2
    subst hsp1
    simp only [addr_add] at hg
    have hmap : ∀ i, i < len → ((List.range len).map g)[i]? = some (g i) := by intro i hi; simp [hi]
    refine ⟨(List.range len).map g, ⟨by simp; unfold maxLen at hcap; omega, ?_⟩, .one ?_ rfl, rfl⟩
    · intro b hb
      obtain ⟨i, hi, rfl⟩ := List.mem_map.1 hb
      exact (hg i (by simpa using hi)).1
    · have := I.isl (w := w) (lab := fun _ => none) n (((List.range len).map g).map f) ab ao cap (fun i j => (gv i).getD j undef) rfl hsp2 (by simpa using hlc) ?_ ?_ ?_ ?_
      · simpa using this
      · intro c hc
        obtain ⟨b, hb, rfl⟩ := List.mem_map.1 hc
        obtain ⟨i, hi, rfl⟩ := List.mem_map.1 hb
        obtain ⟨_, h2, h3, _⟩ := hg i (by simpa using hi)
        rw [h2.1, h3]
      · intro c hc y hy
        obtain ⟨b, hb, rfl⟩ := List.mem_map.1 hc
        obtain ⟨i, hi, rfl⟩ := List.mem_map.1 hb
        exact (hg i (by simpa using hi)).2.1.2.2 y hy
      · intro i j hi hj
        have hi : i < len := by simpa using hi
        obtain ⟨_, h2, h3, h4⟩ := hg i hi
        rw [h4 j hj]
        simp [List.getD, h3, hj]
      · intro i c j y hi hj
        have hi' : i < len := by have := (List.getElem?_eq_some_iff.1 hi).1; simpa using this
        obtain ⟨_, h2, h3, h4⟩ := hg i hi'
        rw [List.getElem?_map, hmap i hi'] at hi
        cases hi
        have hj' : j < (gv i).length := by rw [← h2.1]; exact (List.getElem?_eq_some_iff.1 hj).1
        have := h2.2.1 j y (gv i)[j] hj (List.getElem?_eq_getElem hj')
        simpa [List.getD, hj'] using this

/-- an argument, read -/
theorem Rd.arg {α : Type} {f : α → List AV} {ok : α → Prop} {n : Nat} (h : Rd P t α f ok n) {w : World} {H : Type} {enc : TypeId × Value → H} {base : Nat} {spare : Nat → Bool} {held : Bool} {v : Value} {d : DataW H} {ps : List MemPlace}
    (hd : DataW.Trod enc P w base spare held t v d ps) : ∃ a, ok a ∧ RdC w v.cells.toList (f a) := by
  obtain ⟨fuel, hd⟩ := hd
  obtain ⟨a, h1, h2, _⟩ := h.read enc w base spare held fuel _ _ hd
  exact ⟨a, h1, h2⟩

theorem RdC.agg {w : World} {cs : Array Value} {ys : List AV} (h : RdC w cs.toList ys) : I w (fun _ => none) (.agg ys) (.agg cs) := by
  have := I.agg (w := w) (lab := fun _ => none) ys cs.toList h.1 h.2.1
  simpa using this

theorem cells_agg {w : World} {base : Nat} {fs : Array Field} {v : Value} (ht : P.underlying t = some (.struct fs)) (hv : Value.okWide P w .any base t v) : ∃ cs, v = .agg cs := by
  unfold Value.okWide at hv
  rw [ht] at hv
  obtain ⟨cs, h, _⟩ := hv
  exact ⟨cs, h⟩

/-- an argument of a struct's type -/
theorem Rd.argS {α : Type} {f : α → List AV} {ok : α → Prop} {n : Nat} (h : Rd P t α f ok n) {fs : Array Field} (ht : P.underlying t = some (.struct fs)) {w : World} {H : Type} {enc : TypeId × Value → H} {base base' : Nat} {spare : Nat → Bool} {held : Bool} {v : Value} {d : DataW H} {ps : List MemPlace}
    (hv : Value.okWide P w .any base' t v) (hd : DataW.Trod enc P w base spare held t v d ps) : ∃ a, ok a ∧ I w (fun _ => none) (.agg (f a)) v := by
  obtain ⟨cs, rfl⟩ := cells_agg ht hv
  obtain ⟨a, h1, h2⟩ := h.arg hd
  exact ⟨a, h1, h2.agg⟩

theorem cells_slice {w : World} {base : Nat} {e : TypeId} {v : Value} (ht : P.underlying t = some (.slice e)) (hv : Value.okWide P w .any base t v) : v.cells.toList = [v] := by
  unfold Value.okWide at hv
  rw [ht] at hv
  unfold Cell.okWide at hv
  rw [ht] at hv
  cases v with
  | agg cs => simp [Cell.ok, ht] at hv
  | _ => rfl

theorem cells_int {w : World} {base : Nat} {k : IntKind} {v : Value} (ht : P.underlying t = some (.int k)) (hv : Value.okWide P w .any base t v) : v.cells.toList = [v] := by
  unfold Value.okWide at hv
  rw [ht] at hv
  unfold Cell.okWide at hv
  rw [ht] at hv
  cases v with
  | agg cs => simp [Cell.ok, ht] at hv
  | _ => rfl

theorem cells_str {w : World} {base : Nat} {v : Value} (ht : P.underlying t = some .string) (hv : Value.okWide P w .any base t v) : v.cells.toList = [v] := by
  unfold Value.okWide at hv
  rw [ht] at hv
  unfold Cell.okWide at hv
  rw [ht] at hv
  cases v with
  | agg cs => simp [Cell.ok, ht] at hv
  | _ => rfl

/-- an argument of one cell -/
theorem Rd.arg1 {α : Type} {f : α → List AV} {ok : α → Prop} {n : Nat} (h : Rd P t α f ok n) {g : α → AV} (hg : ∀ a, f a = [g a]) {w : World} {H : Type} {enc : TypeId × Value → H} {base : Nat} {spare : Nat → Bool} {held : Bool} {v : Value} {d : DataW H} {ps : List MemPlace}
    (hv : v.cells.toList = [v]) (hd : DataW.Trod enc P w base spare held t v d ps) : ∃ a, ok a ∧ I w (fun _ => none) (g a) v := by
  obtain ⟨a, h1, h2⟩ := h.arg hd
  rw [hv, hg] at h2
  exact ⟨a, h1, h2.2.1 0 _ _ rfl rfl⟩

/-- an argument reads behind the call as it did -/
theorem Kept.trod {H : Type} {enc : TypeId × Value → H} (hl : laidOutB P = true) (hr : P.readableRec t = true) (hrow : t < P.types.size) {W W' : World} {v : Value} {d : DataW H} {ps : List MemPlace} (hk : Kept W W')
    (h : DataW.Trod enc P W 0 (fun _ => true) true t v d ps) (hlt : ∀ x ∈ ps, x.block < W.heap.size) {sp : Nat → Bool} (hs : ∀ p ∈ ps, sp p.block = true) : DataW.Trod enc P W' 0 sp true t v d ps := by
  refine WideElems.Trod_stays hl hr hrow h (fun x hx => ?_) hs
  cases x with
  | cell b o => exact World.cell?_of_block (w := W) (hk.heap b (hlt _ hx))
  | map b => exact hk.heap b (hlt _ hx)
end
end Go.AM

/-! ### Pu -/
set_option linter.unusedVariables false
set_option linter.unusedSimpArgs false
namespace Go.AM

theorem wrap64 {n : Int} (h1 : -9223372036854775808 ≤ n) (h2 : n ≤ 9223372036854775807) : IntKind.wrap .i64 n = n := by
  simp [IntKind.wrap, IntKind.bits, IntKind.signed]
  omega
theorem wrapi {i n : Nat} (h : i < n) (hn : n ≤ 9223372036854775807) : IntKind.wrap .i64 ((i : Int) + 1) = (i : Int) + 1 := wrap64 (by omega) (by omega)

/-! sizes -/
def subz (z : Int) (n : Nat) : Int := if z < n then -1 else z - n
theorem subz_neg {z : Int} {n : Nat} : subz z n < 0 ↔ z < n := by unfold subz; split <;> omega
theorem subz_nn {z : Int} {n : Nat} : 0 ≤ subz z n ↔ n ≤ z := by unfold subz; split <;> omega
theorem subz_ok {z : Int} {n : Nat} (h : n ≤ z) : subz z n = z - n := by unfold subz; split <;> omega
theorem subz_no {z : Int} {n : Nat} (h : z < n) : subz z n = -1 := by unfold subz; rw [if_pos h]
theorem sum_take {α : Type} {l : List α} {i : Nat} {x : α} {f : α → Nat} (h : l[i]? = some x) : ((l.map f).take (i + 1)).sum = ((l.map f).take i).sum + f x := by
  rw [List.take_add_one, List.getElem?_map, h]; simp
theorem sum_le {α : Type} {f : α → Nat} {l : List α} {i : Nat} : ((l.map f).take i).sum ≤ (l.map f).sum := by
  conv => rhs; rw [← List.take_append_drop i (l.map f), List.sum_append]
  omega
theorem sum_mem {α : Type} {f : α → Nat} {l : List α} {x : α} (h : x ∈ l) : f x ≤ (l.map f).sum := by
  induction l with
  | nil => cases h
  | cons y l ih =>
    simp only [List.map_cons, List.sum_cons]
    rcases List.mem_cons.1 h with rfl | h
    · omega
    · have := ih h; omega
theorem sum_at {α : Type} {f : α → Nat} {l : List α} {i : Nat} {x : α} (h : l[i]? = some x) : f x ≤ (l.map f).sum := sum_mem (List.mem_of_getElem? h)
theorem at_some {α : Type} {l : List α} {i : Nat} (h : i < l.length) : ∃ x, l[i]? = some x := ⟨l[i], List.getElem?_eq_getElem h⟩
theorem at_lt {α : Type} {l : List α} {i : Nat} {x : α} (h : l[i]? = some x) : i < l.length := (List.getElem?_eq_some_iff.1 h).1

/-! equal slices -/
theorem eq_ne_len {α : Type} [DecidableEq α] {a b : List α} (h : ¬ a.length = b.length) : decide (a = b) = false := by
  rw [decide_eq_false_iff_not]; rintro rfl; exact h rfl
theorem eq_ne_at {α : Type} [DecidableEq α] {a b : List α} {i : Nat} {x y : α} (hx : a[i]? = some x) (hy : b[i]? = some y) (h : ¬ x = y) : decide (a = b) = false := by
  rw [decide_eq_false_iff_not]; rintro rfl; rw [hx] at hy; cases hy; exact h rfl
theorem eq_end {α : Type} [DecidableEq α] {a b : List α} {i : Nat} (hl : a.length = b.length) (h : a.take i = b.take i) (hi : a.length ≤ i) : decide (a = b) = true := by
  rw [decide_eq_true_eq]; rwa [List.take_of_length_le hi, List.take_of_length_le (by omega)] at h
theorem take_step {α : Type} {a b : List α} {i : Nat} {x y : α} (hx : a[i]? = some x) (hy : b[i]? = some y) (e : x = y) (h : a.take i = b.take i) : a.take (i + 1) = b.take (i + 1) := by
  rw [List.take_add_one, List.take_add_one, h, hx, hy, e]

/-! slices that are filled -/
def fill {α : Type} (f : α → List AV) (z : List AV) (l : List α) (i : Nat) : List (List AV) := (l.take i).map f ++ List.replicate (l.length - i) z
theorem fill_len {α : Type} {f : α → List AV} {z : List AV} {l : List α} {i : Nat} (h : i ≤ l.length) : (fill f z l i).length = l.length := by simp [fill]; omega
theorem fill_at {α : Type} {f : α → List AV} {z : List AV} {l : List α} {i : Nat} (h : i < l.length) : (fill f z l i)[i]? = some z := by
  unfold fill
  rw [List.getElem?_append_right (by simp; omega), List.getElem?_replicate, if_pos (by simp; omega)]
theorem fill_set {α : Type} {f : α → List AV} {z : List AV} {l : List α} {i : Nat} {x : α} (h : l[i]? = some x) : (fill f z l i).set i (f x) = fill f z l (i + 1) := by
  obtain ⟨hi, hx⟩ := List.getElem?_eq_some_iff.1 h
  unfold fill
  have e : l.length - i = (l.length - (i + 1)) + 1 := by omega
  rw [e, List.replicate_succ, List.set_append, if_neg (by simp; omega), List.take_add_one, h]
  have e2 : i - ((l.take i).map f).length = 0 := by simp; omega
  rw [e2]
  simp
theorem fill_zero {α : Type} (f : α → List AV) (z : List AV) (l : List α) : fill f z l 0 = List.replicate l.length z := by simp [fill]
theorem fill_end {α : Type} {f : α → List AV} {z : List AV} {l : List α} {i : Nat} (h : l.length ≤ i) : fill f z l i = l.map f := by
  unfold fill; rw [List.take_of_length_le h, show l.length - i = 0 by omega]; simp
theorem fill_ids {α : Type} {f : α → List AV} {z : List AV} {l : List α} {i : Nat} (hf : ∀ x, idsL (f x) = []) (hz : idsL z = []) : (fill f z l i).flatMap idsL = [] := by
  unfold fill
  rw [List.flatMap_append, flatids hf]
  simp [hz]

def TStep.gok (x : TStep) : Prop := x.name.length ≤ 9223372036854775807 ∧ x.cond.length ≤ 9223372036854775807 ∧ x.expr.length ≤ 9223372036854775807
def TGNode.gok (x : TGNode) : Prop := x.name.length ≤ 9223372036854775807 ∧ x.expr.length ≤ 9223372036854775807
def TFlow.gok (x : TFlow) : Prop := x.cond.length ≤ 9223372036854775807
def TGraph.gok (x : TGraph) : Prop := (x.nodes.length ≤ 9223372036854775807 ∧ ∀ e ∈ x.nodes, e.gok) ∧ (x.flows.length ≤ 9223372036854775807 ∧ ∀ e ∈ x.flows, e.gok)
def TRun.gok (x : TRun) : Prop := x.vars.length ≤ 9223372036854775807 ∧ x.marks.length ≤ 9223372036854775807 ∧ x.dues.length ≤ 9223372036854775807
def TChart.gok (x : TChart) : Prop := x.vars.length ≤ 9223372036854775807 ∧ x.acts.length ≤ 9223372036854775807 ∧ x.dues.length ≤ 9223372036854775807
def TAct.gok (x : TAct) : Prop := x.vars.length ≤ 9223372036854775807
def TProc.gok (x : TProc) : Prop := (x.steps.length ≤ 9223372036854775807 ∧ ∀ e ∈ x.steps, e.gok)
def TInst.gok (x : TInst) : Prop := x.chart.gok
def TEngine.gok (x : TEngine) : Prop := (x.procs.length ≤ 9223372036854775807 ∧ ∀ e ∈ x.procs, e.gok) ∧ (x.insts.length ≤ 9223372036854775807 ∧ ∀ e ∈ x.insts, e.gok)
def TDesk.gok (x : TDesk) : Prop := x.engine.gok ∧ x.claims.length ≤ 9223372036854775807
def TJournal.gok (x : TJournal) : Prop := x.sure.length ≤ 9223372036854775807 ∧ x.loose.length ≤ 9223372036854775807
def TWorld.gok (x : TWorld) : Prop := x.desk.gok ∧ x.journal.gok
end Go.AM

/-! ### Ty -/
set_option linter.unusedVariables false
set_option linter.unusedSimpArgs false
namespace Go.AM
open Go.Proofs

def i2 : TInfo := ⟨(.int .i64), 1, 8, some [.int .i64 0], false⟩
theorem tyok2 : TOk1 Try.prog 2 i2 := tok1 Try.typeInfo2 rfl rfl (tz1 _ rfl rfl rfl rfl) Try.underlying2 (fun h => absurd h (by decide))
def i3 : TInfo := ⟨(.int .i64), 1, 8, some [.int .i64 0], false⟩
theorem tyok3 : TOk1 Try.prog 3 i3 := tok1 Try.typeInfo3 rfl rfl (tz1 _ rfl rfl rfl rfl) Try.underlying3 (fun h => absurd h (by decide))
def i4 : TInfo := ⟨.bool, 1, 1, some [.bool false], false⟩
theorem tyok4 : TOk1 Try.prog 4 i4 := tok1 Try.typeInfo4 rfl rfl (tz1 _ rfl rfl rfl rfl) Try.underlying4 (fun h => absurd h (by decide))
def i5 : TInfo := ⟨(.int .u8), 1, 1, some [.int .u8 0], false⟩
theorem tyok5 : TOk1 Try.prog 5 i5 := tok1 Try.typeInfo5 rfl rfl (tz1 _ rfl rfl rfl rfl) Try.underlying5 (fun h => absurd h (by decide))
def i9 : TInfo := ⟨.str, 1, 16, some [.str []], false⟩
theorem tyok9 : TOk1 Try.prog 9 i9 := tok1 Try.typeInfo9 rfl rfl (tz1 _ rfl rfl rfl rfl) Try.underlying9 (fun h => absurd h (by decide))
def i21 : TInfo := ⟨(.int .i32), 1, 4, some [.int .i32 0], false⟩
theorem tyok21 : TOk1 Try.prog 21 i21 := tok1 Try.typeInfo21 rfl rfl (tz1 _ rfl rfl rfl rfl) Try.underlying21 (fun h => absurd h (by decide))
def i22 : TInfo := ⟨(.slice 5), 1, 24, some [.nils], false⟩
theorem tyok22 : TOk1 Try.prog 22 i22 := tok1 Try.typeInfo22 rfl rfl (tz1 _ rfl rfl rfl rfl) Try.underlying22 (fun h => absurd h (by decide))
def i26 : TInfo := ⟨(.struct [(0, 2), (1, 22)]), 2, 32, some [.int .i64 0, .nils], false⟩
theorem tyok26 : TOk1 Try.prog 26 i26 := tok1 Try.typeInfo26 rfl rfl (tz1 _ rfl rfl rfl rfl) (kstruct Try.underlying26 rfl) (fun h => absurd h (by decide))
def i29 : TInfo := ⟨(.slice 9), 1, 24, some [.nils], false⟩
theorem tyok29 : TOk1 Try.prog 29 i29 := tok1 Try.typeInfo29 rfl rfl (tz1 _ rfl rfl rfl rfl) Try.underlying29 (fun h => absurd h (by decide))
def i31 : TInfo := ⟨(.struct [(0, 2), (1, 4), (2, 29)]), 3, 40, some [.int .i64 0, .bool false, .nils], false⟩
theorem tyok31 : TOk1 Try.prog 31 i31 := tok1 Try.typeInfo31 rfl rfl (tz1 _ rfl rfl rfl rfl) (kstruct Try.underlying31 rfl) (fun h => absurd h (by decide))
def i36 : TInfo := ⟨(.struct [(0, 22), (1, 22)]), 2, 48, some [.nils, .nils], false⟩
theorem tyok36 : TOk1 Try.prog 36 i36 := tok1 Try.typeInfo36 rfl rfl (tz1 _ rfl rfl rfl rfl) (kstruct Try.underlying36 rfl) (fun h => absurd h (by decide))
def i40 : TInfo := ⟨(.struct [(0, 2), (1, 2), (2, 36)]), 4, 64, some [.int .i64 0, .int .i64 0, .nils, .nils], false⟩
theorem tyok40 : TOk1 Try.prog 40 i40 := tok1 Try.typeInfo40 rfl rfl (tz1 _ rfl rfl rfl rfl) (kstruct Try.underlying40 rfl) (fun h => absurd h (by decide))
def i57 : TInfo := ⟨(.pointer 76), 1, 8, some [.nilp], false⟩
theorem tyok57 : TOk1 Try.prog 57 i57 := tok1 Try.typeInfo57 rfl rfl (tz1 _ rfl rfl rfl rfl) Try.underlying57 (fun h => absurd h (by decide))
def i69 : TInfo := ⟨(.pointer 36), 1, 8, some [.nilp], false⟩
theorem tyok69 : TOk1 Try.prog 69 i69 := tok1 Try.typeInfo69 rfl rfl (tz1 _ rfl rfl rfl rfl) Try.underlying69 (fun h => absurd h (by decide))
def i72 : TInfo := ⟨(.int .u64), 1, 8, some [.int .u64 0], false⟩
theorem tyok72 : TOk1 Try.prog 72 i72 := tok1 Try.typeInfo72 rfl rfl (tz1 _ rfl rfl rfl rfl) Try.underlying72 (fun h => absurd h (by decide))
def i73 : TInfo := ⟨(.slice 2), 1, 24, some [.nils], false⟩
theorem tyok73 : TOk1 Try.prog 73 i73 := tok1 Try.typeInfo73 rfl rfl (tz1 _ rfl rfl rfl rfl) Try.underlying73 (fun h => absurd h (by decide))
def i76 : TInfo := ⟨(.struct [(0, 22), (1, 2)]), 2, 32, some [.nils, .int .i64 0], false⟩
theorem tyok76 : TOk1 Try.prog 76 i76 := tok1 Try.typeInfo76 rfl rfl (tz1 _ rfl rfl rfl rfl) (kstruct Try.underlying76 rfl) (fun h => absurd h (by decide))
def i77 : TInfo := ⟨(.slice 22), 1, 24, some [.nils], false⟩
theorem tyok77 : TOk1 Try.prog 77 i77 := tok1 Try.typeInfo77 rfl rfl (tz1 _ rfl rfl rfl rfl) Try.underlying77 (fun h => absurd h (by decide))
def i87 : TInfo := ⟨(.int .u32), 1, 4, some [.int .u32 0], false⟩
theorem tyok87 : TOk1 Try.prog 87 i87 := tok1 Try.typeInfo87 rfl rfl (tz1 _ rfl rfl rfl rfl) Try.underlying87 (fun h => absurd h (by decide))
def i91 : TInfo := ⟨(.pointer 5), 1, 8, some [.nilp], false⟩
theorem tyok91 : TOk1 Try.prog 91 i91 := tok1 Try.typeInfo91 rfl rfl (tz1 _ rfl rfl rfl rfl) Try.underlying91 (fun h => absurd h (by decide))
def ti : TI := tiAdd 2 i2 (tiAdd 3 i3 (tiAdd 4 i4 (tiAdd 5 i5 (tiAdd 9 i9 (tiAdd 21 i21 (tiAdd 22 i22 (tiAdd 26 i26 (tiAdd 29 i29 (tiAdd 31 i31 (tiAdd 36 i36 (tiAdd 40 i40 (tiAdd 57 i57 (tiAdd 69 i69 (tiAdd 72 i72 (tiAdd 73 i73 (tiAdd 76 i76 (tiAdd 77 i77 (tiAdd 87 i87 (tiAdd 91 i91 (fun _ => none))))))))))))))))))))
theorem tiOk : TOk Try.prog ti := tok_add tyok2 (tok_add tyok3 (tok_add tyok4 (tok_add tyok5 (tok_add tyok9 (tok_add tyok21 (tok_add tyok22 (tok_add tyok26 (tok_add tyok29 (tok_add tyok31 (tok_add tyok36 (tok_add tyok40 (tok_add tyok57 (tok_add tyok69 (tok_add tyok72 (tok_add tyok73 (tok_add tyok76 (tok_add tyok77 (tok_add tyok87 (tok_add tyok91 (tok_nil))))))))))))))))))))
@[go_sem] theorem ti_2 : ti 2 = some ⟨(.int .i64), 1, 8, some [.int .i64 0], false⟩ := rfl
@[go_sem] theorem ti_3 : ti 3 = some ⟨(.int .i64), 1, 8, some [.int .i64 0], false⟩ := rfl
@[go_sem] theorem ti_4 : ti 4 = some ⟨.bool, 1, 1, some [.bool false], false⟩ := rfl
@[go_sem] theorem ti_5 : ti 5 = some ⟨(.int .u8), 1, 1, some [.int .u8 0], false⟩ := rfl
@[go_sem] theorem ti_9 : ti 9 = some ⟨.str, 1, 16, some [.str []], false⟩ := rfl
@[go_sem] theorem ti_21 : ti 21 = some ⟨(.int .i32), 1, 4, some [.int .i32 0], false⟩ := rfl
@[go_sem] theorem ti_22 : ti 22 = some ⟨(.slice 5), 1, 24, some [.nils], false⟩ := rfl
@[go_sem] theorem ti_26 : ti 26 = some ⟨(.struct [(0, 2), (1, 22)]), 2, 32, some [.int .i64 0, .nils], false⟩ := rfl
@[go_sem] theorem ti_29 : ti 29 = some ⟨(.slice 9), 1, 24, some [.nils], false⟩ := rfl
@[go_sem] theorem ti_31 : ti 31 = some ⟨(.struct [(0, 2), (1, 4), (2, 29)]), 3, 40, some [.int .i64 0, .bool false, .nils], false⟩ := rfl
@[go_sem] theorem ti_36 : ti 36 = some ⟨(.struct [(0, 22), (1, 22)]), 2, 48, some [.nils, .nils], false⟩ := rfl
@[go_sem] theorem ti_40 : ti 40 = some ⟨(.struct [(0, 2), (1, 2), (2, 36)]), 4, 64, some [.int .i64 0, .int .i64 0, .nils, .nils], false⟩ := rfl
@[go_sem] theorem ti_57 : ti 57 = some ⟨(.pointer 76), 1, 8, some [.nilp], false⟩ := rfl
@[go_sem] theorem ti_69 : ti 69 = some ⟨(.pointer 36), 1, 8, some [.nilp], false⟩ := rfl
@[go_sem] theorem ti_72 : ti 72 = some ⟨(.int .u64), 1, 8, some [.int .u64 0], false⟩ := rfl
@[go_sem] theorem ti_73 : ti 73 = some ⟨(.slice 2), 1, 24, some [.nils], false⟩ := rfl
@[go_sem] theorem ti_76 : ti 76 = some ⟨(.struct [(0, 22), (1, 2)]), 2, 32, some [.nils, .int .i64 0], false⟩ := rfl
@[go_sem] theorem ti_77 : ti 77 = some ⟨(.slice 22), 1, 24, some [.nils], false⟩ := rfl
@[go_sem] theorem ti_87 : ti 87 = some ⟨(.int .u32), 1, 4, some [.int .u32 0], false⟩ := rfl
@[go_sem] theorem ti_91 : ti 91 = some ⟨(.pointer 5), 1, 8, some [.nilp], false⟩ := rfl
end Go.AM

/-! ### Rd -/
set_option linter.unusedVariables false
set_option linter.unusedSimpArgs false
namespace Go.AM
open Go.Proofs
open Go.ChangeShapes Go.WideShapes Go.RowKit
set_option linter.unusedVariables false

abbrev rd_5 := Rd.byte (t := 5) (cellsOf_of tiOk ti_5) Try.underlying5
abbrev rd_22 := Rd.slice (t := 22) rd_5 (by decide) (cellsOf_of tiOk ti_22) Try.underlying22
end Go.AM

/-! ### Pv -/
set_option linter.unusedVariables false
set_option linter.unusedSimpArgs false
namespace Go.AM

/-! chapter 1 -/
def inR (n lo hi : Int) : Bool := decide (lo ≤ n) && decide (n ≤ hi)
theorem inR_iff {n lo hi : Int} : inR n lo hi = true ↔ lo ≤ n ∧ n ≤ hi := by simp [inR]
theorem inR_not {n lo hi : Int} : inR n lo hi = false ↔ ¬ (lo ≤ n ∧ n ≤ hi) := by rw [← inR_iff]; simp
def isP (c : UInt8) : Bool := decide (32 ≤ (c.toNat : Int)) && decide ((c.toNat : Int) ≤ 126)
theorem all_take {α : Type} {s : List α} {p : α → Bool} {i : Nat} {x : α} (hx : s[i]? = some x) (h : (s.take i).all p = true) : (s.take (i + 1)).all p = p x := by
  rw [List.take_add_one, List.all_append, h, hx]; simp
theorem all_not {α : Type} {s : List α} {p : α → Bool} {i : Nat} {x : α} (hx : s[i]? = some x) (h : p x = false) : s.all p = false := by
  rw [List.all_eq_false]; exact ⟨x, List.mem_of_getElem? hx, by simp [h]⟩
theorem all_end {α : Type} {s : List α} {p : α → Bool} {i : Nat} (hi : s.length ≤ i) (h : (s.take i).all p = true) : s.all p = true := by rwa [List.take_of_length_le hi] at h

def firstC (l : List Int) : Int := (l.find? (fun n => decide (n ≠ 0))).getD 0
theorem firstC_step {l : List Int} {i : Nat} {x : Int} (h : l[i]? = some x) : firstC (l.drop i) = if x = 0 then firstC (l.drop (i + 1)) else x := by
  obtain ⟨hi, hx⟩ := List.getElem?_eq_some_iff.1 h
  rw [List.drop_eq_getElem_cons hi, hx]
  unfold firstC
  by_cases h0 : x = 0
  · simp [h0]
  · simp [h0]
theorem firstC_end {l : List Int} {i : Nat} (h : l.length ≤ i) : firstC (l.drop i) = 0 := by
  rw [List.drop_eq_nil_of_le h]; rfl
theorem firstC_nil : firstC [] = 0 := rfl
theorem firstC_cons (x : Int) (l : List Int) : firstC (x :: l) = if x = 0 then firstC l else x := by
  unfold firstC
  by_cases h0 : x = 0
  · simp [h0]
  · simp [h0]

def lineF (s : List UInt8) : Int := if s.length < 1 ∨ 40 < s.length then 2 else if s.all isP then 0 else 5
theorem lineF_eq (s : List UInt8) : firstC [if (!(inR s.length 1 40)) = true then 2 else 0, if (!s.all isP) = true then 5 else 0] = lineF s := by
  by_cases h : s.length < 1 ∨ 40 < s.length
  · have e : inR s.length 1 40 = false := inR_not.2 (by omega)
    simp only [firstC_cons, firstC_nil, lineF, if_pos h, e]
    simp
  · have e : inR s.length 1 40 = true := inR_iff.2 (by omega)
    simp only [firstC_cons, firstC_nil, lineF, if_neg h, e]
    cases s.all isP <;> simp
theorem lineF_bad {s : List UInt8} (h : s.length < 1 ∨ 40 < s.length) : lineF s = 2 := by rw [lineF, if_pos h]
theorem lineF_good {s : List UInt8} {b : Bool} (h : ¬ (s.length < 1 ∨ 40 < s.length)) (hb : s.all isP = b) : lineF s = if b then 0 else 5 := by rw [lineF, if_neg h, hb]

/-! slices of Go's library -/
/-- the first index of what is so, counted from i; -1: none -/
def idxF {α : Type} (p : α → Bool) : List α → Nat → Int
  | [], _ => -1
  | x :: r, i => if p x then i else idxF p r (i + 1)
theorem idxF_step {α : Type} {p : α → Bool} {l : List α} {i : Nat} {x : α} (h : l[i]? = some x) : idxF p (l.drop i) i = if p x then (i : Int) else idxF p (l.drop (i + 1)) (i + 1) := by
  obtain ⟨hi, hx⟩ := List.getElem?_eq_some_iff.1 h
  rw [List.drop_eq_getElem_cons hi, hx]; rfl
theorem idxF_end {α : Type} {p : α → Bool} {l : List α} {i : Nat} (h : l.length ≤ i) : idxF p (l.drop i) i = -1 := by rw [List.drop_eq_nil_of_le h]; rfl
theorem idxF_any {α : Type} {p : α → Bool} : ∀ (l : List α) (i : Nat), decide (0 ≤ idxF p l i) = l.any p := by
  intro l
  induction l with
  | nil => intro i; simp [idxF]
  | cons x l ih =>
    intro i
    simp only [idxF, List.any_cons]
    by_cases hp : p x = true
    · simp [hp]
    · simpa [hp] using ih (i + 1)

/-! chapter 3 -/
def small (n : Int) : Bool := inR n (-1000000) 1000000
def varsF (l : List Int) : Int := if l.length ≠ 4 then 2 else if l.all small then 0 else 3
theorem varsF_eq (l : List Int) : firstC [if (!decide ((l.length : Int) = 4)) = true then 2 else 0, if (l.any fun n => !small n) = true then 3 else 0] = varsF l := by
  simp only [firstC_cons, firstC_nil, varsF]
  have e : (l.any fun n => !small n) = !l.all small := by simp [List.all_eq_not_any_not]
  rw [e]
  by_cases h : l.length = 4
  · have h2 : (l.length : Int) = 4 := by omega
    by_cases hs : l.all small = true
    · simp [h, h2, hs]
    · simp [h, h2, hs]
  · have h2 : ¬ (l.length : Int) = 4 := by omega
    simp [h, h2]

/-! chapter 10 -/
def actF (a : TAct) : Int :=
  if inR a.kind 1 3 = false ∨ (a.kind ≠ 1 ∧ 0 < a.vars.length) then 1 else if inR a.at_ 0 9999 = false then 3 else if a.kind = 1 then varsF a.vars else 0
end Go.AM

/-! ### Pw -/
set_option linter.unusedVariables false
set_option linter.unusedSimpArgs false
namespace Go.AM
def TIntsResult.gok (x : TIntsResult) : Prop := x.list.length ≤ 9223372036854775807
def TTextResult.gok (x : TTextResult) : Prop := x.text.length ≤ 9223372036854775807
def TBytesResult.gok (x : TBytesResult) : Prop := x.bytes.length ≤ 9223372036854775807
def TLinesResult.gok (x : TLinesResult) : Prop := (x.lines.length ≤ 9223372036854775807 ∧ ∀ e ∈ x.lines, e.length ≤ 9223372036854775807)
def TJournalResult.gok (x : TJournalResult) : Prop := x.journal.gok
def TProcResult.gok (x : TProcResult) : Prop := (x.proc.length ≤ 9223372036854775807 ∧ ∀ e ∈ x.proc, e.gok)
def TGraphResult.gok (x : TGraphResult) : Prop := x.graph.gok
def TRunResult.gok (x : TRunResult) : Prop := x.run.gok
def TChartResult.gok (x : TChartResult) : Prop := x.chart.gok
def TEngineResult.gok (x : TEngineResult) : Prop := x.engine.gok
def TDeskResult.gok (x : TDeskResult) : Prop := x.desk.gok
def TOfferResult.gok (x : TOfferResult) : Prop := x.claims.length ≤ 9223372036854775807

/-! bytes -/
@[go_sem ↓ high] theorem encB_B1 (s : List UInt8) : encB s = s.map B1 := rfl
theorem byteOfCell_B1 (b : UInt8) : byteOfCell [.int .u8 b.toNat] = some b := by
  have := b.toNat_lt
  simp [byteOfCell]; omega
theorem decB_B1 (s : List UInt8) : decB (s.map B1) = some s := decB_encB s
attribute [go_sem ↓ high] decB_B1 byteOfCell_B1
def b8 (n : Int) : UInt8 := UInt8.ofNat (n % 256).toNat
@[go_sem] theorem wrap_u8 (n : Int) : IntKind.wrap .u8 n = ((b8 n).toNat : Int) := by
  have h : (UInt8.ofNat (n % 256).toNat).toNat = (n % 256).toNat := by rw [UInt8.toNat_ofNat']; omega
  simp only [b8, h, IntKind.wrap, IntKind.bits, IntKind.signed]
  simp
  omega

/-! the digits of a mark -/
def digs : Nat → Int → List UInt8 → List UInt8
  | 0, _, acc => acc
  | n + 1, k, acc => if 0 < k then digs n (k / 10) (b8 (48 + k % 10) :: acc) else acc
def mt (k : Int) : List UInt8 := if k ≤ 0 then [109, 48] else 109 :: digs k.toNat k []
theorem digs_more : ∀ (n m : Nat) (k : Int) (acc : List UInt8), k.toNat ≤ n → k.toNat ≤ m → digs n k acc = digs m k acc := by
  intro n
  induction n with
  | zero =>
    intro m k acc h _
    have : ¬ 0 < k := by omega
    cases m with
    | zero => rfl
    | succ m => simp [digs, this]
  | succ n ih =>
    intro m k acc h h2
    cases m with
    | zero =>
      have : ¬ 0 < k := by omega
      simp [digs, this]
    | succ m =>
      simp only [digs]
      split
      · exact ih m _ _ (by omega) (by omega)
      · rfl
theorem digs_len : ∀ (n : Nat) (k : Int) (acc : List UInt8) (d : Nat), k < 10 ^ d → (digs n k acc).length ≤ acc.length + d := by
  intro n
  induction n with
  | zero => intro k acc d _; simp [digs]
  | succ n ih =>
    intro k acc d h
    simp only [digs]
    split
    · rename_i hk
      cases d with
      | zero => simp at h; omega
      | succ d =>
        have := ih (k / 10) (b8 (48 + k % 10) :: acc) d (by rw [Int.pow_succ] at h; omega)
        simp at this; omega
    · omega

theorem digs_zero {n : Nat} {k : Int} {acc : List UInt8} (h : k ≤ 0) : digs n k acc = acc := by
  cases n with
  | zero => rfl
  | succ n => simp only [digs]; rw [if_neg (by omega)]
theorem digs_step {k : Int} {acc : List UInt8} (h : 0 < k) : digs k.toNat k acc = digs (k / 10).toNat (k / 10) (b8 (48 + k % 10) :: acc) := by
  obtain ⟨n, hn⟩ : ∃ n, k.toNat = n + 1 := ⟨k.toNat - 1, by omega⟩
  rw [hn]
  simp only [digs]
  rw [if_pos h]
  exact digs_more _ _ _ _ (by omega) (by omega)
theorem mt_big {k : Int} {n : Nat} (h : 0 < k) (h2 : k * 10 ^ n ≤ 4611686018427387904) : k ≤ 4611686018427387904 := by
  have h10 : (1 : Int) ≤ 10 ^ n := by have : (0 : Int) < 10 ^ n := Int.pow_pos (by omega); omega
  have := Int.mul_le_mul_of_nonneg_left h10 (show 0 ≤ k by omega)
  omega
theorem mt_step {k : Int} {n : Nat} (h : 0 < k) (h2 : k * 10 ^ n ≤ 4611686018427387904) : n ≤ 18 ∧ (k / 10) * 10 ^ (n + 1) ≤ 4611686018427387904 := by
  have h10 : (0 : Int) ≤ 10 ^ n := Int.pow_nonneg (by omega)
  refine ⟨?_, ?_⟩
  · rcases Nat.lt_or_ge 18 n with hn | hn
    · exfalso
      have e : (10 : Int) ^ n = 10 ^ 19 * 10 ^ (n - 19) := by rw [← Int.pow_add]; congr 1; omega
      have h1 : (1 : Int) ≤ 10 ^ (n - 19) := by have : (0 : Int) < 10 ^ (n - 19) := Int.pow_pos (by omega); omega
      have h3 : (10 : Int) ^ 19 * 1 ≤ 10 ^ 19 * 10 ^ (n - 19) := Int.mul_le_mul_of_nonneg_left h1 (by decide)
      have h4 : 1 * (10 : Int) ^ n ≤ k * 10 ^ n := Int.mul_le_mul_of_nonneg_right (by omega) h10
      have h5 : (10 : Int) ^ 19 * 1 = 10000000000000000000 := by decide
      omega
    · exact hn
  · have e : (k / 10) * 10 ^ (n + 1) = (k / 10 * 10) * 10 ^ n := by rw [Int.pow_succ]; rw [Int.mul_comm (10 ^ n) 10, ← Int.mul_assoc]
    rw [e]
    have : (k / 10 * 10) * 10 ^ n ≤ k * 10 ^ n := Int.mul_le_mul_of_nonneg_right (by omega) h10
    omega

/-! marks -/
def mkP {α : Type} (f : Int → α) (l : List α) (k : Int) (i : Nat) : List α := (List.range i).map (fun (j : Nat) => f (k + j)) ++ l.drop i
def mkL {α : Type} (f : Int → α) (n : Nat) (k : Int) : List α := (List.range n).map fun (j : Nat) => f (k + j)
theorem mkL_len {α : Type} {f : Int → α} {n : Nat} {k : Int} : (mkL f n k).length = n := by simp [mkL]
theorem mkL_at {α : Type} {f : Int → α} {n : Nat} {k : Int} {i : Nat} (h : i < n) : (mkL f n k)[i]? = some (f (k + i)) := by simp [mkL, h]
theorem mkP_len {α : Type} {f : Int → α} {l : List α} {k : Int} {i : Nat} (h : i ≤ l.length) : (mkP f l k i).length = l.length := by simp [mkP]; omega
theorem mkP_zero {α : Type} (f : Int → α) (l : List α) (k : Int) : mkP f l k 0 = l := by simp [mkP]
theorem mkP_end {α : Type} {f : Int → α} {l : List α} {k : Int} {i : Nat} (h : i = l.length) : mkP f l k i = mkL f l.length k := by subst h; simp [mkP, mkL]
theorem mkP_set {α : Type} {f : Int → α} {l : List α} {k : Int} {i : Nat} (h : i < l.length) : (mkP f l k i).set i (f (k + i)) = mkP f l k (i + 1) := by
  unfold mkP
  rw [List.set_append, if_neg (by simp), List.range_succ, List.map_append]
  have e2 : i - ((List.range i).map fun (j : Nat) => f (k + j)).length = 0 := by simp
  rw [e2, List.drop_eq_getElem_cons h, List.set_cons_zero, List.append_assoc]
  rfl
theorem mkP_at {α : Type} {f : Int → α} {l : List α} {k : Int} {i : Nat} {x : α} (h : l[i]? = some x) : (mkP f l k i)[i]? = some x := by
  have hi := at_lt h
  unfold mkP
  rw [List.getElem?_append_right (by simp)]
  simp [h]
end Go.AM

/-! ### Pj -/
set_option linter.unusedVariables false
set_option linter.unusedSimpArgs false
namespace Go.AM

attribute [go_sem] renS AV.ren renL
@[go_sem ↓ high] theorem tree_app (a b : List (List AV)) : (∀ c ∈ a ++ b, ∀ x ∈ c, AV.tree x = true) ↔ (∀ c ∈ a, ∀ x ∈ c, AV.tree x = true) ∧ (∀ c ∈ b, ∀ x ∈ c, AV.tree x = true) := List.forall_mem_append
attribute [go_sem ↓ high] I1_treeL B1_treeL S1_treeL
theorem tree_sub {α : Type} {f : α → List AV} {l : List α} (h : (∀ c ∈ l.map f, ∀ x ∈ c, AV.tree x = true) ↔ True) {m : List (List AV)} (hm : ∀ c ∈ m, c ∈ l.map f) : (∀ c ∈ m, ∀ x ∈ c, AV.tree x = true) ↔ True :=
  ⟨fun _ => trivial, fun _ c hc => h.2 trivial c (hm c hc)⟩
@[go_sem ↓ high] theorem B1_treeT (l : List UInt8) (n : Nat) : (∀ c ∈ List.take n (l.map B1), ∀ x ∈ c, AV.tree x = true) ↔ True := tree_sub (B1_treeL l) fun _ => List.mem_of_mem_take
@[go_sem ↓ high] theorem I1_treeT (l : List Int) (n : Nat) : (∀ c ∈ List.take n (l.map I1), ∀ x ∈ c, AV.tree x = true) ↔ True := tree_sub (I1_treeL l) fun _ => List.mem_of_mem_take
@[go_sem ↓ high] theorem S1_treeT (l : List (List UInt8)) (n : Nat) : (∀ c ∈ List.take n (l.map S1), ∀ x ∈ c, AV.tree x = true) ↔ True := tree_sub (S1_treeL l) fun _ => List.mem_of_mem_take
@[go_sem high] theorem B1_comp : (fun x => List.map unown x) ∘ B1 = B1 := rfl
@[go_sem high] theorem I1_comp : (fun x => List.map unown x) ∘ I1 = I1 := rfl
@[go_sem high] theorem S1_comp : (fun x => List.map unown x) ∘ S1 = S1 := rfl
attribute [go_sem] mkL_len
@[go_sem] theorem take_dropl {α β : Type} (f : α → β) (l : List α) (k : Nat) : List.take (l.length - k) (List.drop k (l.map f)) = List.drop k (l.map f) := List.take_of_length_le (by simp)
@[go_sem] theorem take_mkL {α : Type} (g : α → List AV) (f : Int → α) (n : Nat) (k : Int) : List.take n ((mkL f n k).map g) = (mkL f n k).map g := List.take_of_length_le (by simp [mkL])
@[go_sem ↓ high] theorem decB_td (s : List UInt8) (a b : Nat) : decB (List.take a (List.drop b (s.map B1))) = some (List.take a (List.drop b s)) := by rw [← List.map_drop, ← List.map_take]; exact decB_B1 _
@[go_sem ↓ high] theorem decB_dt (s : List UInt8) (a b : Nat) : decB (List.drop a (List.take b (s.map B1))) = some (List.drop a (List.take b s)) := by rw [← List.map_take, ← List.map_drop]; exact decB_B1 _
@[go_sem ↓ high] theorem decB_t (s : List UInt8) (a : Nat) : decB (List.take a (s.map B1)) = some (List.take a s) := by rw [← List.map_take]; exact decB_B1 _
@[go_sem ↓ high] theorem decB_d (s : List UInt8) (a : Nat) : decB (List.drop a (s.map B1)) = some (List.drop a s) := by rw [← List.map_drop]; exact decB_B1 _
@[go_sem] theorem wrap_i64_byte (b : UInt8) : IntKind.wrap .i64 (b.toNat : Int) = (b.toNat : Int) := by have := b.toNat_lt; exact wrap64 (by omega) (by omega)

/-! chapter 13: a line, packed -/
def sumB (l : List UInt8) (s : Int) : Int := l.foldl (fun s b => (s * 251 + b.toNat) % 65521) s
theorem sumB_bd : ∀ (l : List UInt8) (s : Int), 0 ≤ s ∧ s < 65521 → 0 ≤ sumB l s ∧ sumB l s < 65521 := by
  intro l
  induction l with
  | nil => intro s h; exact h
  | cons x l ih => intro s h; exact ih ((s * 251 + (x.toNat : Int)) % 65521) (by omega)
theorem sumB_step {l : List UInt8} {i : Nat} {x : UInt8} {s : Int} (h : l[i]? = some x) : sumB (l.take (i + 1)) s = (sumB (l.take i) s * 251 + x.toNat) % 65521 := by
  rw [List.take_add_one, h]; simp [sumB, List.foldl_append]
def pkH (s : List UInt8) : List UInt8 := b8 s.length :: s
def pk (s : List UInt8) : List UInt8 := pkH s ++ [b8 (sumB (pkH s) 1 / 256), b8 (sumB (pkH s) 1)]
theorem pkH_len (s : List UInt8) : (pkH s).length = s.length + 1 := rfl
theorem pk_len (s : List UInt8) : (pk s).length = s.length + 3 := by simp [pk, pkH]
theorem pk_cons (s : List UInt8) : ∃ x r, pk s = x :: r := ⟨_, _, rfl⟩
theorem b8_mod (n : Int) : b8 (n % 256) = b8 n := by unfold b8; rw [Int.emod_emod_of_dvd n (Int.dvd_refl 256)]
def packR (s : List UInt8) : TBytesResult := if lineF s = 0 then ⟨0, pk s⟩ else ⟨lineF s, []⟩
def hasP (d p : List UInt8) : Bool := decide (p.length ≤ d.length) && decide (d.take p.length = p)

/-! chapter 13: the line at a beginning -/
def n0 (d : List UInt8) : Nat := (d.headD 0).toNat
def lnT (d : List UInt8) : List UInt8 := (d.take (n0 d + 1)).drop 1
def isL (d : List UInt8) : Bool := decide (n0 d + 3 ≤ d.length) && decide (lineF (lnT d) = 0) && decide (d.take (n0 d + 3) = pk (lnT d))
theorem n0_cons (x : UInt8) (r : List UInt8) : n0 (x :: r) = x.toNat := rfl
theorem n0_lt (d : List UInt8) : n0 d < 256 := (d.headD 0).toNat_lt
theorem lnT_cons (x : UInt8) (r : List UInt8) : lnT (x :: r) = r.take x.toNat := by simp [lnT, n0]
theorem lnT_le (d : List UInt8) : (lnT d).length ≤ 255 := by have := n0_lt d; simp [lnT]; omega
theorem lnT_len {d : List UInt8} (h : n0 d + 3 ≤ d.length) : (lnT d).length = n0 d := by simp [lnT]; omega
theorem isL_nil : isL [] = false := by simp [isL, n0]
theorem isL_cons (x : UInt8) (r : List UInt8) : isL (x :: r) = (decide (x.toNat + 2 ≤ r.length) && decide (lineF (r.take x.toNat) = 0) && decide (x :: r.take (x.toNat + 2) = pk (r.take x.toNat))) := by
  simp [isL, n0, lnT]
theorem isL_bd {d : List UInt8} (h : isL d = true) : n0 d + 3 ≤ d.length ∧ lineF (lnT d) = 0 ∧ 1 ≤ n0 d := by
  simp only [isL, Bool.and_eq_true, decide_eq_true_eq] at h
  obtain ⟨⟨h1, h2⟩, _⟩ := h
  refine ⟨h1, h2, ?_⟩
  have h3 := lnT_len h1
  rcases Nat.eq_zero_or_pos (n0 d) with h0 | h0
  · rw [lineF_bad (by omega)] at h2; cases h2
  · exact h0

def rdL : Nat → List UInt8 → List (List UInt8) × Nat
  | 0, _ => ([], 0)
  | f + 1, d => if isL d = true then (lnT d :: (rdL f (d.drop (n0 d + 3))).1, n0 d + 3 + (rdL f (d.drop (n0 d + 3))).2) else ([], 0)
def rd (d : List UInt8) : List (List UInt8) × Nat := rdL d.length d
theorem rdL_more : ∀ (n m : Nat) (d : List UInt8), d.length ≤ n → d.length ≤ m → rdL n d = rdL m d := by
  intro n
  induction n with
  | zero =>
    intro m d h _
    have : d = [] := List.eq_nil_of_length_eq_zero (by omega)
    subst this
    cases m with
    | zero => rfl
    | succ m => simp [rdL, isL_nil]
  | succ n ih =>
    intro m d h h2
    cases m with
    | zero =>
      have : d = [] := List.eq_nil_of_length_eq_zero (by omega)
      subst this
      simp [rdL, isL_nil]
    | succ m =>
      simp only [rdL]
      split
      · rename_i hl
        have := isL_bd hl
        rw [ih m (d.drop (n0 d + 3)) (by simp; omega) (by simp; omega)]
      · rfl
theorem rd_yes {d : List UInt8} (h : isL d = true) : rd d = (lnT d :: (rd (d.drop (n0 d + 3))).1, n0 d + 3 + (rd (d.drop (n0 d + 3))).2) := by
  have hb := isL_bd h
  obtain ⟨m, hm⟩ : ∃ m, d.length = m + 1 := ⟨d.length - 1, by omega⟩
  unfold rd
  rw [hm]
  simp only [rdL]
  rw [if_pos h, rdL_more m (d.drop (n0 d + 3)).length (d.drop (n0 d + 3)) (by simp; omega) (Nat.le_refl _)]
theorem rd_no {d : List UInt8} (h : isL d = false) : rd d = ([], 0) := by
  unfold rd
  cases d.length with
  | zero => rfl
  | succ m => simp [rdL, h]
theorem rd_bd : ∀ (n : Nat) (d : List UInt8), d.length ≤ n → (rd d).2 ≤ d.length ∧ 4 * (rd d).1.length ≤ (rd d).2 := by
  intro n
  induction n with
  | zero =>
    intro d h
    have : d = [] := List.eq_nil_of_length_eq_zero (by omega)
    subst this
    rw [rd_no isL_nil]; simp
  | succ n ih =>
    intro d h
    by_cases hl : isL d = true
    · have hb := isL_bd hl
      have := ih (d.drop (n0 d + 3)) (by simp; omega)
      rw [rd_yes hl]
      simp at this ⊢
      omega
    · rw [rd_no (by simpa using hl)]; simp
theorem rd_le (d : List UInt8) : (rd d).2 ≤ d.length := (rd_bd _ d (Nat.le_refl _)).1
theorem rd_lines (d : List UInt8) : 4 * (rd d).1.length ≤ d.length := by have := rd_bd _ d (Nat.le_refl _); omega

def whole (d : List UInt8) : Bool := decide ((rd d).2 = d.length)
def jouF (j : TJournal) : Int := if 2400 < j.sure.length + j.loose.length then 2 else if whole j.sure && whole j.loose then 0 else 5

@[go_sem] theorem mapM_B1 (s : List UInt8) : List.mapM byteOfCell (s.map B1) = some s := decB_B1 s
@[go_sem] theorem mapM_B1_t (s : List UInt8) (a : Nat) : List.mapM byteOfCell (List.take a (s.map B1)) = some (List.take a s) := decB_t s a
@[go_sem] theorem mapM_B1_d (s : List UInt8) (a : Nat) : List.mapM byteOfCell (List.drop a (s.map B1)) = some (List.drop a s) := decB_d s a
@[go_sem high] theorem mapM_comp (s : List UInt8) : List.mapM (byteOfCell ∘ B1) s = some s := by rw [← List.mapM_map]; exact decB_B1 s
theorem isL_iff {x : UInt8} {r : List UInt8} : isL (x :: r) = true ↔ x.toNat + 2 ≤ r.length ∧ lineF (r.take x.toNat) = 0 ∧ pk (r.take x.toNat) = x :: r.take (x.toNat + 2) := by
  rw [isL_cons]; simp only [Bool.and_eq_true, decide_eq_true_eq, and_assoc]
  constructor
  · rintro ⟨h1, h2, h3⟩; exact ⟨h1, h2, h3.symm⟩
  · rintro ⟨h1, h2, h3⟩; exact ⟨h1, h2, h3.symm⟩
theorem isL_not {x : UInt8} {r : List UInt8} (h : x.toNat + 2 ≤ r.length → lineF (r.take x.toNat) = 0 → pk (r.take x.toNat) = x :: r.take (x.toNat + 2) → 1 ≤ x.toNat → False) : isL (x :: r) = false := by
  rw [← Bool.not_eq_true]
  intro hL
  have hb := isL_bd hL
  obtain ⟨h1, h2, h3⟩ := isL_iff.1 hL
  exact h h1 h2 h3 hb.2.2
def lnA (d : List UInt8) : List UInt8 := if n0 d + 3 ≤ d.length then lnT d else []
theorem lnA_cons (x : UInt8) (r : List UInt8) : lnA (x :: r) = if x.toNat + 2 ≤ r.length then r.take x.toNat else [] := by
  unfold lnA; rw [lnT_cons, n0_cons]; simp
theorem lnA_yes {d : List UInt8} (h : isL d = true) : lnA d = lnT d := by unfold lnA; rw [if_pos (isL_bd h).1]
theorem hasP_pk {x : UInt8} {r : List UInt8} (h : x.toNat + 2 ≤ r.length) : hasP (x :: r) (pk (r.take x.toNat)) = decide (x :: r.take (x.toNat + 2) = pk (r.take x.toNat)) := by
  unfold hasP
  have e : (pk (r.take x.toNat)).length = x.toNat + 3 := by rw [pk_len]; simp; omega
  rw [e, Bool.eq_iff_iff]
  simp [h]
  exact decide_eq_true_iff
theorem whole_eq (d : List UInt8) : whole d = decide (d.length - (rd d).2 = 0) := by
  have := rd_le d
  unfold whole
  rw [Bool.eq_iff_iff]; simp; omega
/-- is there a line behind the first byte? -/
def brk (e : List UInt8) (i : Nat) : Bool := (List.range i).any fun k => decide (1 ≤ k) && isL (e.drop k)
theorem brk_step {e : List UInt8} {i : Nat} (h : 1 ≤ i) : brk e (i + 1) = (brk e i || isL (e.drop i)) := by
  unfold brk; rw [List.range_succ, List.any_append]; simp [h]
theorem brk_one (e : List UInt8) : brk e 1 = false := by simp [brk]
theorem brk_zero (e : List UInt8) : brk e 0 = false := by simp [brk]
theorem brk_mono {e : List UInt8} {i j : Nat} (h : i ≤ j) (hb : brk e i = true) : brk e j = true := by
  unfold brk at *
  simp only [List.any_eq_true, List.mem_range] at *
  obtain ⟨k, h1, h2⟩ := hb
  exact ⟨k, by omega, h2⟩
theorem brk_end {e : List UInt8} {i n : Nat} (h1 : 1 ≤ i) (h2 : n ≤ i) (h3 : i = 1 ∨ i ≤ n) : brk e i = brk e n := by
  rcases h3 with rfl | h3
  · rw [brk_one]
    rcases Nat.eq_zero_or_pos n with h | h
    · subst h; rw [brk_zero]
    · obtain rfl : n = 1 := by omega
      rw [brk_one]
  · rw [show i = n by omega]
def linesR (d : List UInt8) : TLinesResult := if 2400 < d.length then ⟨2, false, []⟩ else ⟨0, brk (d.drop (rd d).2) (d.drop (rd d).2).length, (rd d).1⟩
end Go.AM

/-! ### Pk -/
set_option linter.unusedVariables false
set_option linter.unusedSimpArgs false
namespace Go.AM

theorem rd_small (d : List UInt8) : ∀ e ∈ (rd d).1, e.length ≤ 255 := by
  have key : ∀ (n : Nat) (d : List UInt8), d.length ≤ n → ∀ e ∈ (rd d).1, e.length ≤ 255 := by
    intro n
    induction n with
    | zero =>
      intro d h
      have : d = [] := List.eq_nil_of_length_eq_zero (by omega)
      subst this
      rw [rd_no isL_nil]; simp
    | succ n ih =>
      intro d h e he
      by_cases hl : isL d = true
      · rw [rd_yes hl] at he
        rcases List.mem_cons.1 he with rfl | he
        · exact lnT_le d
        · have hb := isL_bd hl
          exact ih (d.drop (n0 d + 3)) (by simp; omega) e he
      · rw [rd_no (by simpa using hl)] at he; simp at he
  exact key _ d (Nat.le_refl _)
end Go.AM

/-! ### Pl -/
set_option linter.unusedVariables false
set_option linter.unusedSimpArgs false
namespace Go.AM
def LB (x : List UInt8) : List AV := [.isl 1 (x.map B1)]
@[go_sem] theorem LB_eq (x : List UInt8) : LB x = [.isl 1 (x.map B1)] := rfl
theorem LB_tree (a) : ∀ x ∈ LB a, x.tree = true := by simp [LB, go_sem]
@[go_sem ↓ high] theorem LB_treeL (l : List (List UInt8)) : (∀ c ∈ l.map LB, ∀ x ∈ c, AV.tree x = true) ↔ True := maptree LB_tree l
@[go_sem] theorem len_replicate {α : Type} (n : Nat) (x : α) : (List.replicate n x).length = n := List.length_replicate
def cat (l : List (List UInt8)) : List UInt8 := l.flatten
theorem flat_step {l : List (List UInt8)} {i : Nat} {x : List UInt8} (h : l[i]? = some x) : cat (l.take (i + 1)) = cat (l.take i) ++ x := by
  unfold cat; rw [List.take_add_one, h]; simp
theorem flat_le (l : List (List UInt8)) (i : Nat) : (cat (l.take i)).length ≤ (cat l).length := by
  unfold cat
  conv => rhs; rw [← List.take_append_drop i l]
  rw [List.flatten_append, List.length_append]; omega
theorem flat_stepL {l : List (List UInt8)} {i : Nat} {x : List UInt8} (h : l[i]? = some x) : (cat (l.take i)).length + x.length ≤ (cat l).length := by
  have := flat_le l (i + 1)
  rw [flat_step h, List.length_append] at this; exact this
theorem flat_end {l : List (List UInt8)} {i : Nat} (h : l.length ≤ i) : cat (l.take i) = cat l := by rw [List.take_of_length_le h]
theorem flat_nil {l : List (List UInt8)} {i : Nat} {x : List UInt8} (h : l[i]? = some x) (h0 : (cat l).length = 0) : x = [] := by
  have := flat_stepL h
  exact List.eq_nil_of_length_eq_zero (by omega)
@[go_sem] theorem cat_nil : cat [] = [] := rfl
@[go_sem] theorem cat_r (a : List UInt8) : cat [a, []] = a := by simp [cat]
@[go_sem] theorem cat_l (a : List UInt8) : cat [[], a] = a := by simp [cat]
theorem cat_two (a b : List UInt8) : cat [a, b] = a ++ b := by simp [cat]
theorem rd_app : ∀ (n : Nat) (a b : List UInt8), a.length ≤ n → (rd a).2 = a.length → rd (a ++ b) = ((rd a).1 ++ (rd b).1, a.length + (rd b).2) := by
  intro n
  induction n with
  | zero =>
    intro a b h _
    have : a = [] := List.eq_nil_of_length_eq_zero (by omega)
    subst this
    rw [rd_no isL_nil]; simp
  | succ n ih =>
    intro a b h hw
    by_cases hl : isL a = true
    · have hb := isL_bd hl
      rw [rd_yes hl] at hw ⊢
      have e0 : n0 (a ++ b) = n0 a := by
        cases a with
        | nil => simp at hb
        | cons x r => rfl
      have e1 : (a ++ b).take (n0 a + 3) = a.take (n0 a + 3) := List.take_append_of_le_length hb.1
      have e2 : lnT (a ++ b) = lnT a := by
        unfold lnT; rw [e0, List.take_append_of_le_length (by omega)]
      have hl2 : isL (a ++ b) = true := by
        have hq := hl
        simp only [isL, Bool.and_eq_true, decide_eq_true_eq] at hq ⊢
        rw [e0, e1, e2]
        exact ⟨⟨by simp; omega, hq.1.2⟩, hq.2⟩
      rw [rd_yes hl2, e0, e2, List.drop_append_of_le_length hb.1, ih (a.drop (n0 a + 3)) b (by simp; omega) (by simp only at hw; simp; omega)]
      simp; omega
    · rw [rd_no (by simpa using hl)] at hw
      have : a = [] := List.eq_nil_of_length_eq_zero (by simpa using hw.symm)
      subst this
      rw [rd_no isL_nil]; simp
theorem fc1 {a b : Int} (h : a ≠ 0) : firstC [a, b] = a := by rw [firstC_cons, if_neg h]
theorem fc2 {a b : Int} (h : a = 0) : firstC [a, b] = b := by
  rw [firstC_cons, if_pos h, firstC_cons, firstC_nil]
  split
  · rename_i e; exact e.symm
  · rfl
theorem jou_whole {j : TJournal} (h : jouF j = 0) : (rd j.sure).2 = j.sure.length := by
  unfold jouF at h
  simp [whole] at h
  split at h
  · cases h
  · grind
end Go.AM

/-! ### Am24 -/
set_option linter.unusedVariables false
set_option linter.unusedSimpArgs false
namespace Go.AM

section
variable {P : Program} {st : St} {K : Exit → St → Prop}

theorem RepL.shrink {w0 : World} {lab0 : Labs} {a : Act} {w : World} {lab : Labs} {loc : Locs} {id : Nat} {nd : Node} (m : Nat) (hR : RepL w0 lab0 st a w lab loc) (h1 : st.obj id = some nd) :
    RepL w0 lab0 ⟨st.n, st.slots, (id, some ⟨nd.es, nd.l.take m⟩) :: st.objs⟩ a w lab loc := by
  refine ⟨hR.size, hR.defers, hR.slots, ?_, ?_, hR.fresh, hR.ext⟩
  · intro k nk hk
    simp only [St.obj, look] at hk
    split at hk
    · rename_i e; subst e
      simp at hk; subst hk
      obtain ⟨b, base, hl, ho⟩ := hR.objs k nd h1
      refine ⟨b, base, hl, ho.hlab, ho.blk.le ?_, ?_, ?_⟩
      · have : (nd.l.take m).length ≤ nd.l.length := by rw [List.length_take]; omega
        have := Nat.mul_le_mul_right nd.es this
        simp only; omega
      · intro z hz
        exact ho.es z (List.mem_of_mem_take hz)
      · intro i2 c2 j2 z hi hj
        have hi' : nd.l[i2]? = some c2 := by
          simp only [List.getElem?_take] at hi
          split at hi
          · exact hi
          · cases hi
        exact ho.cells i2 c2 j2 z hi' hj
    · exact hR.objs k nk hk
  · intro k hk
    simp only [St.obj, look] at hk
    split at hk
    · simp at hk
    · exact hR.dead k hk

theorem AW.shrink {code : Code} (id m : Nat) {nd : Node} (h1 : st.obj id = some nd)
    (h : AW P code ⟨st.n, st.slots, (id, some ⟨nd.es, nd.l.take m⟩) :: st.objs⟩ K) : AW P code st K :=
  AW.ghost (fun _ _ _ _ ⟨lab, loc, hR⟩ => ⟨lab, loc, hR.shrink m h1⟩) h
end
end Go.AM

namespace Go.AM
def labRes (lab : Labs) : Labs := fun b => match lab b with
  | some (.res, _) => none
  | l => l
theorem labRes_res {lab : Labs} {b : Nat} {q : List (Nat × Nat)} (h : lab b = some (.res, q)) : labRes lab b = none := by simp [labRes, h]
theorem labRes_none {lab : Labs} {b : Nat} (h : lab b = none) : labRes lab b = none := by simp [labRes, h]
theorem labRes_still {lab : Labs} {b : Nat} (h : still (lab b)) : labRes lab b = lab b := by
  unfold labRes
  split
  · rename_i h2; rw [h2] at h; exact h.elim
  · rfl

/-- an answer that nobody writes into any more -/
theorem DC.frz {P : Program} {f : FuncId} {args : List AV} {res : AV} (h : DC P f args res []) : DC P f args (unown res) [] := by
  refine ⟨h.body, ?_⟩
  intro w lab vals hl hv hf
  refine (h.calls w lab vals hl hv hf).mono fun e w' he => ?_
  obtain ⟨v, lab', rfl, hT, _, hE, hfr⟩ := he
  refine ⟨v, labRes lab', rfl, .imm _ _ _ (hT.unown (fun b hb => labRes_none hb) (fun b q hb => labRes_res hb)), by simp, ?_, ?_⟩
  · refine ⟨hE.size, hE.os, hE.out, ?_, hE.blk⟩
    intro b hb hs
    obtain ⟨h1, h2⟩ := hE.kept b hb hs
    refine ⟨?_, h2⟩
    have : labRes lab' b = lab' b := labRes_still (by rw [h1]; exact hs)
    rw [this, h1]
  · intro b hb
    apply hfr
    intro hn
    exact hb (labRes_none hn)
end Go.AM

namespace Go.AM
/-- the second part of an answer is not told -/
theorem DC.any2 {P : Program} {f : FuncId} {args : List AV} {x y : AV} {muts : List (Nat × AV)} (h : DC P f args (.tup [x, y]) muts) : DC P f args (.tup [x, .any]) muts := by
  refine ⟨h.body, ?_⟩
  intro w lab vals hl hv hf
  refine (h.calls w lab vals hl hv hf).mono fun e w' he => ?_
  obtain ⟨v, lab', rfl, hT, hm, hE, hfr⟩ := he
  refine ⟨v, lab', rfl, ?_, hm, hE, hfr⟩
  cases hT with
  | imm _ _ _ hI =>
    cases hI with
    | tup cs vs hlen hv =>
      refine .imm _ _ _ (.tup _ _ (by simpa using hlen) ?_)
      intro j a u ha hu
      match j with
      | 0 => exact hv 0 _ u rfl hu |> fun h => by simp at ha; subst ha; exact h
      | 1 => simp at ha; subst ha; exact .any _
      | n + 2 => simp at ha
  | tup _ cs vs hlen hv =>
    refine .tup _ _ _ (by simpa using hlen) ?_
    intro j a u ha hu
    match j with
    | 0 => simp at ha; subst ha; exact hv 0 _ u rfl hu
    | 1 => simp at ha; subst ha; exact .imm _ _ _ (.any _)
    | n + 2 => simp at ha
end Go.AM

/-! ### Am27 -/
set_option linter.unusedVariables false
set_option linter.unusedSimpArgs false
namespace Go.AM
theorem DC.frzM {P : Program} {f : FuncId} {args : List AV} {res : AV} {muts : List (Nat × AV)} (h : DC P f args res muts) : DC P f args (unown res) muts := by
  refine ⟨h.body, ?_⟩
  intro w lab vals hl hv hf
  refine (h.calls w lab vals hl hv hf).mono fun e w' he => ?_
  obtain ⟨v, lab', rfl, hT, hM, hE, hfr⟩ := he
  refine ⟨v, labRes lab', rfl, .imm _ _ _ (hT.unown (fun b hb => labRes_none hb) (fun b q hb => labRes_res hb)), ?_, ?_, ?_⟩
  · intro p hp v hv
    exact (hM p hp v hv).move (fun b hb hn => ⟨labRes_none hn, rfl⟩) (fun b q hb hn => ⟨by simp [labRes, hn, Lab.app], rfl⟩) (Nat.le_refl _)
  · refine ⟨hE.size, hE.os, hE.out, ?_, hE.blk⟩
    intro b hb hs
    obtain ⟨h1, h2⟩ := hE.kept b hb hs
    refine ⟨?_, h2⟩
    have : labRes lab' b = lab' b := labRes_still (by rw [h1]; exact hs)
    rw [this, h1]
  · intro b hb
    apply hfr
    intro hn
    exact hb (labRes_none hn)
/-- what is told of an answer, in other words -/
theorem DC.eqR {P : Program} {f : FuncId} {args : List AV} {res res' : AV} {muts : List (Nat × AV)} (h : DC P f args res muts) (e : res = res') : DC P f args res' muts := e ▸ h
end Go.AM

/-! ### Pd -/
set_option linter.unusedVariables false
set_option linter.unusedSimpArgs false
namespace Go.AM
/-! what is read back of what is packed -/
theorem lineF_bd {s : List UInt8} (h : lineF s = 0) : 1 ≤ s.length ∧ s.length ≤ 40 := by
  unfold lineF at h; split at h
  · cases h
  · omega
theorem pk_isL {s r : List UInt8} (h : lineF s = 0) : isL (pk s ++ r) = true ∧ lnT (pk s ++ r) = s ∧ n0 (pk s ++ r) = s.length := by
  have hb := lineF_bd h
  have h1 : (b8 (s.length : Int)).toNat = s.length := by
    have h9 : (UInt8.ofNat ((s.length : Int) % 256).toNat).toNat = ((s.length : Int) % 256).toNat := by rw [UInt8.toNat_ofNat']; omega
    unfold b8; rw [h9]; omega
  have h2 : n0 (pk s ++ r) = s.length := by simp only [pk, pkH, n0, List.cons_append, List.headD_cons]; exact h1
  have h3 : lnT (pk s ++ r) = s := by
    unfold lnT; rw [h2]
    simp [pk, pkH]
  refine ⟨?_, h3, h2⟩
  unfold isL
  rw [h2, h3]
  have h4 := pk_len s
  simp only [Bool.and_eq_true, decide_eq_true_eq]
  refine ⟨⟨by rw [List.length_append]; omega, h⟩, ?_⟩
  rw [← h4, List.take_left']; rfl
theorem rd_pk {s : List UInt8} (r : List UInt8) (h : lineF s = 0) : rd (pk s ++ r) = (s :: (rd r).1, s.length + 3 + (rd r).2) := by
  obtain ⟨h1, h2, h3⟩ := pk_isL (r := r) h
  rw [rd_yes h1, h2, h3]
  have h4 : (pk s ++ r).drop (s.length + 3) = r := by rw [← pk_len s]; exact List.drop_left'  rfl
  rw [h4]
theorem rd_one {s : List UInt8} (h : lineF s = 0) : rd (pk s) = ([s], s.length + 3) := by
  have := rd_pk (s := s) [] h
  rw [List.append_nil, rd_no isL_nil] at this; simpa using this
theorem rd_two {s : List UInt8} (h : lineF s = 0) : rd (pk s ++ pk s) = ([s, s], s.length + 3 + (s.length + 3)) := by
  rw [rd_pk _ h, rd_one h]
theorem whole_iff {d : List UInt8} : whole d = true ↔ (rd d).2 = d.length := by simp [whole]
theorem jou_ok {j : TJournal} (h : jouF j = 0) : j.sure.length + j.loose.length ≤ 2400 ∧ (rd j.sure).2 = j.sure.length ∧ (rd j.loose).2 = j.loose.length := by
  unfold jouF at h
  split at h
  · cases h
  · split at h
    · rename_i h1 h2
      simp only [Bool.and_eq_true, whole_iff] at h2
      exact ⟨by omega, h2⟩
    · cases h
theorem ok_jou {j : TJournal} (h : j.sure.length + j.loose.length ≤ 2400 ∧ (rd j.sure).2 = j.sure.length ∧ (rd j.loose).2 = j.loose.length) : jouF j = 0 := by
  unfold jouF
  rw [if_neg (by omega), if_pos (by simp only [Bool.and_eq_true, whole_iff]; exact h.2)]
theorem rd_cat {a b : List UInt8} (h : (rd a).2 = a.length) : rd (cat [a, b]) = ((rd a).1 ++ (rd b).1, a.length + (rd b).2) := by
  rw [cat_two]; exact rd_app _ a b (Nat.le_refl _) h

/-! what is appended, synced, kept behind a crash -/
def appC (j : TJournal) (s : List UInt8) : Int := if jouF j ≠ 0 then jouF j else if lineF s ≠ 0 then lineF s else if 2400 < j.sure.length + (cat [j.loose, pk s]).length then 2 else 0
def appJ (j : TJournal) (s : List UInt8) : TJournal := if appC j s = 0 then ⟨j.sure, cat [j.loose, pk s]⟩ else ⟨[], []⟩
def appN (j : TJournal) (s : List UInt8) : Int := if appC j s = 0 then ((rd (cat [j.sure, cat [j.loose, pk s]])).1.length : Int) else 0
def synJ (j : TJournal) : TJournal := if jouF j = 0 then ⟨cat [j.sure, j.loose], []⟩ else ⟨[], []⟩
def synN (j : TJournal) : Int := if jouF j = 0 then ((rd (cat [j.sure, j.loose])).1.length : Int) else 0
def crD (j : TJournal) (n : Int) : List UInt8 := cat [j.sure, j.loose.take n.toNat]
def crC (j : TJournal) (n : Int) : Int := if jouF j ≠ 0 then jouF j else if inR n 0 (j.loose.length : Int) = false then 3 else 0
def crS (j : TJournal) (n : Int) : List UInt8 := if crC j n = 0 then (crD j n).take (rd (crD j n)).2 else []
def crN (j : TJournal) (n : Int) : Int := if crC j n = 0 then ((rd (crS j n)).1.length : Int) else 0
theorem appC_ok {j : TJournal} {s : List UInt8} (h : appC j s = 0) : jouF j = 0 ∧ lineF s = 0 ∧ j.sure.length + (j.loose.length + (s.length + 3)) ≤ 2400 := by
  unfold appC at h
  split at h
  · contradiction
  · split at h
    · contradiction
    · split at h
      · cases h
      · rename_i h1 h2 h3
        rw [cat_two, List.length_append, pk_len] at h3
        exact ⟨by simpa using h1, by simpa using h2, by omega⟩
theorem appC_mk {j : TJournal} {s : List UInt8} (h1 : jouF j = 0) (h2 : lineF s = 0) (h3 : j.sure.length + (j.loose.length + (s.length + 3)) ≤ 2400) : appC j s = 0 := by
  unfold appC
  rw [if_neg (by simp [h1]), if_neg (by simp [h2]), if_neg (by rw [cat_two, List.length_append, pk_len]; omega)]
theorem appJ_eq {j : TJournal} {s : List UInt8} (h : appC j s = 0) : appJ j s = ⟨j.sure, cat [j.loose, pk s]⟩ := by rw [appJ, if_pos h]
theorem jouF_app {j : TJournal} {s : List UInt8} (h : appC j s = 0) : jouF ⟨j.sure, cat [j.loose, pk s]⟩ = 0 := by
  obtain ⟨h1, h2, h3⟩ := appC_ok h
  obtain ⟨k1, k2, k3⟩ := jou_ok h1
  apply ok_jou
  refine ⟨by simp only; rw [cat_two, List.length_append, pk_len]; omega, k2, ?_⟩
  simp only
  rw [rd_cat k3, rd_one h2, cat_two, List.length_append, pk_len]
theorem jouF_syn {j : TJournal} (h : jouF j = 0) : jouF ⟨cat [j.sure, j.loose], []⟩ = 0 := by
  obtain ⟨k1, k2, k3⟩ := jou_ok h
  apply ok_jou
  refine ⟨by simp only [List.length_nil]; rw [cat_two, List.length_append]; omega, ?_, by simp only; rw [rd_no isL_nil]; rfl⟩
  simp only
  rw [rd_cat k2, k3, cat_two, List.length_append]
theorem jouF_nil : jouF ⟨[], []⟩ = 0 := ok_jou ⟨by simp, by simp only; rw [rd_no isL_nil]; rfl, by simp only; rw [rd_no isL_nil]; rfl⟩

/-! draws -/
/-- a drawn number below n -/
def nx (c : List UInt8) (a n : Int) : Int :=
  if n < 1 then 0
  else if (c.length : Int) = 0 then (a * 7).tmod n
  else if 200 < n then ((((c.getD (a.tmod c.length).toNat 0).toNat : Int) + a.tdiv c.length * 37) * 251 + ((c.getD ((a + 1).tmod c.length).toNat 0).toNat : Int) * 13 + a).tmod n
  else (((c.getD (a.tmod c.length).toNat 0).toNat : Int) + a.tdiv c.length * 37).tmod n
theorem nx_bd (c : List UInt8) {a n : Int} (ha : 0 ≤ a) : 0 ≤ nx c a n ∧ (1 ≤ n → nx c a n < n) := by
  have hd := Int.tdiv_nonneg ha (show (0 : Int) ≤ (c.length : Int) by omega)
  have key : ∀ v : Int, 0 ≤ v → 1 ≤ n → 0 ≤ v.tmod n ∧ v.tmod n < n := fun v hv hn => ⟨Int.tmod_nonneg _ hv, Int.tmod_lt_of_pos _ (by omega)⟩
  unfold nx
  split
  · exact ⟨by omega, by omega⟩
  · rename_i hn
    split
    · have := key (a * 7) (by omega) (by omega); exact ⟨this.1, fun _ => this.2⟩
    · split
      · have := key ((((c.getD (a.tmod c.length).toNat 0).toNat : Int) + a.tdiv c.length * 37) * 251 + ((c.getD ((a + 1).tmod c.length).toNat 0).toNat : Int) * 13 + a) (by omega) (by omega)
        exact ⟨this.1, fun _ => this.2⟩
      · have := key (((c.getD (a.tmod c.length).toNat 0).toNat : Int) + a.tdiv c.length * 37) (by omega) (by omega)
        exact ⟨this.1, fun _ => this.2⟩
def ln6 : List (List UInt8) := [[115, 116, 97, 114, 116, 32, 48, 32, 53], [99, 108, 97, 105, 109, 32, 49, 32, 48, 32, 50], [116, 105, 99, 107, 32, 51], [109, 97, 105, 108, 32, 48, 32, 49], [100, 111, 110, 101, 32, 49, 32, 48, 32, 50, 32, 55], [120]]
def lnD (k : Int) : List UInt8 := ln6.getD k.toNat [120]
theorem lnD_all {q : List UInt8 → Prop} (h : ∀ s ∈ ln6, q s) (k : Int) : q (lnD k) := by
  unfold lnD
  rw [List.getD_eq_getElem?_getD]
  cases h2 : ln6[k.toNat]? with
  | none => exact h _ (by decide)
  | some x => exact h x (List.mem_of_getElem? h2)
theorem lnD_ok (k : Int) : lineF (lnD k) = 0 := lnD_all (q := fun s => lineF s = 0) (by decide) k
theorem lnD_len (k : Int) : (lnD k).length ≤ 12 := lnD_all (q := fun s => s.length ≤ 12) (by decide) k
def dl7 (c : List UInt8) : List (List UInt8) := [[97, 98, 99], [], [97, 9, 98], [126, 32, 120], List.replicate 41 0, lnD (nx c 0 6), lnD (nx c 1 6)]
def dlD (c : List UInt8) : List UInt8 := (dl7 c).getD (nx c 2 7).toNat []
theorem dlD_len (c : List UInt8) : (dlD c).length ≤ 41 := by
  unfold dlD
  rw [List.getD_eq_getElem?_getD]
  cases h2 : (dl7 c)[(nx c 2 7).toNat]? with
  | none => simp
  | some x =>
    have h3 := List.mem_of_getElem? h2
    have h4 := lnD_len (nx c 0 6)
    have h5 := lnD_len (nx c 1 6)
    simp only [dl7, List.mem_cons, List.not_mem_nil, or_false] at h3
    rcases h3 with rfl | rfl | rfl | rfl | rfl | rfl | rfl <;> simp <;> omega
/-- one round of a journal that is drawn -/
def jst (c : List UInt8) (j : TJournal) (a : Int) : TJournal :=
  if nx c (a + 1) 3 = 0 then ⟨cat [j.sure, cat [j.loose, pk (lnD (nx c a 6))]], []⟩ else ⟨j.sure, cat [j.loose, pk (lnD (nx c a 6))]⟩
def jLoop (c : List UInt8) : Nat → Int → TJournal → TJournal
  | 0, _, j => j
  | k + 1, a, j => jLoop c k (a + 2) (jst c j a)
/-- what a journal is that is drawn: no faults, and short -/
def jInv (j : TJournal) (n : Nat) : Prop := jouF j = 0 ∧ j.sure.length + j.loose.length ≤ n
theorem jInv_app {j : TJournal} {n : Nat} {k : Int} (h : jInv j n) (hn : n + 15 ≤ 2400) : appC j (lnD k) = 0 ∧ jInv ⟨j.sure, cat [j.loose, pk (lnD k)]⟩ (n + 15) := by
  have hl := lnD_len k
  have hb := h.2
  have h1 : appC j (lnD k) = 0 := appC_mk h.1 (lnD_ok k) (by omega)
  refine ⟨h1, jouF_app h1, ?_⟩
  simp only
  rw [cat_two, List.length_append, pk_len]; omega
theorem jInv_st {c : List UInt8} {j : TJournal} {n : Nat} {a : Int} (h : jInv j n) (hn : n + 15 ≤ 2400) : jInv (jst c j a) (n + 15) := by
  obtain ⟨h1, h2⟩ := jInv_app (k := nx c a 6) h hn
  unfold jst
  split
  · refine ⟨jouF_syn h2.1, ?_⟩
    have := h2.2
    simp only at this
    simp only [List.length_nil]
    rw [cat_two, List.length_append]; omega
  · exact h2
theorem jInv_loop {c : List UInt8} : ∀ (k : Nat) (a : Int) (j : TJournal) (n : Nat), jInv j n → n + 15 * k ≤ 2400 → jInv (jLoop c k a j) (n + 15 * k)
  | 0, a, j, n, h, hn => h
  | k + 1, a, j, n, h, hn => by
    have := jInv_loop (c := c) k (a + 2) (jst c j a) (n + 15) (jInv_st h (by omega)) (by omega)
    rw [show n + 15 * (k + 1) = n + 15 + 15 * k by omega]
    exact this
def jK (c : List UInt8) (a : Int) : Nat := (nx c a 7).toNat
theorem jK_lt (c : List UInt8) {a : Int} (ha : 0 ≤ a) : jK c a < 7 := by have := nx_bd c (n := 7) ha; unfold jK; omega
def jB (c : List UInt8) (a : Int) : TJournal := jLoop c (jK c a) (a + 1) ⟨[], []⟩
theorem jB_inv (c : List UInt8) {a : Int} (ha : 0 ≤ a) : jInv (jB c a) 90 := by
  have hk := jK_lt c ha
  have := jInv_loop (c := c) (jK c a) (a + 1) ⟨[], []⟩ 0 ⟨jouF_nil, by simp⟩ (by omega)
  exact ⟨this.1, by have := this.2; unfold jB; omega⟩
def jA (c : List UInt8) (a : Int) : Int := a + 2 + 2 * (jK c a : Int)
def jR (c : List UInt8) (a : Int) : Int := nx c (a + 1 + 2 * (jK c a : Int)) 18
def jD (c : List UInt8) (a : Int) : TJournal :=
  if jR c a = 0 then ⟨(jB c a).sure, (jB c a).loose ++ [9]⟩ else if jR c a = 1 then ⟨(jB c a).sure ++ [1], (jB c a).loose⟩ else if jR c a = 2 then ⟨(jB c a).sure, List.replicate 2401 0⟩ else jB c a
theorem jD_sz (c : List UInt8) {a : Int} (ha : 0 ≤ a) : (jD c a).sz ≤ 2600 := by
  have := (jB_inv c ha).2
  unfold jD TJournal.sz
  split
  · simp; omega
  · split
    · simp; omega
    · split
      · simp only [List.length_replicate]; omega
      · omega
/-- the two cells of a journal: nil at first, owned later -/
def jrow : Option TJournal → List AV
  | none => [.nils, .nils]
  | some j => [.osl 1 (j.sure.map B1), .osl 1 (j.loose.map B1)]
def jval : Option TJournal → TJournal
  | none => ⟨[], []⟩
  | some j => j
theorem jcases (o : Option TJournal) : (jrow o = [.nils, .nils] ∧ (jval o).sure = [] ∧ (jval o).loose = []) ∨ jrow o = [.osl 1 ((jval o).sure.map B1), .osl 1 ((jval o).loose.map B1)] := by
  cases o with
  | none => exact Or.inl ⟨rfl, rfl, rfl⟩
  | some j => exact Or.inr rfl
theorem jrow_ids (o : Option TJournal) : idsL (jrow o) = [] := by cases o <;> simp [jrow, go_sem]
theorem jD_0 {c : List UInt8} {a : Int} {j : TJournal} (hB : jB c a = j) (h : jR c a = 0) : jD c a = ⟨j.sure, j.loose ++ [9]⟩ := by rw [jD, if_pos h, hB]
theorem jD_1 {c : List UInt8} {a : Int} {j : TJournal} (hB : jB c a = j) (h : jR c a = 1) : jD c a = ⟨j.sure ++ [1], j.loose⟩ := by rw [jD, if_neg (by rw [h]; decide), if_pos h, hB]
theorem jD_2 {c : List UInt8} {a : Int} {j : TJournal} (hB : jB c a = j) (h : jR c a = 2) : jD c a = ⟨j.sure, List.replicate 2401 0⟩ := by rw [jD, if_neg (by rw [h]; decide), if_neg (by rw [h]; decide), if_pos h, hB]
theorem jD_3 {c : List UInt8} {a : Int} {j : TJournal} (hB : jB c a = j) (h0 : ¬ jR c a = 0) (h1 : ¬ jR c a = 1) (h2 : ¬ jR c a = 2) : jD c a = j := by rw [jD, if_neg h0, if_neg h1, if_neg h2, hB]
/-- what is drawn to be read, appended, kept -/
def dC (c : List UInt8) : List UInt8 := cat [(jD c 0).sure, (jD c 0).loose]
theorem dC_len (c : List UInt8) : (dC c).length = (jD c 0).sure.length + (jD c 0).loose.length := by unfold dC; rw [cat_two, List.length_append]
theorem dC_le (c : List UInt8) : (jD c 0).sure.length + (jD c 0).loose.length ≤ 2600 := by have := jD_sz c (a := 0) (by omega); unfold TJournal.sz at this; exact this
theorem jA_bd (c : List UInt8) : 2 ≤ jA c 0 ∧ jA c 0 ≤ 14 := by have := jK_lt c (a := 0) (by omega); unfold jA; omega
def drD (c : List UInt8) : List UInt8 :=
  if 0 < (dC c).length ∧ nx c (jA c 0) 2 = 0 then
    (if nx c (jA c 0 + 2) 2 = 0 then (dC c).set (nx c (jA c 0 + 1) (dC c).length).toNat (b8 (nx c (jA c 0 + 3) 256)) else (dC c).take (nx c (jA c 0 + 1) (dC c).length).toNat)
  else dC c
theorem drD_len (c : List UInt8) : (drD c).length ≤ 2600 := by
  have h1 := dC_len c
  have h2 := dC_le c
  unfold drD
  split
  · split
    · rw [List.length_set]; omega
    · rw [List.length_take]; omega
  · omega
def daL (c : List UInt8) : List UInt8 := if nx c (jA c 0 + 1) 8 = 0 then dlD c else lnD (nx c (jA c 0) 6)
theorem daL_len (c : List UInt8) : (daL c).length ≤ 41 := by
  unfold daL
  split
  · exact dlD_len c
  · have := lnD_len (nx c (jA c 0) 6); omega
def dcL (c : List UInt8) : List Int := [nx c (jA c 0) (((jD c 0).loose.length : Int) + 1), nx c (jA c 0 + 1) (((jD c 0).loose.length : Int) + 1), 0, ((jD c 0).loose.length : Int), ((jD c 0).loose.length : Int) + 1, -1]
def dcN (c : List UInt8) : Int := (dcL c).getD (nx c (jA c 0 + 2) 6).toNat 0

def AR (j : TJournal) (s : List UInt8) : AV := .agg [.int .i64 (appC j s), .int .i64 (appN j s), .isl 1 ((appJ j s).sure.map B1), .isl 1 ((appJ j s).loose.map B1)]
def SR (j : TJournal) : AV := .agg [.int .i64 (jouF j), .int .i64 (synN j), .isl 1 ((synJ j).sure.map B1), .isl 1 []]
def CR (j : TJournal) (n : Int) : AV := .agg [.int .i64 (crC j n), .int .i64 (crN j n), .isl 1 ((crS j n).map B1), .isl 1 []]
def JR (j : TJournal) : AV := .agg [.isl 1 (j.sure.map B1), .isl 1 (j.loose.map B1)]
@[go_sem] theorem AR_eq (j : TJournal) (s : List UInt8) : AR j s = .agg [.int .i64 (appC j s), .int .i64 (appN j s), .isl 1 ((appJ j s).sure.map B1), .isl 1 ((appJ j s).loose.map B1)] := rfl
@[go_sem] theorem SR_eq (j : TJournal) : SR j = .agg [.int .i64 (jouF j), .int .i64 (synN j), .isl 1 ((synJ j).sure.map B1), .isl 1 []] := rfl
@[go_sem] theorem CR_eq (j : TJournal) (n : Int) : CR j n = .agg [.int .i64 (crC j n), .int .i64 (crN j n), .isl 1 ((crS j n).map B1), .isl 1 []] := rfl
@[go_sem] theorem JR_eq (j : TJournal) : JR j = .agg [.isl 1 (j.sure.map B1), .isl 1 (j.loose.map B1)] := rfl
end Go.AM

/-! ### T1 -/
set_option linter.unusedVariables false
set_option linter.unusedSimpArgs false
namespace Go.AM
open Go.Proofs

end Go.AM

/-! ### T2 -/
set_option linter.unusedVariables false
set_option linter.unusedSimpArgs false
namespace Go.AM
open Go.Proofs

end Go.AM

/-! ### S1 -/
set_option linter.unusedVariables false
set_option linter.unusedSimpArgs false
namespace Go.AM
open Go.Proofs

set_option maxHeartbeats 600000 in
set_option linter.unusedSimpArgs false in
set_option maxRecDepth 100000 in
/-- impl.codeIf -/
theorem dc_impl_codeIf (b : Bool) (n : Int) : DC Try.prog 27 [.bool b, .int .i64 n] (.int .i64 (if b then n else 0)) [] := by
  refine DC.intro tiOk Try.func27 rfl rfl rfl rfl rfl rfl rfl rfl [] ?_
  refine AW.reg tiOk (fun _ => []) [0, 1] ?_
  intro k hk; simp -dsimp [go_sem, -decide_eq_true_eq, -decide_eq_false_iff_not]
  repeat' (first | refine And.intro ?_ ?_ | refine hk _ ?_ | intro hg | omega | exact True.intro)
  all_goals clear hk k
  refine AW.seq ?_
  refine AW.reg tiOk (fun _ => []) [1, 5] ?_
  intro k hk; simp -dsimp [go_sem, -decide_eq_true_eq, -decide_eq_false_iff_not]
  repeat' (first | refine And.intro ?_ ?_ | refine hk _ ?_ | intro hg | omega | exact True.intro)
  all_goals clear hk k
  refine AW.cond rfl ?_ ?_
  · intro hc; try simp at hc
    all_goals (
      refine AW.reg tiOk (fun _ => []) [4] ?_
      intro k hk; simp -dsimp [go_sem, -decide_eq_true_eq, -decide_eq_false_iff_not]
      repeat' (first | refine And.intro ?_ ?_ | refine hk _ ?_ | intro hg | omega | exact True.intro)
      all_goals clear hk k
      refine AW.retF (ow := []) (muts := []) ?_ (fun h => And.intro (.inr rfl) h)
      simp [go_sem, *, Try.results27])
  · intro hc; try simp at hc
    all_goals (
      refine AW.skipN (fun _ h => h) ?_
      refine AW.reg tiOk (fun _ => []) [4] ?_
      intro k hk; simp -dsimp [go_sem, -decide_eq_true_eq, -decide_eq_false_iff_not]
      repeat' (first | refine And.intro ?_ ?_ | refine hk _ ?_ | intro hg | omega | exact True.intro)
      all_goals clear hk k
      refine AW.retF (ow := []) (muts := []) ?_ (fun h => And.intro (.inr rfl) h)
      simp [go_sem, *, Try.results27])

set_option maxHeartbeats 600000 in
set_option linter.unusedSimpArgs false in
set_option maxRecDepth 100000 in
/-- impl.inRange -/
theorem dc_impl_inRange (n lo hi : Int) : DC Try.prog 28 [.int .i64 n, .int .i64 lo, .int .i64 hi] (.bool (inR n lo hi)) [] := by
  refine DC.intro tiOk Try.func28 rfl rfl rfl rfl rfl rfl rfl rfl [] ?_
  refine AW.reg tiOk (fun _ => []) [0, 1, 2] ?_
  intro k hk; simp -dsimp [go_sem, -decide_eq_true_eq, -decide_eq_false_iff_not]
  repeat' (first | refine And.intro ?_ ?_ | refine hk _ ?_ | intro hg | omega | exact True.intro)
  all_goals clear hk k
  refine AW.reg tiOk (fun _ => []) [6] ?_
  intro k hk; simp +contextual -dsimp (maxSteps := 2000000) [go_sem, -decide_eq_true_eq, -decide_eq_false_iff_not]
  repeat' (first | refine And.intro ?_ ?_ | refine hk _ ?_ | (intro hg; try simp only [decide_eq_true_eq, decide_eq_false_iff_not] at hg) | omega | exact True.intro)
  all_goals clear hk k
  all_goals (
    refine AW.retF (ow := []) (muts := []) ?_ (fun h => And.intro (.inr rfl) h)
    simp [go_sem, *, inR, Try.results28, -decide_eq_true_eq, -decide_eq_false_iff_not])

set_option maxHeartbeats 600000 in
set_option linter.unusedSimpArgs false in
set_option maxRecDepth 100000 in
/-- spec.l1In -/
theorem dc_spec_l1In (n lo hi : Int) : DC Try.prog 48 [.int .i64 n, .int .i64 lo, .int .i64 hi] (.bool (inR n lo hi)) [] := by
  refine DC.intro tiOk Try.func48 rfl rfl rfl rfl rfl rfl rfl rfl [] ?_
  refine AW.reg tiOk (fun _ => []) [0, 1, 2] ?_
  intro k hk; simp -dsimp [go_sem, -decide_eq_true_eq, -decide_eq_false_iff_not]
  repeat' (first | refine And.intro ?_ ?_ | refine hk _ ?_ | intro hg | omega | exact True.intro)
  all_goals clear hk k
  refine AW.reg tiOk (fun _ => []) [6] ?_
  intro k hk; simp +contextual -dsimp (maxSteps := 2000000) [go_sem, -decide_eq_true_eq, -decide_eq_false_iff_not]
  repeat' (first | refine And.intro ?_ ?_ | refine hk _ ?_ | (intro hg; try simp only [decide_eq_true_eq, decide_eq_false_iff_not] at hg) | omega | exact True.intro)
  all_goals clear hk k
  all_goals (
    refine AW.retF (ow := []) (muts := []) ?_ (fun h => And.intro (.inr rfl) h)
    simp [go_sem, *, inR, Try.results48, -decide_eq_true_eq, -decide_eq_false_iff_not])

set_option maxHeartbeats 600000 in
set_option linter.unusedSimpArgs false in
set_option maxRecDepth 100000 in
/-- impl.isPrint -/
theorem dc_impl_isPrint (c : UInt8) : DC Try.prog 30 [.int .u8 c.toNat] (.bool (isP c)) [] := by
  refine DC.intro tiOk Try.func30 rfl rfl rfl rfl rfl rfl rfl rfl [] ?_
  refine AW.reg tiOk (fun _ => []) [0] ?_
  intro k hk; simp -dsimp [go_sem, -decide_eq_true_eq, -decide_eq_false_iff_not]
  repeat' (first | refine And.intro ?_ ?_ | refine hk _ ?_ | intro hg | omega | exact True.intro)
  all_goals clear hk k
  refine AW.reg tiOk (fun _ => []) [2] ?_
  intro k hk; simp +contextual -dsimp (maxSteps := 2000000) [go_sem, -decide_eq_true_eq, -decide_eq_false_iff_not]
  repeat' (first | refine And.intro ?_ ?_ | refine hk _ ?_ | (intro hg; try simp only [decide_eq_true_eq, decide_eq_false_iff_not] at hg) | omega | exact True.intro)
  all_goals clear hk k
  all_goals (
    refine AW.retF (ow := []) (muts := []) ?_ (fun h => And.intro (.inr rfl) h)
    simp [go_sem, *, isP, Try.results30, -decide_eq_true_eq, -decide_eq_false_iff_not])

set_option maxHeartbeats 600000 in
set_option linter.unusedSimpArgs false in
set_option maxRecDepth 100000 in
/-- spec.l1Plain -/
theorem dc_spec_l1Plain (c : UInt8) : DC Try.prog 25 [.int .u8 c.toNat] (.bool (isP c)) [] := by
  refine DC.intro tiOk Try.func25 rfl rfl rfl rfl rfl rfl rfl rfl [] ?_
  refine AW.reg tiOk (fun _ => []) [0] ?_
  intro k hk; simp -dsimp [go_sem, -decide_eq_true_eq, -decide_eq_false_iff_not]
  repeat' (first | refine And.intro ?_ ?_ | refine hk _ ?_ | intro hg | omega | exact True.intro)
  all_goals clear hk k
  refine AW.reg tiOk (fun _ => []) [2] ?_
  intro k hk; simp +contextual -dsimp (maxSteps := 2000000) [go_sem, -decide_eq_true_eq, -decide_eq_false_iff_not]
  repeat' (first | refine And.intro ?_ ?_ | refine hk _ ?_ | (intro hg; try simp only [decide_eq_true_eq, decide_eq_false_iff_not] at hg) | omega | exact True.intro)
  all_goals clear hk k
  all_goals (
    refine AW.retF (ow := []) (muts := []) ?_ (fun h => And.intro (.inr rfl) h)
    simp [go_sem, *, isP, Try.results25, -decide_eq_true_eq, -decide_eq_false_iff_not])

set_option maxHeartbeats 600000 in
set_option linter.unusedSimpArgs false in
set_option maxRecDepth 100000 in
/-- impl.areAll -/
theorem dc_impl_areAll (f : Nat) (p : UInt8 → Bool) (hf : ∀ c : UInt8, DC Try.prog f [.int .u8 c.toNat] (.bool (p c)) []) (s : List UInt8) (hs : s.length ≤ 9223372036854775807) : DC Try.prog 29 [.str s, .fn f []] (.bool (s.all p)) [] := by
  refine DC.intro tiOk Try.func29 rfl rfl rfl rfl rfl rfl rfl rfl [] ?_
  refine AW.reg tiOk (fun _ => []) [0, 1] ?_
  intro k hk; simp -dsimp [go_sem, -decide_eq_true_eq, -decide_eq_false_iff_not]
  repeat' (first | refine And.intro ?_ ?_ | refine hk _ ?_ | intro hg | omega | exact True.intro)
  all_goals clear hk k
  refine AW.seq ?_
  refine AW.reg tiOk (fun _ => []) [0, 1, 7, 8] ?_
  intro k hk; simp -dsimp [go_sem, -decide_eq_true_eq, -decide_eq_false_iff_not]
  repeat' (first | refine And.intro ?_ ?_ | refine hk _ ?_ | intro hg | omega | exact True.intro)
  all_goals clear hk k
  refine AW.block ?_
  -- live at the loop's head: [0, 1, 7, 8]
  refine AW.loopI (fun i : Nat => ⟨18, [(0, .str s), (1, .fn f []), (7, .int .i64 s.length), (8, .int .i64 i)], []⟩) (fun i => i ≤ s.length ∧ (s.take i).all p = true) (fun i => s.length - i) (0) (by simp) (Less.of rfl (by simp [go_sem]) (by simp [go_sem])) ?_
  rintro i ⟨hi, hall⟩
  refine AW.reg tiOk (fun _ => []) [0, 1, 7, 8, 9] ?_
  intro k hk; simp -dsimp [go_sem, -decide_eq_true_eq, -decide_eq_false_iff_not]
  repeat' (first | refine And.intro ?_ ?_ | refine hk _ ?_ | intro hg | omega | exact True.intro)
  all_goals clear hk k
  refine AW.seq ?_
  refine AW.cond rfl ?_ ?_
  · intro hc; try simp at hc
    all_goals (
      have hlt : i < s.length := by assumption
      obtain ⟨x, hx⟩ := at_some hlt
      refine AW.skipN (fun _ h => h) ?_
      refine AW.seq ?_
      refine AW.block ?_
      refine AW.reg tiOk (fun _ => []) [0, 1, 5, 7, 8] ?_
      intro k hk; simp -dsimp [go_sem, -decide_eq_true_eq, -decide_eq_false_iff_not, hx]
      repeat' (first | refine And.intro ?_ ?_ | refine hk _ ?_ | intro hg | omega | exact True.intro)
      all_goals clear hk k
      refine AW.reg tiOk (fun _ => []) [0, 1, 7, 8, 16] ?_
      intro k hk; simp -dsimp (maxSteps := 2000000) [go_sem, -decide_eq_true_eq, -decide_eq_false_iff_not, hx]
      repeat' (first | refine And.intro ?_ ?_ | refine hk _ ?_ | intro hg | (refine CallK.intro (hf x) ?_; simp -dsimp (maxSteps := 2000000) [go_sem, -decide_eq_true_eq, -decide_eq_false_iff_not, hx]) | omega | exact True.intro)
      all_goals clear hk k
      refine AW.cond rfl ?_ ?_
      · intro hc; try simp at hc
        all_goals (
          refine AW.reg tiOk (fun _ => []) [4] ?_
          intro k hk; simp -dsimp [go_sem, -decide_eq_true_eq, -decide_eq_false_iff_not, hx]
          repeat' (first | refine And.intro ?_ ?_ | refine hk _ ?_ | intro hg | omega | exact True.intro)
          all_goals clear hk k
          refine AW.retF (ow := []) (muts := []) ?_ (fun h => And.intro (.inr rfl) h)
          first | (have hr := all_not (p := p) hx (by assumption); simp [go_sem, Try.results29, hr]) | (have hr := all_end (show s.length ≤ i by omega) hall; simp [go_sem, Try.results29, hr]))
      · intro hc; try simp at hc
        all_goals (
          refine AW.skipN (fun _ h => h) ?_
          refine AW.regK tiOk (fun _ => []) ?_
          intro k hk; simp -dsimp [go_sem, -decide_eq_true_eq, -decide_eq_false_iff_not, hx]
          repeat' (first | refine And.intro ?_ ?_ | refine hk _ ?_ | intro hg | omega | exact True.intro)
          all_goals clear hk k
          show ∃ _, _
          have hw := wrapi hlt hs
          refine ⟨i + 1, ⟨by omega, ?_⟩, by omega, Less.of rfl (by simp [go_sem, hw]) (by simp [go_sem])⟩
          rw [all_take hx hall]; assumption))
  · intro hc; try simp at hc
    all_goals (
      refine AW.exitN (fun _ h => h) ?_
      refine AW.reg tiOk (fun _ => []) [4] ?_
      intro k hk; simp -dsimp [go_sem, -decide_eq_true_eq, -decide_eq_false_iff_not]
      repeat' (first | refine And.intro ?_ ?_ | refine hk _ ?_ | intro hg | omega | exact True.intro)
      all_goals clear hk k
      refine AW.retF (ow := []) (muts := []) ?_ (fun h => And.intro (.inr rfl) h)
      first | (have hr := all_not (p := p) hx (by assumption); simp [go_sem, Try.results29, hr]) | (have hr := all_end (show s.length ≤ i by omega) hall; simp [go_sem, Try.results29, hr]))

set_option maxHeartbeats 600000 in
set_option linter.unusedSimpArgs false in
set_option maxRecDepth 100000 in
/-- impl.firstCode -/
theorem dc_impl_firstCode (l : List Int) (hl : l.length ≤ 9223372036854775807) : DC Try.prog 26 [.isl 1 (l.map I1)] (.int .i64 (firstC l)) [] := by
  refine DC.intro tiOk Try.func26 rfl rfl rfl rfl rfl rfl rfl rfl [] ?_
  refine AW.reg tiOk (fun _ => []) [0] ?_
  intro k hk; simp -dsimp [go_sem, -decide_eq_true_eq, -decide_eq_false_iff_not]
  repeat' (first | refine And.intro ?_ ?_ | refine hk _ ?_ | intro hg | omega | exact True.intro)
  all_goals clear hk k
  refine AW.seq ?_
  refine AW.reg tiOk (fun _ => []) [5, 6, 7] ?_
  intro k hk; simp -dsimp [go_sem, -decide_eq_true_eq, -decide_eq_false_iff_not]
  repeat' (first | refine And.intro ?_ ?_ | refine hk _ ?_ | intro hg | omega | exact True.intro)
  all_goals clear hk k
  refine AW.block ?_
  -- live at the loop's head: [5, 6, 7]
  refine AW.loopI (fun i : Nat => ⟨15, [(5, .isl 1 (l.map I1)), (6, .int .i64 l.length), (7, .int .i64 i)], []⟩) (fun i => i ≤ l.length ∧ firstC l = firstC (l.drop i)) (fun i => l.length - i) (0) (by simp) (Less.of rfl (by simp [go_sem]) (by simp [go_sem])) ?_
  rintro i ⟨hi, hinv⟩
  refine AW.reg tiOk (fun _ => []) [5, 6, 7, 8] ?_
  intro k hk; simp -dsimp [go_sem, -decide_eq_true_eq, -decide_eq_false_iff_not]
  repeat' (first | refine And.intro ?_ ?_ | refine hk _ ?_ | intro hg | omega | exact True.intro)
  all_goals clear hk k
  refine AW.seq ?_
  refine AW.cond rfl ?_ ?_
  · intro hc; try simp at hc
    all_goals (
      have hlt : i < l.length := by assumption
      obtain ⟨x, hx⟩ := at_some hlt
      refine AW.skipN (fun _ h => h) ?_
      refine AW.seq ?_
      refine AW.block ?_
      refine AW.reg tiOk (fun _ => []) [4, 5, 6, 7] ?_
      intro k hk; simp -dsimp [go_sem, -decide_eq_true_eq, -decide_eq_false_iff_not, hx]
      repeat' (first | refine And.intro ?_ ?_ | refine hk _ ?_ | intro hg | omega | exact True.intro)
      all_goals clear hk k
      refine AW.reg tiOk (fun _ => []) [4, 5, 6, 7, 12] ?_
      intro k hk; simp -dsimp [go_sem, -decide_eq_true_eq, -decide_eq_false_iff_not, hx]
      repeat' (first | refine And.intro ?_ ?_ | refine hk _ ?_ | intro hg | omega | exact True.intro)
      all_goals clear hk k
      refine AW.cond rfl ?_ ?_
      · intro hc; try simp at hc
        all_goals (
          refine AW.reg tiOk (fun _ => []) [2] ?_
          intro k hk; simp -dsimp [go_sem, -decide_eq_true_eq, -decide_eq_false_iff_not, hx]
          repeat' (first | refine And.intro ?_ ?_ | refine hk _ ?_ | intro hg | omega | exact True.intro)
          all_goals clear hk k
          refine AW.retF (ow := []) (muts := []) ?_ (fun h => And.intro (.inr rfl) h)
          first | (simp [go_sem, Try.results26, hinv, firstC_step hx, *]; done) | (simp [go_sem, Try.results26, hinv, firstC_end (show l.length ≤ i by omega)]))
      · intro hc; try simp at hc
        all_goals (
          refine AW.skipN (fun _ h => h) ?_
          refine AW.regK tiOk (fun _ => []) ?_
          intro k hk; simp -dsimp [go_sem, -decide_eq_true_eq, -decide_eq_false_iff_not, hx]
          repeat' (first | refine And.intro ?_ ?_ | refine hk _ ?_ | intro hg | omega | exact True.intro)
          all_goals clear hk k
          show ∃ _, _
          have hw := wrapi hlt hl
          refine ⟨i + 1, ⟨by omega, ?_⟩, by omega, Less.of rfl (by simp [go_sem, hw]) (by simp [go_sem])⟩
          rw [hinv, firstC_step hx, if_pos (by assumption)]))
  · intro hc; try simp at hc
    all_goals (
      refine AW.exitN (fun _ h => h) ?_
      refine AW.reg tiOk (fun _ => []) [2] ?_
      intro k hk; simp -dsimp [go_sem, -decide_eq_true_eq, -decide_eq_false_iff_not]
      repeat' (first | refine And.intro ?_ ?_ | refine hk _ ?_ | intro hg | omega | exact True.intro)
      all_goals clear hk k
      refine AW.retF (ow := []) (muts := []) ?_ (fun h => And.intro (.inr rfl) h)
      first | (simp [go_sem, Try.results26, hinv, firstC_step hx, *]; done) | (simp [go_sem, Try.results26, hinv, firstC_end (show l.length ≤ i by omega)]))

set_option maxHeartbeats 600000 in
set_option linter.unusedSimpArgs false in
set_option maxRecDepth 100000 in
/-- impl.LineFault -/
theorem dc_impl_LineFault (s : List UInt8) (hs : s.length ≤ 9223372036854775807) : DC Try.prog 10 [.str s] (.int .i64 (lineF s)) [] := by
  refine DC.intro tiOk Try.func10 rfl rfl rfl rfl rfl rfl rfl rfl [] ?_
  refine AW.reg tiOk (fun _ => []) [0] ?_
  intro k hk; simp -dsimp [go_sem, -decide_eq_true_eq, -decide_eq_false_iff_not]
  repeat' (first | refine And.intro ?_ ?_ | refine hk _ ?_ | intro hg | omega | exact True.intro)
  all_goals clear hk k
  refine AW.reg tiOk (fun _ => []) [2] ?_
  intro k hk; simp -dsimp (maxSteps := 2000000) [go_sem, -decide_eq_true_eq, -decide_eq_false_iff_not]
  repeat' (first | refine And.intro ?_ ?_ | refine hk _ ?_ | intro hg | (refine CallK.intro (dc_impl_inRange _ _ _) ?_; simp -dsimp (maxSteps := 2000000) [go_sem, -decide_eq_true_eq, -decide_eq_false_iff_not]) | (refine CallK.intro (dc_impl_codeIf _ _) ?_; simp -dsimp (maxSteps := 2000000) [go_sem, -decide_eq_true_eq, -decide_eq_false_iff_not]) | (refine CallK.intro (dc_impl_areAll 30 isP dc_impl_isPrint _ (by assumption)) ?_; simp -dsimp (maxSteps := 2000000) [go_sem, -decide_eq_true_eq, -decide_eq_false_iff_not]) | (refine CallK.intro (dc_impl_firstCode [_, _] (by simp)) ?_; simp -dsimp (maxSteps := 2000000) [go_sem, -decide_eq_true_eq, -decide_eq_false_iff_not]) | (refine CallK.intro (dc_impl_firstCode [_, _, _] (by simp)) ?_; simp -dsimp (maxSteps := 2000000) [go_sem, -decide_eq_true_eq, -decide_eq_false_iff_not]) | (refine CallK.intro (dc_impl_firstCode [_, _, _, _] (by simp)) ?_; simp -dsimp (maxSteps := 2000000) [go_sem, -decide_eq_true_eq, -decide_eq_false_iff_not]) | omega | exact True.intro)
  all_goals clear hk k
  refine AW.retF (ow := []) (muts := []) ?_ (fun h => And.intro (.inr rfl) h)
  rw [← lineF_eq]; simp [go_sem, Try.results10]

set_option maxHeartbeats 600000 in
set_option linter.unusedSimpArgs false in
set_option maxRecDepth 100000 in
/-- spec.LineFault -/
theorem dc_spec_LineFault (s : List UInt8) (hs : s.length ≤ 9223372036854775807) : DC Try.prog 9 [.str s] (.int .i64 (lineF s)) [] := by
  refine DC.intro tiOk Try.func9 rfl rfl rfl rfl rfl rfl rfl rfl [] ?_
  refine AW.reg tiOk (fun _ => []) [0] ?_
  intro k hk; simp -dsimp [go_sem, -decide_eq_true_eq, -decide_eq_false_iff_not]
  repeat' (first | refine And.intro ?_ ?_ | refine hk _ ?_ | intro hg | omega | exact True.intro)
  all_goals clear hk k
  refine AW.seq ?_
  refine AW.reg tiOk (fun _ => []) [0, 11] ?_
  intro k hk; simp +contextual -dsimp (maxSteps := 2000000) [go_sem, -decide_eq_true_eq, -decide_eq_false_iff_not]
  repeat' (first | refine And.intro ?_ ?_ | refine hk _ ?_ | (intro hg; try simp only [decide_eq_true_eq, decide_eq_false_iff_not] at hg) | omega | exact True.intro)
  all_goals clear hk k
  all_goals (
    refine AW.cond rfl ?_ ?_
    · intro hc; try simp at hc
      all_goals (
        refine AW.reg tiOk (fun _ => []) [2] ?_
        intro k hk; simp -dsimp [go_sem, -decide_eq_true_eq, -decide_eq_false_iff_not]
        repeat' (first | refine And.intro ?_ ?_ | refine hk _ ?_ | intro hg | omega | exact True.intro)
        all_goals clear hk k
        refine AW.retF (ow := []) (muts := []) ?_ (fun h => And.intro (.inr rfl) h)
        (try simp only [decide_eq_true_eq, decide_eq_false_iff_not] at hg); first | (rw [lineF_bad (by omega)]; simp [go_sem, Try.results9]; done) | (rw [lineF_good (by omega) (all_not hx (by assumption))]; simp [go_sem, Try.results9]; done) | (rw [lineF_good (b := true) (by omega) (all_end (by omega) hall)]; simp [go_sem, Try.results9]))
    · intro hc; try simp at hc
      all_goals (
        refine AW.skipN (fun _ h => h) ?_
        refine AW.seq ?_
        refine AW.reg tiOk (fun _ => []) [0, 3] ?_
        intro k hk; simp -dsimp [go_sem, -decide_eq_true_eq, -decide_eq_false_iff_not]
        repeat' (first | refine And.intro ?_ ?_ | refine hk _ ?_ | intro hg | omega | exact True.intro)
        all_goals clear hk k
        refine AW.block ?_
        -- live at the loop's head: [0, 3]
        refine AW.loopI (fun i : Nat => ⟨23, [(0, .str s), (3, .int .i64 i)], []⟩) (fun i => i ≤ s.length ∧ (s.take i).all isP = true) (fun i => s.length - i) (0) (by simp) (Less.of rfl (by simp [go_sem]) (by simp [go_sem])) ?_
        rintro i ⟨hi, hall⟩
        refine AW.seq ?_
        refine AW.reg tiOk (fun _ => []) [0, 3, 15] ?_
        intro k hk; simp -dsimp [go_sem, -decide_eq_true_eq, -decide_eq_false_iff_not]
        repeat' (first | refine And.intro ?_ ?_ | refine hk _ ?_ | intro hg | omega | exact True.intro)
        all_goals clear hk k
        refine AW.cond rfl ?_ ?_
        · intro hc; try simp at hc
          all_goals (
            have hlt : i < s.length := by assumption
            obtain ⟨x, hx⟩ := at_some hlt
            refine AW.skipN (fun _ h => h) ?_
            refine AW.seq ?_
            refine AW.block ?_
            refine AW.reg tiOk (fun _ => []) [0, 3, 22] ?_
            intro k hk; simp -dsimp (maxSteps := 2000000) [go_sem, -decide_eq_true_eq, -decide_eq_false_iff_not, hx]
            repeat' (first | refine And.intro ?_ ?_ | refine hk _ ?_ | intro hg | (refine CallK.intro (dc_spec_l1Plain x) ?_; simp -dsimp (maxSteps := 2000000) [go_sem, -decide_eq_true_eq, -decide_eq_false_iff_not, hx]) | omega | exact True.intro)
            all_goals clear hk k
            refine AW.cond rfl ?_ ?_
            · intro hc; try simp at hc
              all_goals (
                refine AW.reg tiOk (fun _ => []) [2] ?_
                intro k hk; simp -dsimp [go_sem, -decide_eq_true_eq, -decide_eq_false_iff_not, hx]
                repeat' (first | refine And.intro ?_ ?_ | refine hk _ ?_ | intro hg | omega | exact True.intro)
                all_goals clear hk k
                refine AW.retF (ow := []) (muts := []) ?_ (fun h => And.intro (.inr rfl) h)
                (try simp only [decide_eq_true_eq, decide_eq_false_iff_not] at hg); first | (rw [lineF_bad (by omega)]; simp [go_sem, Try.results9]; done) | (rw [lineF_good (by omega) (all_not hx (by assumption))]; simp [go_sem, Try.results9]; done) | (rw [lineF_good (b := true) (by omega) (all_end (by omega) hall)]; simp [go_sem, Try.results9]))
            · intro hc; try simp at hc
              all_goals (
                refine AW.skipN (fun _ h => h) ?_
                refine AW.regK tiOk (fun _ => []) ?_
                intro k hk; simp -dsimp [go_sem, -decide_eq_true_eq, -decide_eq_false_iff_not, hx]
                repeat' (first | refine And.intro ?_ ?_ | refine hk _ ?_ | intro hg | omega | exact True.intro)
                all_goals clear hk k
                show ∃ _, _
                have hw := wrapi hlt hs
                refine ⟨i + 1, ⟨by omega, ?_⟩, by omega, Less.of rfl (by simp [go_sem, hw]) (by simp [go_sem])⟩
                rw [all_take hx hall]; assumption))
        · intro hc; try simp at hc
          all_goals (
            refine AW.exitN (fun _ h => h) ?_
            refine AW.reg tiOk (fun _ => []) [2] ?_
            intro k hk; simp -dsimp [go_sem, -decide_eq_true_eq, -decide_eq_false_iff_not]
            repeat' (first | refine And.intro ?_ ?_ | refine hk _ ?_ | intro hg | omega | exact True.intro)
            all_goals clear hk k
            refine AW.retF (ow := []) (muts := []) ?_ (fun h => And.intro (.inr rfl) h)
            (try simp only [decide_eq_true_eq, decide_eq_false_iff_not] at hg); first | (rw [lineF_bad (by omega)]; simp [go_sem, Try.results9]; done) | (rw [lineF_good (by omega) (all_not hx (by assumption))]; simp [go_sem, Try.results9]; done) | (rw [lineF_good (b := true) (by omega) (all_end (by omega) hall)]; simp [go_sem, Try.results9]))))

end Go.AM

/-! ### W6 -/
set_option linter.unusedVariables false
set_option linter.unusedSimpArgs false
namespace Go.AM
open Go.Proofs

set_option maxHeartbeats 600000 in
set_option linter.unusedSimpArgs false in
set_option maxRecDepth 100000 in
/-- laws.lwBig -/
theorem dc_laws_lwBig (c : List UInt8) (hcl : c.length ≤ 9223372036854775807) : DC Try.prog 6 [.isl 1 (c.map B1)] (.bool (decide (1048576 < c.length))) [] := by
  refine DC.intro tiOk Try.func6 rfl rfl rfl rfl rfl rfl rfl rfl [] ?_
  refine AW.reg tiOk (fun _ => []) [0] ?_
  intro k hk; simp -dsimp [go_sem, -decide_eq_true_eq, -decide_eq_false_iff_not]
  repeat' (first | refine And.intro ?_ ?_ | refine hk _ ?_ | intro hg | omega | exact True.intro)
  all_goals clear hk k
  refine AW.reg tiOk (fun _ => []) [2] ?_
  intro k hk; simp -dsimp [go_sem, -decide_eq_true_eq, -decide_eq_false_iff_not]
  repeat' (first | refine And.intro ?_ ?_ | refine hk _ ?_ | intro hg | omega | exact True.intro)
  all_goals clear hk k
  refine AW.retF (ow := []) (muts := []) ?_ (fun h => And.intro (.inr rfl) h)
  simp [go_sem, Try.results6] <;> omega

set_option maxHeartbeats 600000 in
set_option linter.unusedSimpArgs false in
set_option maxRecDepth 100000 in
/-- laws.lwTexts -/
theorem dc_laws_lwTexts (a b : List (List UInt8)) (ha : a.length ≤ 9223372036854775807) : DC Try.prog 14 [.isl 1 (a.map S1), .isl 1 (b.map S1)] (.bool (decide (a = b))) [] := by
  refine DC.intro tiOk Try.func14 rfl rfl rfl rfl rfl rfl rfl rfl [] ?_
  refine AW.reg tiOk (fun _ => []) [0, 1] ?_
  intro k hk; simp -dsimp [go_sem, -decide_eq_true_eq, -decide_eq_false_iff_not]
  repeat' (first | refine And.intro ?_ ?_ | refine hk _ ?_ | intro hg | omega | exact True.intro)
  all_goals clear hk k
  refine AW.seq ?_
  refine AW.reg tiOk (fun _ => []) [0, 1, 10] ?_
  intro k hk; simp -dsimp [go_sem, -decide_eq_true_eq, -decide_eq_false_iff_not]
  repeat' (first | refine And.intro ?_ ?_ | refine hk _ ?_ | intro hg | omega | exact True.intro)
  all_goals clear hk k
  refine AW.cond rfl ?_ ?_
  · intro hc; try simp at hc
    all_goals (
      refine AW.reg tiOk (fun _ => []) [4] ?_
      intro k hk; simp -dsimp [go_sem, -decide_eq_true_eq, -decide_eq_false_iff_not]
      repeat' (first | refine And.intro ?_ ?_ | refine hk _ ?_ | intro hg | omega | exact True.intro)
      all_goals clear hk k
      refine AW.retF (ow := []) (muts := []) ?_ (fun h => And.intro (.inr rfl) h)
      first | (rw [eq_ne_at hx hy (by simpa using hc)]; simp [go_sem, Try.results14]; done) | (rw [eq_end (by omega) hinv (by omega)]; simp [go_sem, Try.results14]; done) | (rw [eq_ne_len (by omega)]; simp [go_sem, Try.results14]))
  · intro hc; try simp at hc
    all_goals (
      refine AW.skipN (fun _ h => h) ?_
      refine AW.seq ?_
      refine AW.reg tiOk (fun _ => []) [0, 1, 5] ?_
      intro k hk; simp -dsimp [go_sem, -decide_eq_true_eq, -decide_eq_false_iff_not]
      repeat' (first | refine And.intro ?_ ?_ | refine hk _ ?_ | intro hg | omega | exact True.intro)
      all_goals clear hk k
      refine AW.block ?_
      -- live at the loop's head: [0, 1, 5]
      refine AW.loopI (fun i : Nat => ⟨26, [(0, .isl 1 (a.map S1)), (1, .isl 1 (b.map S1)), (5, .int .i64 i)], []⟩) (fun i => i ≤ a.length ∧ a.take i = b.take i) (fun i => a.length - i) (0) (by simp) (Less.of rfl (by simp [go_sem]) (by simp [go_sem])) ?_
      rintro i ⟨hi, hinv⟩
      refine AW.seq ?_
      refine AW.reg tiOk (fun _ => []) [0, 1, 5, 14] ?_
      intro k hk; simp -dsimp [go_sem, -decide_eq_true_eq, -decide_eq_false_iff_not]
      repeat' (first | refine And.intro ?_ ?_ | refine hk _ ?_ | intro hg | omega | exact True.intro)
      all_goals clear hk k
      refine AW.cond rfl ?_ ?_
      · intro hc; try simp at hc
        all_goals (
          have hlt : i < a.length := by assumption
          obtain ⟨x, hx⟩ := at_some hlt
          obtain ⟨y, hy⟩ := at_some (l := b) (show i < b.length by omega)
          have hla := at_lt hy
          refine AW.skipN (fun _ h => h) ?_
          refine AW.seq ?_
          refine AW.block ?_
          refine AW.reg tiOk (fun _ => []) [0, 1, 5, 25] ?_
          intro k hk; simp -dsimp (maxSteps := 2000000) [go_sem, -decide_eq_true_eq, -decide_eq_false_iff_not, hx, hy]
          repeat' (first | refine And.intro ?_ ?_ | (refine Chk.keys ?_; simp only [go_sem, List.map_cons, List.map_nil, List.flatMap_cons, List.flatMap_nil, List.flatMap_append, List.append_nil, List.nil_append, List.cons_append]; decide +kernel) | refine hk _ ?_ | intro hg | omega | exact True.intro)
          all_goals clear hk k
          refine AW.cond rfl ?_ ?_
          · intro hc; try simp at hc
            all_goals (
              refine AW.reg tiOk (fun _ => []) [4] ?_
              intro k hk; simp -dsimp [go_sem, -decide_eq_true_eq, -decide_eq_false_iff_not, hx, hy]
              repeat' (first | refine And.intro ?_ ?_ | refine hk _ ?_ | intro hg | omega | exact True.intro)
              all_goals clear hk k
              refine AW.retF (ow := []) (muts := []) ?_ (fun h => And.intro (.inr rfl) h)
              first | (rw [eq_ne_at hx hy (by simpa using hc)]; simp [go_sem, Try.results14]; done) | (rw [eq_end (by omega) hinv (by omega)]; simp [go_sem, Try.results14]; done) | (rw [eq_ne_len (by omega)]; simp [go_sem, Try.results14]))
          · intro hc; try simp at hc
            all_goals (
              refine AW.skipN (fun _ h => h) ?_
              refine AW.regK tiOk (fun _ => []) ?_
              intro k hk; simp -dsimp [go_sem, -decide_eq_true_eq, -decide_eq_false_iff_not, hx, hy]
              repeat' (first | refine And.intro ?_ ?_ | refine hk _ ?_ | intro hg | omega | exact True.intro)
              all_goals clear hk k
              show ∃ _, _
              have hw := wrapi hlt (by omega)
              refine ⟨i + 1, ⟨by omega, take_step hx hy (by simpa using hc) hinv⟩, by omega, Less.of rfl (by simp [go_sem, hw]) (by simp [go_sem])⟩))
      · intro hc; try simp at hc
        all_goals (
          refine AW.exitN (fun _ h => h) ?_
          refine AW.reg tiOk (fun _ => []) [4] ?_
          intro k hk; simp -dsimp [go_sem, -decide_eq_true_eq, -decide_eq_false_iff_not]
          repeat' (first | refine And.intro ?_ ?_ | refine hk _ ?_ | intro hg | omega | exact True.intro)
          all_goals clear hk k
          refine AW.retF (ow := []) (muts := []) ?_ (fun h => And.intro (.inr rfl) h)
          first | (rw [eq_ne_at hx hy (by simpa using hc)]; simp [go_sem, Try.results14]; done) | (rw [eq_end (by omega) hinv (by omega)]; simp [go_sem, Try.results14]; done) | (rw [eq_ne_len (by omega)]; simp [go_sem, Try.results14])))

set_option maxHeartbeats 600000 in
set_option linter.unusedSimpArgs false in
set_option maxRecDepth 100000 in
/-- spec.l1Source -/
theorem dc_spec_l1Source (c : List UInt8) : DC Try.prog 33 [.isl 1 (c.map B1)] (.op [.isl 1 (c.map B1), .int .i64 0]) [] := by
  refine DC.intro tiOk Try.func33 rfl rfl rfl rfl rfl rfl rfl rfl [1000] ?_
  refine AW.reg tiOk (fun _ => []) [0] ?_
  intro k hk; simp -dsimp [go_sem, -decide_eq_true_eq, -decide_eq_false_iff_not]
  repeat' (first | refine And.intro ?_ ?_ | refine hk _ ?_ | intro hg | omega | exact True.intro)
  all_goals clear hk k
  refine AW.reg tiOk (fun _ => []) [2] ?_
  intro k hk; simp -dsimp [go_sem, -decide_eq_true_eq, -decide_eq_false_iff_not]
  repeat' (first | refine And.intro ?_ ?_ | refine hk _ ?_ | intro hg | omega | exact True.intro)
  all_goals clear hk k
  refine AW.retF (ow := [1000]) (muts := []) ?_ (fun h => And.intro (.inr rfl) h)
  simp [go_sem, Try.results33]

set_option maxHeartbeats 600000 in
set_option linter.unusedSimpArgs false in
set_option maxRecDepth 100000 in
/-- spec.l1Next -/
theorem dc_spec_l1Next (c : List UInt8) (hcl : c.length ≤ 1048576) (a : Int) (ha : 0 ≤ a ∧ a ≤ 100000) (n : Int) (hn : n ≤ 1000000) : DC Try.prog 36 [.op [.isl 1 (c.map B1), .int .i64 a], .int .i64 n] (.int .i64 (nx c a n)) [(0, .op [.isl 1 (c.map B1), .int .i64 (a + 1)])] := by
  have hw1 : IntKind.wrap .i64 (a + 1) = a + 1 := wrap64 (by omega) (by omega)
  have hw2 : IntKind.wrap .i64 (a + 1 - 1) = a := (wrap64 (by omega) (by omega)).trans (by omega)
  have hw2' : IntKind.wrap .i64 a = a := wrap64 (by omega) (by omega)
  have hac : a + 1 - 1 = a := by omega
  have hw3 : IntKind.wrap .i64 (a * 7) = a * 7 := wrap64 (by omega) (by omega)
  refine DC.intro tiOk Try.func36 rfl rfl rfl rfl rfl rfl rfl (by simp [noW, noWo]) [] ?_
  refine AW.reg tiOk (fun _ => []) [0, 1] ?_
  intro k hk; simp -dsimp [go_sem, -decide_eq_true_eq, -decide_eq_false_iff_not, hw1, hw2, hw2', hw3, hac]
  repeat' (first | refine And.intro ?_ ?_ | refine hk _ ?_ | intro hg | omega | exact True.intro | omega | fail)
  all_goals clear hk k
  refine AW.reg tiOk (fun _ => []) [0, 1] ?_
  intro k hk; simp -dsimp (maxSteps := 2000000) [go_sem, -decide_eq_true_eq, -decide_eq_false_iff_not, hw1, hw2, hw2', hw3, hac]
  repeat' (first | refine And.intro ?_ ?_ | refine hk _ ?_ | intro hg | omega | exact True.intro | omega | fail)
  all_goals clear hk k
  refine AW.seq ?_
  refine AW.reg tiOk (fun _ => []) [0, 1, 17] ?_
  intro k hk; simp -dsimp [go_sem, -decide_eq_true_eq, -decide_eq_false_iff_not, hw1, hw2, hw2', hw3, hac]
  repeat' (first | refine And.intro ?_ ?_ | refine hk _ ?_ | intro hg | omega | exact True.intro | omega | fail)
  all_goals clear hk k
  refine AW.cond rfl ?_ ?_
  · intro hc; try simp at hc
    all_goals (
      refine AW.reg tiOk (fun _ => []) [0, 4] ?_
      intro k hk; simp -dsimp [go_sem, -decide_eq_true_eq, -decide_eq_false_iff_not, hw1, hw2, hw2', hw3, hac]
      repeat' (first | refine And.intro ?_ ?_ | refine hk _ ?_ | intro hg | omega | exact True.intro | omega | fail)
      all_goals clear hk k
      refine AW.retF (ow := []) (muts := [(0, .op [.isl 1 (c.map B1), .int .i64 (a + 1)])]) ?_ (fun h => And.intro (.inr rfl) h)
      first | (simp [go_sem, Try.results36, nx, hc]; done) | (simp [go_sem, Try.results36, nx, hn1, hk0]; done) | (simp [go_sem, Try.results36, nx, hn1, hcn, h200, hx, hy]; done) | (have h200 : ¬ 200 < n := (by omega); simp [go_sem, Try.results36, nx, hn1, hcn, h200, hx]))
  · intro hc; try simp at hc
    all_goals (
      refine AW.skipN (fun _ h => h) ?_
      have hn1 : ¬ n < 1 := by simpa using hc
      have hwt : ∀ v : Int, 0 ≤ v → IntKind.wrap .i64 (v.tmod n) = v.tmod n := fun v hv => by have h8 := Int.tmod_nonneg n hv; have h9 := Int.tmod_lt_of_pos v (show 0 < n by omega); exact wrap64 (by omega) (by omega)
      refine AW.reg tiOk (fun _ => []) [0, 1, 5] ?_
      intro k hk; simp -dsimp [go_sem, -decide_eq_true_eq, -decide_eq_false_iff_not, hw1, hw2, hw2', hw3, hac]
      repeat' (first | refine And.intro ?_ ?_ | refine hk _ ?_ | intro hg | omega | exact True.intro | omega | fail)
      all_goals clear hk k
      refine AW.reg tiOk (fun _ => []) [0, 1, 5, 6] ?_
      intro k hk; simp -dsimp [go_sem, -decide_eq_true_eq, -decide_eq_false_iff_not, hw1, hw2, hw2', hw3, hac]
      repeat' (first | refine And.intro ?_ ?_ | refine hk _ ?_ | intro hg | omega | exact True.intro | omega | fail)
      all_goals clear hk k
      refine AW.seq ?_
      refine AW.reg tiOk (fun _ => []) [0, 1, 5, 6, 29] ?_
      intro k hk; simp -dsimp [go_sem, -decide_eq_true_eq, -decide_eq_false_iff_not, hw1, hw2, hw2', hw3, hac]
      repeat' (first | refine And.intro ?_ ?_ | refine hk _ ?_ | intro hg | omega | exact True.intro | omega | fail)
      all_goals clear hk k
      refine AW.cond rfl ?_ ?_
      · intro hc; try simp at hc
        all_goals (
          have hk0 : (c.length : Int) = 0 := by simpa using hc
          have hwt2 := hwt (a * 7) (by omega)
          refine AW.reg tiOk (fun _ => []) [0, 4] ?_
          intro k hk; simp -dsimp [go_sem, -decide_eq_true_eq, -decide_eq_false_iff_not, hw1, hw2, hw2', hw3, hac, hwt2]
          repeat' (first | refine And.intro ?_ ?_ | refine hk _ ?_ | intro hg | omega | exact True.intro | omega | fail)
          all_goals clear hk k
          refine AW.retF (ow := []) (muts := [(0, .op [.isl 1 (c.map B1), .int .i64 (a + 1)])]) ?_ (fun h => And.intro (.inr rfl) h)
          first | (simp [go_sem, Try.results36, nx, hc]; done) | (simp [go_sem, Try.results36, nx, hn1, hk0]; done) | (simp [go_sem, Try.results36, nx, hn1, hcn, h200, hx, hy]; done) | (have h200 : ¬ 200 < n := (by omega); simp [go_sem, Try.results36, nx, hn1, hcn, h200, hx]))
      · intro hc; try simp at hc
        all_goals (
          refine AW.skipN (fun _ h => h) ?_
          have hk0 : ¬ ((c.length : Int) = 0) := by simpa using hc
          have hkp : 0 < c.length := by omega
          have hcn : ¬ c = [] := by rintro rfl; simp at hkp
          have hm0 : 0 ≤ a.tmod c.length := Int.tmod_nonneg _ ha.1
          have hm1 : a.tmod c.length < c.length := Int.tmod_lt_of_pos _ (by omega)
          have hd0 : 0 ≤ a.tdiv c.length := Int.tdiv_nonneg ha.1 (by omega)
          have hd1 : a.tdiv c.length ≤ a := by rw [Int.tdiv_eq_ediv_of_nonneg ha.1]; exact Int.ediv_le_self _ ha.1
          obtain ⟨x, hx⟩ := at_some (l := c) (i := (a.tmod c.length).toNat) (by omega)
          have hx3 : ∀ h, c[(a.tmod c.length).toNat]'h = x := fun h => by have h9 := hx; rw [List.getElem?_eq_getElem h] at h9; exact Option.some.inj h9
          have hxb := x.toNat_lt
          have hgx : c.getD (a.tmod c.length).toNat 0 = x := by rw [List.getD_eq_getElem?_getD, hx]; rfl
          have hwr : IntKind.wrap .i64 (a.tmod c.length) = a.tmod c.length := wrap64 (by omega) (by omega)
          have hwd : IntKind.wrap .i64 (a.tdiv c.length) = a.tdiv c.length := wrap64 (by omega) (by omega)
          have hwm : IntKind.wrap .i64 (a.tdiv c.length * 37) = a.tdiv c.length * 37 := wrap64 (by omega) (by omega)
          have hwv : IntKind.wrap .i64 ((x.toNat : Int) + a.tdiv c.length * 37) = (x.toNat : Int) + a.tdiv c.length * 37 := wrap64 (by omega) (by omega)
          refine AW.reg tiOk (fun _ => []) [0, 1, 5, 6, 7] ?_
          intro k hk; simp -dsimp (maxSteps := 2000000) [go_sem, -decide_eq_true_eq, -decide_eq_false_iff_not, hw1, hw2, hw2', hw3, hac, hcn, hx, hx3, hm0, hm1, hwr, hwd, hwm, hwv]
          repeat' (first | refine And.intro ?_ ?_ | (refine Chk.keys ?_; simp only [go_sem, List.map_cons, List.map_nil, List.flatMap_cons, List.flatMap_nil, List.flatMap_append, List.append_nil, List.nil_append, List.cons_append]; decide +kernel) | refine hk _ ?_ | intro hg | omega | exact True.intro | omega | fail)
          all_goals clear hk k
          refine AW.seq ?_
          refine AW.reg tiOk (fun _ => []) [0, 1, 5, 6, 7, 50] ?_
          intro k hk; simp -dsimp [go_sem, -decide_eq_true_eq, -decide_eq_false_iff_not, hw1, hw2, hw2', hw3, hac]
          repeat' (first | refine And.intro ?_ ?_ | refine hk _ ?_ | intro hg | omega | exact True.intro | omega | fail)
          all_goals clear hk k
          refine AW.cond rfl ?_ ?_
          · intro hc; try simp at hc
            all_goals (
              have h200 : 200 < n := by simpa using hc
              have hq0 : 0 ≤ (a + 1).tmod c.length := Int.tmod_nonneg _ (by omega)
              have hq1 : (a + 1).tmod c.length < c.length := Int.tmod_lt_of_pos _ (by omega)
              obtain ⟨y, hy⟩ := at_some (l := c) (i := ((a + 1).tmod c.length).toNat) (by omega)
              have hy3 : ∀ h, c[((a + 1).tmod c.length).toNat]'h = y := fun h => by have h9 := hy; rw [List.getElem?_eq_getElem h] at h9; exact Option.some.inj h9
              have hyb := y.toNat_lt
              have hgy : c.getD ((a + 1).tmod c.length).toNat 0 = y := by rw [List.getD_eq_getElem?_getD, hy]; rfl
              have hwr2 : IntKind.wrap .i64 ((a + 1).tmod c.length) = (a + 1).tmod c.length := wrap64 (by omega) (by omega)
              have hw5 : IntKind.wrap .i64 (((x.toNat : Int) + a.tdiv c.length * 37) * 251) = ((x.toNat : Int) + a.tdiv c.length * 37) * 251 := wrap64 (by omega) (by omega)
              have hw6 : IntKind.wrap .i64 ((y.toNat : Int) * 13) = (y.toNat : Int) * 13 := wrap64 (by omega) (by omega)
              have hw7 : IntKind.wrap .i64 (((x.toNat : Int) + a.tdiv c.length * 37) * 251 + (y.toNat : Int) * 13) = ((x.toNat : Int) + a.tdiv c.length * 37) * 251 + (y.toNat : Int) * 13 := wrap64 (by omega) (by omega)
              have hw8 : IntKind.wrap .i64 (((x.toNat : Int) + a.tdiv c.length * 37) * 251 + (y.toNat : Int) * 13 + a) = ((x.toNat : Int) + a.tdiv c.length * 37) * 251 + (y.toNat : Int) * 13 + a := wrap64 (by omega) (by omega)
              have hwt2 := hwt (((x.toNat : Int) + a.tdiv c.length * 37) * 251 + (y.toNat : Int) * 13 + a) (by omega)
              refine AW.regN tiOk (fun _ => []) [0, 1, 7] (fun _ h => h) ?_
              intro k hk; simp -dsimp (maxSteps := 2000000) [go_sem, -decide_eq_true_eq, -decide_eq_false_iff_not, hw1, hw2, hw2', hw3, hac, hcn, hy, hy3, hq0, hq1, hwr2, hw5, hw6, hw7, hw8]
              repeat' (first | refine And.intro ?_ ?_ | (refine Chk.keys ?_; simp only [go_sem, List.map_cons, List.map_nil, List.flatMap_cons, List.flatMap_nil, List.flatMap_append, List.append_nil, List.nil_append, List.cons_append]; decide +kernel) | refine hk _ ?_ | intro hg | omega | exact True.intro | omega | fail)
              all_goals clear hk k
              have hwt3 := hwt ((x.toNat : Int) + a.tdiv c.length * 37) (by omega)
              refine AW.reg tiOk (fun _ => []) [0, 4] ?_
              intro k hk; simp -dsimp [go_sem, -decide_eq_true_eq, -decide_eq_false_iff_not, hw1, hw2, hw2', hw3, hac, hwt3]
              repeat' (first | refine And.intro ?_ ?_ | refine hk _ ?_ | intro hg | omega | exact True.intro | omega | fail)
              all_goals clear hk k
              refine AW.retF (ow := []) (muts := [(0, .op [.isl 1 (c.map B1), .int .i64 (a + 1)])]) ?_ (fun h => And.intro (.inr rfl) h)
              first | (simp [go_sem, Try.results36, nx, hc]; done) | (simp [go_sem, Try.results36, nx, hn1, hk0]; done) | (simp [go_sem, Try.results36, nx, hn1, hcn, h200, hx, hy]; done) | (have h200 : ¬ 200 < n := (by omega); simp [go_sem, Try.results36, nx, hn1, hcn, h200, hx]))
          · intro hc; try simp at hc
            all_goals (
              refine AW.skipN (fun _ h => h) ?_
              have hwt3 := hwt ((x.toNat : Int) + a.tdiv c.length * 37) (by omega)
              refine AW.reg tiOk (fun _ => []) [0, 4] ?_
              intro k hk; simp -dsimp [go_sem, -decide_eq_true_eq, -decide_eq_false_iff_not, hw1, hw2, hw2', hw3, hac, hwt3]
              repeat' (first | refine And.intro ?_ ?_ | refine hk _ ?_ | intro hg | omega | exact True.intro | omega | fail)
              all_goals clear hk k
              refine AW.retF (ow := []) (muts := [(0, .op [.isl 1 (c.map B1), .int .i64 (a + 1)])]) ?_ (fun h => And.intro (.inr rfl) h)
              first | (simp [go_sem, Try.results36, nx, hc]; done) | (simp [go_sem, Try.results36, nx, hn1, hk0]; done) | (simp [go_sem, Try.results36, nx, hn1, hcn, h200, hx, hy]; done) | (have h200 : ¬ 200 < n := (by omega); simp [go_sem, Try.results36, nx, hn1, hcn, h200, hx]))))

set_option maxHeartbeats 600000 in
set_option linter.unusedSimpArgs false in
set_option maxRecDepth 100000 in
/-- spec.l1Chance -/
theorem dc_spec_l1Chance (c : List UInt8) (hcl : c.length ≤ 1048576) (a : Int) (ha : 0 ≤ a ∧ a ≤ 90000) (n : Int) (hn : n ≤ 1000000) : DC Try.prog 35 [.op [.isl 1 (c.map B1), .int .i64 a], .int .i64 n] (.bool (decide (nx c a n = 0))) [(0, .op [.isl 1 (c.map B1), .int .i64 (a + 1)])] := by
  refine DC.intro tiOk Try.func35 rfl rfl rfl rfl rfl rfl rfl (by simp [noW, noWo]) [] ?_
  refine AW.reg tiOk (fun _ => []) [0, 1] ?_
  intro k hk; simp -dsimp [go_sem, -decide_eq_true_eq, -decide_eq_false_iff_not]
  repeat' (first | refine And.intro ?_ ?_ | refine hk _ ?_ | intro hg | omega | exact True.intro)
  all_goals clear hk k
  refine AW.reg tiOk (fun _ => [0]) [0, 4] ?_
  intro k hk; simp -dsimp (maxSteps := 2000000) [go_sem, -decide_eq_true_eq, -decide_eq_false_iff_not]
  repeat' (first | refine And.intro ?_ ?_ | refine hk _ ?_ | intro hg | (refine CallK.intro (dc_spec_l1Next c hcl a (by omega) n (by omega)) ?_; simp -dsimp (maxSteps := 2000000) [go_sem, -decide_eq_true_eq, -decide_eq_false_iff_not]) | omega | exact True.intro)
  all_goals clear hk k
  refine AW.retF (ow := []) (muts := [(0, .op [.isl 1 (c.map B1), .int .i64 (a + 1)])]) ?_ (fun h => And.intro (.inr rfl) h)
  simp [go_sem, Try.results35]

set_option maxHeartbeats 600000 in
set_option linter.unusedSimpArgs false in
set_option maxRecDepth 100000 in
/-- spec.l13Line -/
theorem dc_spec_l13Line (c : List UInt8) (hcl : c.length ≤ 1048576) (a : Int) (ha : 0 ≤ a ∧ a ≤ 90000) : DC Try.prog 39 [.op [.isl 1 (c.map B1), .int .i64 a]] (.str (lnD (nx c a 6))) [(0, .op [.isl 1 (c.map B1), .int .i64 (a + 1)])] := by
  refine DC.intro tiOk Try.func39 rfl rfl rfl rfl rfl rfl rfl (by simp [noW, noWo]) [] ?_
  refine AW.reg tiOk (fun _ => []) [0] ?_
  intro k hk; simp -dsimp [go_sem, -decide_eq_true_eq, -decide_eq_false_iff_not]
  repeat' (first | refine And.intro ?_ ?_ | refine hk _ ?_ | intro hg | omega | exact True.intro)
  all_goals clear hk k
  have hb := nx_bd c (n := 6) ha.1
  rcases (show nx c a 6 = 0 ∨ nx c a 6 = 1 ∨ nx c a 6 = 2 ∨ nx c a 6 = 3 ∨ nx c a 6 = 4 ∨ nx c a 6 = 5 by omega) with h6 | h6 | h6 | h6 | h6 | h6
  all_goals (
    refine AW.reg tiOk (fun i => if i = 2 then [0] else []) [0, 2] ?_
    intro k hk; simp -dsimp (maxSteps := 2000000) [go_sem, -decide_eq_true_eq, -decide_eq_false_iff_not, h6]
    repeat' (first | refine And.intro ?_ ?_ | refine hk _ ?_ | intro hg | (refine CallK.intro (dc_spec_l1Next c hcl a (by omega) 6 (by omega)) ?_; simp -dsimp (maxSteps := 2000000) [go_sem, -decide_eq_true_eq, -decide_eq_false_iff_not, h6]) | omega | exact True.intro)
    all_goals clear hk k
    refine AW.retF (ow := []) (muts := [(0, .op [.isl 1 (c.map B1), .int .i64 (a + 1)])]) ?_ (fun h => And.intro (.inr rfl) h)
    simp [go_sem, Try.results39, h6, lnD, ln6])

end Go.AM

/-! ### M1 -/
set_option linter.unusedVariables false
set_option linter.unusedSimpArgs false
namespace Go.AM
open Go.Proofs

end Go.AM

/-! ### J1 -/
set_option linter.unusedVariables false
set_option linter.unusedSimpArgs false
namespace Go.AM
open Go.Proofs

set_option maxHeartbeats 600000 in
set_option linter.unusedSimpArgs false in
set_option maxRecDepth 100000 in
/-- impl.pack -/
theorem dc_impl_pack (s : List UInt8) (hs : s.length ≤ 1048576) : DC Try.prog 24 [.str s] (.osl 1 ((pk s).map B1)) [] := by
  have hpl := pkH_len s
  refine DC.intro tiOk Try.func24 rfl rfl rfl rfl rfl rfl rfl rfl [1000] ?_
  refine AW.reg tiOk (fun _ => []) [0] ?_
  intro k hk; simp -dsimp [go_sem, -decide_eq_true_eq, -decide_eq_false_iff_not]
  repeat' (first | refine And.intro ?_ ?_ | refine hk _ ?_ | intro hg | omega | exact True.intro)
  all_goals clear hk k
  refine AW.reg tiOk (fun _ => []) [3, 4] ?_
  intro k hk; simp -dsimp (maxSteps := 2000000) [go_sem, -decide_eq_true_eq, -decide_eq_false_iff_not]
  repeat' (first | refine And.intro ?_ ?_ | refine hk _ ?_ | intro hg | omega | exact True.intro)
  all_goals clear hk k
  refine AW.seq ?_
  refine AW.reg tiOk (fun _ => []) [3, 4, 13, 14, 15] ?_
  intro k hk; simp -dsimp [go_sem, -decide_eq_true_eq, -decide_eq_false_iff_not]
  repeat' (first | refine And.intro ?_ ?_ | refine hk _ ?_ | intro hg | omega | exact True.intro)
  all_goals clear hk k
  refine AW.block ?_
  -- live at the loop's head: [3, 4, 13, 14, 15]
  refine AW.loopI (fun i : Nat => ⟨34, [(3, .sl 12 1 0 (pkH s).length), (4, .int .i64 (sumB ((pkH s).take i) 1)), (13, .sl 12 1 0 (pkH s).length), (14, .int .i64 (pkH s).length), (15, .int .i64 i)], [(12, some ⟨1, (pkH s).map B1⟩)]⟩) (fun i => i ≤ (pkH s).length) (fun i => (pkH s).length - i) (0) (by simp) (Less.of rfl (by simp [go_sem, hpl, sumB] <;> omega) (by simp [go_sem, pkH])) ?_
  rintro i hi
  refine AW.reg tiOk (fun _ => []) [3, 4, 13, 14, 15, 16] ?_
  intro k hk; simp -dsimp [go_sem, -decide_eq_true_eq, -decide_eq_false_iff_not]
  repeat' (first | refine And.intro ?_ ?_ | refine hk _ ?_ | intro hg | omega | exact True.intro)
  all_goals clear hk k
  refine AW.seq ?_
  refine AW.cond rfl ?_ ?_
  · intro hc; try simp at hc
    all_goals (
      have hlt : i < (pkH s).length := by first | assumption | (rw [pkH_len]; omega)
      obtain ⟨x, hx⟩ := at_some hlt
      have hxt := x.toNat_lt
      have hsb := sumB_bd ((pkH s).take i) 1 (by decide)
      have hw1 : IntKind.wrap .i64 (sumB ((pkH s).take i) 1 * 251) = sumB ((pkH s).take i) 1 * 251 := wrap64 (by omega) (by omega)
      have hw2 : IntKind.wrap .i64 (sumB ((pkH s).take i) 1 * 251 + (x.toNat : Int)) = sumB ((pkH s).take i) 1 * 251 + (x.toNat : Int) := wrap64 (by omega) (by omega)
      have hw3 : (sumB ((pkH s).take i) 1 * 251 + (x.toNat : Int)).tmod 65521 = sumB ((pkH s).take (i + 1)) 1 := by rw [sumB_step hx]; exact Int.tmod_eq_emod_of_nonneg (by omega)
      refine AW.skipN (fun _ h => h) ?_
      refine AW.seq ?_
      refine AW.block ?_
      refine AW.reg tiOk (fun _ => []) [3, 4, 6, 13, 14, 15] ?_
      intro k hk; simp -dsimp [go_sem, -decide_eq_true_eq, -decide_eq_false_iff_not, hx, hw1, hw2, hw3]
      repeat' (first | refine And.intro ?_ ?_ | refine hk _ ?_ | intro hg | omega | exact True.intro)
      all_goals clear hk k
      refine AW.regN tiOk (fun _ => []) [3, 4, 13, 14, 15] (fun _ h => h) ?_
      intro k hk; simp -dsimp (maxSteps := 2000000) [go_sem, -decide_eq_true_eq, -decide_eq_false_iff_not, hx, hw1, hw2, hw3]
      repeat' (first | refine And.intro ?_ ?_ | refine hk _ ?_ | intro hg | omega | exact True.intro)
      all_goals clear hk k
      refine AW.regK tiOk (fun _ => []) ?_
      intro k hk; simp -dsimp [go_sem, -decide_eq_true_eq, -decide_eq_false_iff_not, hx, hw1, hw2, hw3]
      repeat' (first | refine And.intro ?_ ?_ | refine hk _ ?_ | intro hg | omega | exact True.intro)
      all_goals clear hk k
      show ∃ _, _
      have hw := wrapi hlt (by omega)
      refine ⟨i + 1, by omega, by omega, Less.of rfl (by simp [go_sem, hw]) (by simp [go_sem])⟩)
  · intro hc; try simp at hc
    all_goals (
      refine AW.exitN (fun _ h => h) ?_
      rw [List.take_of_length_le (show (pkH s).length ≤ i by first | assumption | (rw [pkH_len]; omega))]
      have hfd : (sumB (pkH s) 1).fdiv 256 = sumB (pkH s) 1 / 256 := Int.fdiv_eq_ediv_of_nonneg _ (by decide)
      refine AW.reg tiOk (fun _ => []) [2] ?_
      intro k hk; simp -dsimp (maxSteps := 2000000) [go_sem, -decide_eq_true_eq, -decide_eq_false_iff_not, hfd]
      repeat' (first | refine And.intro ?_ ?_ | refine hk _ ?_ | intro hg | omega | exact True.intro)
      all_goals clear hk k
      refine AW.retF (ow := [1000]) (muts := []) ?_ (fun h => And.intro (.inr rfl) h)
      simp [go_sem, Try.results24, pk])

set_option maxHeartbeats 600000 in
set_option linter.unusedSimpArgs false in
set_option maxRecDepth 100000 in
/-- spec.l13Pack -/
theorem dc_spec_l13Pack (s : List UInt8) (hs : s.length ≤ 1048576) : DC Try.prog 44 [.str s] (.osl 1 ((pk s).map B1)) [] := by
  have hpl := pkH_len s
  refine DC.intro tiOk Try.func44 rfl rfl rfl rfl rfl rfl rfl rfl [1000] ?_
  refine AW.reg tiOk (fun _ => []) [0] ?_
  intro k hk; simp -dsimp [go_sem, -decide_eq_true_eq, -decide_eq_false_iff_not]
  repeat' (first | refine And.intro ?_ ?_ | refine hk _ ?_ | intro hg | omega | exact True.intro)
  all_goals clear hk k
  refine AW.reg tiOk (fun _ => []) [3] ?_
  intro k hk; simp -dsimp (maxSteps := 2000000) [go_sem, -decide_eq_true_eq, -decide_eq_false_iff_not]
  repeat' (first | refine And.intro ?_ ?_ | refine hk _ ?_ | intro hg | omega | exact True.intro)
  all_goals clear hk k
  refine AW.reg tiOk (fun _ => []) [3, 4] ?_
  intro k hk; simp -dsimp [go_sem, -decide_eq_true_eq, -decide_eq_false_iff_not]
  repeat' (first | refine And.intro ?_ ?_ | refine hk _ ?_ | intro hg | omega | exact True.intro)
  all_goals clear hk k
  refine AW.seq ?_
  refine AW.reg tiOk (fun _ => []) [3, 4, 5] ?_
  intro k hk; simp -dsimp [go_sem, -decide_eq_true_eq, -decide_eq_false_iff_not]
  repeat' (first | refine And.intro ?_ ?_ | refine hk _ ?_ | intro hg | omega | exact True.intro)
  all_goals clear hk k
  refine AW.block ?_
  -- live at the loop's head: [3, 4, 5]
  refine AW.loopI (fun i : Nat => ⟨37, [(3, .sl 12 1 0 (pkH s).length), (4, .int .i64 (sumB ((pkH s).take i) 1)), (5, .int .i64 i)], [(12, some ⟨1, (pkH s).map B1⟩)]⟩) (fun i => i ≤ (pkH s).length) (fun i => (pkH s).length - i) (0) (by simp) (Less.of rfl (by simp [go_sem, hpl, sumB] <;> omega) (by simp [go_sem, pkH])) ?_
  rintro i hi
  refine AW.seq ?_
  refine AW.reg tiOk (fun _ => []) [3, 4, 5, 16] ?_
  intro k hk; simp -dsimp [go_sem, -decide_eq_true_eq, -decide_eq_false_iff_not]
  repeat' (first | refine And.intro ?_ ?_ | refine hk _ ?_ | intro hg | omega | exact True.intro)
  all_goals clear hk k
  refine AW.cond rfl ?_ ?_
  · intro hc; try simp at hc
    all_goals (
      have hlt : i < (pkH s).length := by first | assumption | (rw [pkH_len]; omega)
      obtain ⟨x, hx⟩ := at_some hlt
      have hxt := x.toNat_lt
      have hsb := sumB_bd ((pkH s).take i) 1 (by decide)
      have hw1 : IntKind.wrap .i64 (sumB ((pkH s).take i) 1 * 251) = sumB ((pkH s).take i) 1 * 251 := wrap64 (by omega) (by omega)
      have hw2 : IntKind.wrap .i64 (sumB ((pkH s).take i) 1 * 251 + (x.toNat : Int)) = sumB ((pkH s).take i) 1 * 251 + (x.toNat : Int) := wrap64 (by omega) (by omega)
      have hw3 : (sumB ((pkH s).take i) 1 * 251 + (x.toNat : Int)).tmod 65521 = sumB ((pkH s).take (i + 1)) 1 := by rw [sumB_step hx]; exact Int.tmod_eq_emod_of_nonneg (by omega)
      refine AW.skipN (fun _ h => h) ?_
      refine AW.seq ?_
      refine AW.block ?_
      refine AW.regN tiOk (fun _ => []) [3, 4, 5] (fun _ h => h) ?_
      intro k hk; simp -dsimp (maxSteps := 2000000) [go_sem, -decide_eq_true_eq, -decide_eq_false_iff_not, hx, hw1, hw2, hw3]
      repeat' (first | refine And.intro ?_ ?_ | refine hk _ ?_ | intro hg | omega | exact True.intro)
      all_goals clear hk k
      refine AW.regK tiOk (fun _ => []) ?_
      intro k hk; simp -dsimp [go_sem, -decide_eq_true_eq, -decide_eq_false_iff_not, hx, hw1, hw2, hw3]
      repeat' (first | refine And.intro ?_ ?_ | refine hk _ ?_ | intro hg | omega | exact True.intro)
      all_goals clear hk k
      show ∃ _, _
      have hw := wrapi hlt (by omega)
      refine ⟨i + 1, by omega, by omega, Less.of rfl (by simp [go_sem, hw]) (by simp [go_sem])⟩)
  · intro hc; try simp at hc
    all_goals (
      refine AW.exitN (fun _ h => h) ?_
      rw [List.take_of_length_le (show (pkH s).length ≤ i by first | assumption | (rw [pkH_len]; omega))]
      have hsb := sumB_bd (pkH s) 1 (by decide)
      have htd : (sumB (pkH s) 1).tdiv 256 = sumB (pkH s) 1 / 256 := Int.tdiv_eq_ediv_of_nonneg hsb.1
      have htm : (sumB (pkH s) 1).tmod 256 = sumB (pkH s) 1 % 256 := Int.tmod_eq_emod_of_nonneg hsb.1
      have hwd : IntKind.wrap .i64 (sumB (pkH s) 1 / 256) = sumB (pkH s) 1 / 256 := wrap64 (by omega) (by omega)
      refine AW.reg tiOk (fun _ => []) [2] ?_
      intro k hk; simp -dsimp (maxSteps := 2000000) [go_sem, -decide_eq_true_eq, -decide_eq_false_iff_not, htd, htm, hwd, b8_mod]
      repeat' (first | refine And.intro ?_ ?_ | refine hk _ ?_ | intro hg | omega | exact True.intro)
      all_goals clear hk k
      refine AW.retF (ow := [1000]) (muts := []) ?_ (fun h => And.intro (.inr rfl) h)
      simp [go_sem, Try.results44, pk])

set_option maxHeartbeats 600000 in
set_option linter.unusedSimpArgs false in
set_option maxRecDepth 100000 in
/-- impl.PackLine -/
theorem dc_impl_PackLine_bad (s : List UInt8) (hs : s.length ≤ 1048576) (hl : lineF s ≠ 0) : DC Try.prog 8 [.str s] (.agg [.int .i64 (lineF s), .isl 1 []]) [] := by
  refine DC.intro tiOk Try.func8 rfl rfl rfl rfl rfl rfl rfl rfl [1000] ?_
  refine AW.reg tiOk (fun _ => []) [0, 2] ?_
  intro k hk; simp -dsimp [go_sem, -decide_eq_true_eq, -decide_eq_false_iff_not, hl]
  repeat' (first | refine And.intro ?_ ?_ | refine hk _ ?_ | intro hg | omega | exact True.intro)
  all_goals clear hk k
  refine AW.seq ?_
  refine AW.reg tiOk (fun _ => []) [0, 2, 3] ?_
  intro k hk; simp -dsimp (maxSteps := 2000000) [go_sem, -decide_eq_true_eq, -decide_eq_false_iff_not, hl]
  repeat' (first | refine And.intro ?_ ?_ | refine hk _ ?_ | intro hg | (refine CallK.intro (dc_impl_LineFault s (by omega)) ?_; simp -dsimp (maxSteps := 2000000) [go_sem, -decide_eq_true_eq, -decide_eq_false_iff_not, hl]) | omega | exact True.intro)
  all_goals clear hk k
  refine AW.reg tiOk (fun _ => []) [0, 2, 3, 7] ?_
  intro k hk; simp -dsimp [go_sem, -decide_eq_true_eq, -decide_eq_false_iff_not, hl]
  repeat' (first | refine And.intro ?_ ?_ | refine hk _ ?_ | intro hg | omega | exact True.intro)
  all_goals clear hk k
  refine AW.cond rfl ?_ ?_
  · intro hc; try simp at hc
    all_goals try (exfalso; contradiction; done)
    all_goals (
      refine AW.reg tiOk (fun _ => []) [2] ?_
      intro k hk; simp -dsimp [go_sem, -decide_eq_true_eq, -decide_eq_false_iff_not, hl]
      repeat' (first | refine And.intro ?_ ?_ | refine hk _ ?_ | intro hg | omega | exact True.intro)
      all_goals clear hk k
      refine AW.retF (ow := [1000]) (muts := []) ?_ (fun h => And.intro (.inr rfl) h)
      simp [go_sem, Try.results8])
  · intro hc; try simp at hc
    all_goals try (exfalso; contradiction; done)
    all_goals (
      refine AW.skipN (fun _ h => h) ?_
      refine AW.reg tiOk (fun _ => []) [2] ?_
      intro k hk; simp -dsimp (maxSteps := 2000000) [go_sem, -decide_eq_true_eq, -decide_eq_false_iff_not, hl]
      repeat' (first | refine And.intro ?_ ?_ | refine hk _ ?_ | intro hg | (refine CallK.intro (dc_impl_pack _ (by omega)) ?_; simp -dsimp (maxSteps := 2000000) [go_sem, -decide_eq_true_eq, -decide_eq_false_iff_not, hl]) | omega | exact True.intro)
      all_goals clear hk k
      refine AW.retF (ow := [1000]) (muts := []) ?_ (fun h => And.intro (.inr rfl) h)
      simp [go_sem, Try.results8])

set_option maxHeartbeats 600000 in
set_option linter.unusedSimpArgs false in
set_option maxRecDepth 100000 in
/-- impl.PackLine -/
theorem dc_impl_PackLine_ok (s : List UInt8) (hs : s.length ≤ 1048576) (hl : lineF s = 0) : DC Try.prog 8 [.str s] (.agg [.int .i64 0, .osl 1 ((pk s).map B1)]) [] := by
  refine DC.intro tiOk Try.func8 rfl rfl rfl rfl rfl rfl rfl rfl [1000] ?_
  refine AW.reg tiOk (fun _ => []) [0, 2] ?_
  intro k hk; simp -dsimp [go_sem, -decide_eq_true_eq, -decide_eq_false_iff_not, hl]
  repeat' (first | refine And.intro ?_ ?_ | refine hk _ ?_ | intro hg | omega | exact True.intro)
  all_goals clear hk k
  refine AW.seq ?_
  refine AW.reg tiOk (fun _ => []) [0, 2, 3] ?_
  intro k hk; simp -dsimp (maxSteps := 2000000) [go_sem, -decide_eq_true_eq, -decide_eq_false_iff_not, hl]
  repeat' (first | refine And.intro ?_ ?_ | refine hk _ ?_ | intro hg | (refine CallK.intro (dc_impl_LineFault s (by omega)) ?_; simp -dsimp (maxSteps := 2000000) [go_sem, -decide_eq_true_eq, -decide_eq_false_iff_not, hl]) | omega | exact True.intro)
  all_goals clear hk k
  refine AW.reg tiOk (fun _ => []) [0, 2, 3, 7] ?_
  intro k hk; simp -dsimp [go_sem, -decide_eq_true_eq, -decide_eq_false_iff_not, hl]
  repeat' (first | refine And.intro ?_ ?_ | refine hk _ ?_ | intro hg | omega | exact True.intro)
  all_goals clear hk k
  refine AW.cond rfl ?_ ?_
  · intro hc; try simp at hc
    all_goals try (exfalso; contradiction; done)
    all_goals (
      refine AW.reg tiOk (fun _ => []) [2] ?_
      intro k hk; simp -dsimp [go_sem, -decide_eq_true_eq, -decide_eq_false_iff_not, hl]
      repeat' (first | refine And.intro ?_ ?_ | refine hk _ ?_ | intro hg | omega | exact True.intro)
      all_goals clear hk k
      refine AW.retF (ow := [1000]) (muts := []) ?_ (fun h => And.intro (.inr rfl) h)
      simp [go_sem, Try.results8])
  · intro hc; try simp at hc
    all_goals try (exfalso; contradiction; done)
    all_goals (
      refine AW.skipN (fun _ h => h) ?_
      refine AW.reg tiOk (fun _ => []) [2] ?_
      intro k hk; simp -dsimp (maxSteps := 2000000) [go_sem, -decide_eq_true_eq, -decide_eq_false_iff_not, hl]
      repeat' (first | refine And.intro ?_ ?_ | refine hk _ ?_ | intro hg | (refine CallK.intro (dc_impl_pack s hs) ?_; simp -dsimp (maxSteps := 2000000) [go_sem, -decide_eq_true_eq, -decide_eq_false_iff_not, hl]) | omega | exact True.intro)
      all_goals clear hk k
      refine AW.retF (ow := [1000]) (muts := []) ?_ (fun h => And.intro (.inr rfl) h)
      simp [go_sem, Try.results8])

end Go.AM

/-! ### J2 -/
set_option linter.unusedVariables false
set_option linter.unusedSimpArgs false
namespace Go.AM
open Go.Proofs

set_option maxHeartbeats 600000 in
set_option linter.unusedSimpArgs false in
set_option maxRecDepth 100000 in
/-- bytes.Equal -/
theorem dc_bytes_Equal (a b : List UInt8) : DC Try.prog 53 [.isl 1 (a.map B1), .isl 1 (b.map B1)] (.bool (decide (a = b))) [] := by
  refine DC.intro tiOk Try.func53 rfl rfl rfl rfl rfl rfl rfl rfl [] ?_
  refine AW.reg tiOk (fun _ => []) [0, 1] ?_
  intro k hk; simp -dsimp [go_sem, -decide_eq_true_eq, -decide_eq_false_iff_not]
  repeat' (first | refine And.intro ?_ ?_ | refine hk _ ?_ | intro hg | omega | exact True.intro)
  all_goals clear hk k
  refine AW.reg tiOk (fun _ => []) [4] ?_
  intro k hk; simp -dsimp [go_sem, -decide_eq_true_eq, -decide_eq_false_iff_not]
  repeat' (first | refine And.intro ?_ ?_ | refine hk _ ?_ | intro hg | omega | exact True.intro)
  all_goals clear hk k
  refine AW.retF (ow := []) (muts := []) ?_ (fun h => And.intro (.inr rfl) h)
  simp [go_sem, Try.results53]
theorem dc_bytes_Equal_t (a b : List UInt8) (n : Nat) : DC Try.prog 53 [.isl 1 (List.take n (a.map B1)), .isl 1 (b.map B1)] (.bool (decide (a.take n = b))) [] := by
  have := dc_bytes_Equal (a.take n) b
  rwa [List.map_take] at this

set_option maxHeartbeats 600000 in
set_option linter.unusedSimpArgs false in
set_option maxRecDepth 100000 in
/-- bytes.HasPrefix -/
theorem dc_bytes_HasPrefix (d p : List UInt8) : DC Try.prog 49 [.isl 1 (d.map B1), .isl 1 (p.map B1)] (.bool (hasP d p)) [] := by
  refine DC.intro tiOk Try.func49 rfl rfl rfl rfl rfl rfl rfl rfl [] ?_
  refine AW.reg tiOk (fun _ => []) [0, 1] ?_
  intro k hk; simp -dsimp [go_sem, -decide_eq_true_eq, -decide_eq_false_iff_not]
  repeat' (first | refine And.intro ?_ ?_ | refine hk _ ?_ | intro hg | omega | exact True.intro)
  all_goals clear hk k
  refine AW.reg tiOk (fun _ => []) [4] ?_
  intro k hk; simp +contextual -dsimp (maxSteps := 2000000) [go_sem, -decide_eq_true_eq, -decide_eq_false_iff_not]
  repeat' (first | refine And.intro ?_ ?_ | refine hk _ ?_ | (intro hg; try simp only [decide_eq_true_eq, decide_eq_false_iff_not] at hg) | (refine CallK.intro (dc_bytes_Equal_t d p p.length) ?_; simp +contextual -dsimp (maxSteps := 2000000) [go_sem, -decide_eq_true_eq, -decide_eq_false_iff_not]) | omega | exact True.intro)
  all_goals clear hk k
  all_goals (
    refine AW.retF (ow := []) (muts := []) ?_ (fun h => And.intro (.inr rfl) h)
    first | (simp [go_sem, Try.results49, hasP, *]; done) | (simp [go_sem, Try.results49, hasP] at *; simp [*]; done) | (simp [go_sem, Try.results49, hasP] at *; omega))

set_option maxHeartbeats 600000 in
set_option linter.unusedSimpArgs false in
set_option maxRecDepth 100000 in
/-- impl.lineAt -/
theorem dc_impl_lineAt_nil  : DC Try.prog 32 [.isl 1 []] (.tup [.str [], .bool false]) [] := by
  refine DC.intro tiOk Try.func32 rfl rfl rfl rfl rfl rfl rfl rfl [] ?_
  refine AW.reg tiOk (fun _ => []) [0] ?_
  intro k hk; simp -dsimp [go_sem, -decide_eq_true_eq, -decide_eq_false_iff_not]
  repeat' (first | refine And.intro ?_ ?_ | refine hk _ ?_ | intro hg | omega | exact True.intro)
  all_goals clear hk k
  refine AW.seq ?_
  refine AW.reg tiOk (fun _ => []) [0, 18] ?_
  intro k hk; simp +contextual -dsimp (maxSteps := 2000000) [go_sem, -decide_eq_true_eq, -decide_eq_false_iff_not]
  repeat' (first | refine And.intro ?_ ?_ | refine hk _ ?_ | (intro hg; try simp only [decide_eq_true_eq, decide_eq_false_iff_not] at hg) | omega | exact True.intro)
  all_goals clear hk k
  all_goals (
    refine AW.cond rfl ?_ ?_
    · intro hc; try simp at hc
      all_goals try (exfalso; simp at hc; done)
      all_goals (
        refine AW.reg tiOk (fun _ => []) [2, 3] ?_
        intro k hk; simp -dsimp [go_sem, -decide_eq_true_eq, -decide_eq_false_iff_not]
        repeat' (first | refine And.intro ?_ ?_ | refine hk _ ?_ | intro hg | omega | exact True.intro)
        all_goals clear hk k
        refine AW.retF (ow := []) (muts := []) ?_ (fun h => And.intro (.inr rfl) h)
        simp [go_sem, Try.results32])
    · intro hc; try simp at hc
      all_goals try (exfalso; simp at hc; done)
      all_goals (
        refine AW.skipN (fun _ h => h) ?_
        refine AW.reg tiOk (fun _ => []) [0, 4] ?_
        intro k hk; simp -dsimp (maxSteps := 2000000) [go_sem, -decide_eq_true_eq, -decide_eq_false_iff_not]
        repeat' (first | refine And.intro ?_ ?_ | refine hk _ ?_ | intro hg | omega | exact True.intro)
        all_goals clear hk k
        refine AW.reg tiOk (fun _ => []) [2, 3] ?_
        intro k hk; simp +contextual -dsimp (maxSteps := 2000000) [go_sem, -decide_eq_true_eq, -decide_eq_false_iff_not]
        repeat' (first | refine And.intro ?_ ?_ | refine hk _ ?_ | (intro hg; try simp only [decide_eq_true_eq, decide_eq_false_iff_not] at hg) | (refine CallK.intro (dc_impl_LineFault _ (by first | assumption | omega)) ?_; simp +contextual -dsimp (maxSteps := 2000000) [go_sem, -decide_eq_true_eq, -decide_eq_false_iff_not]) | (refine CallK.intro (dc_impl_pack _ (by omega)) ?_; simp +contextual -dsimp (maxSteps := 2000000) [go_sem, -decide_eq_true_eq, -decide_eq_false_iff_not]) | (refine CallK.intro (dc_bytes_HasPrefix _) ?_; simp +contextual -dsimp (maxSteps := 2000000) [go_sem, -decide_eq_true_eq, -decide_eq_false_iff_not]) | omega | exact True.intro)
        all_goals clear hk k
        all_goals (
          refine AW.retF (ow := []) (muts := []) ?_ (fun h => And.intro (.inr rfl) h)
          simp [go_sem, Try.results32])))

set_option maxHeartbeats 600000 in
set_option linter.unusedSimpArgs false in
set_option maxRecDepth 100000 in
/-- impl.lineAt -/
theorem dc_impl_lineAt_cons (x : UInt8) (r : List UInt8) (hd : r.length + 1 ≤ 9223372036854775807) : DC Try.prog 32 [.isl 1 ((x :: r).map B1)] (.tup [.str (lnA (x :: r)), .bool (isL (x :: r))]) [] := by
  have hxt := x.toNat_lt
  have hwa : IntKind.wrap .i64 (1 + (x.toNat : Int)) = 1 + (x.toNat : Int) := wrap64 (by omega) (by omega)
  have hwb : IntKind.wrap .i64 (1 + (x.toNat : Int) + 2) = 1 + (x.toNat : Int) + 2 := wrap64 (by omega) (by omega)
  have hwt : (1 + (x.toNat : Int)).toNat = x.toNat + 1 := by omega
  have hll : (r.take x.toNat).length ≤ 255 := by simp; omega
  refine DC.intro tiOk Try.func32 rfl rfl rfl rfl rfl rfl rfl rfl [] ?_
  refine AW.reg tiOk (fun _ => []) [0] ?_
  intro k hk; simp -dsimp [go_sem, -decide_eq_true_eq, -decide_eq_false_iff_not, hwa, hwb, hwt]
  repeat' (first | refine And.intro ?_ ?_ | refine hk _ ?_ | intro hg | omega | exact True.intro)
  all_goals clear hk k
  refine AW.seq ?_
  refine AW.reg tiOk (fun _ => []) [0, 18] ?_
  intro k hk; simp +contextual -dsimp (maxSteps := 2000000) [go_sem, -decide_eq_true_eq, -decide_eq_false_iff_not, hwa, hwb, hwt]
  repeat' (first | refine And.intro ?_ ?_ | refine hk _ ?_ | (intro hg; try simp only [decide_eq_true_eq, decide_eq_false_iff_not] at hg) | omega | exact True.intro)
  all_goals clear hk k
  all_goals (
    refine AW.cond rfl ?_ ?_
    · intro hc; try simp at hc
      all_goals (
        refine AW.reg tiOk (fun _ => []) [2, 3] ?_
        intro k hk; simp -dsimp [go_sem, -decide_eq_true_eq, -decide_eq_false_iff_not, hwa, hwb, hwt]
        repeat' (first | refine And.intro ?_ ?_ | refine hk _ ?_ | intro hg | omega | exact True.intro)
        all_goals clear hk k
        refine AW.retF (ow := []) (muts := []) ?_ (fun h => And.intro (.inr rfl) h)
        first | (have hs : ¬ x.toNat + 2 ≤ r.length := (by omega); simp [go_sem, Try.results32, lnA_cons, isL_cons, hs]; done) | (have hs : x.toNat + 2 ≤ r.length := (by omega); simp [go_sem, Try.results32, lnA_cons, isL_cons, hs, hasP_pk hs, *]; done))
    · intro hc; try simp at hc
      all_goals (
        refine AW.skipN (fun _ h => h) ?_
        refine AW.reg tiOk (fun _ => []) [0, 4] ?_
        intro k hk; simp -dsimp (maxSteps := 2000000) [go_sem, -decide_eq_true_eq, -decide_eq_false_iff_not, hwa, hwb, hwt]
        repeat' (first | refine And.intro ?_ ?_ | refine hk _ ?_ | intro hg | omega | exact True.intro)
        all_goals clear hk k
        refine AW.reg tiOk (fun _ => []) [2, 3] ?_
        intro k hk; simp +contextual -dsimp (maxSteps := 2000000) [go_sem, -decide_eq_true_eq, -decide_eq_false_iff_not, hwa, hwb, hwt]
        repeat' (first | refine And.intro ?_ ?_ | refine hk _ ?_ | (intro hg; try simp only [decide_eq_true_eq, decide_eq_false_iff_not] at hg) | (refine CallK.intro (dc_impl_LineFault _ (by omega)) ?_; simp +contextual -dsimp (maxSteps := 2000000) [go_sem, -decide_eq_true_eq, -decide_eq_false_iff_not, hwa, hwb, hwt]) | (refine CallK.intro (dc_impl_pack _ (by omega)) ?_; simp +contextual -dsimp (maxSteps := 2000000) [go_sem, -decide_eq_true_eq, -decide_eq_false_iff_not, hwa, hwb, hwt]) | (refine CallK.intro (dc_bytes_HasPrefix (x :: r) (pk (r.take x.toNat))) ?_; simp +contextual -dsimp (maxSteps := 2000000) [go_sem, -decide_eq_true_eq, -decide_eq_false_iff_not, hwa, hwb, hwt]) | omega | exact True.intro)
        all_goals clear hk k
        all_goals (
          refine AW.retF (ow := []) (muts := []) ?_ (fun h => And.intro (.inr rfl) h)
          first | (have hs : ¬ x.toNat + 2 ≤ r.length := (by omega); simp [go_sem, Try.results32, lnA_cons, isL_cons, hs]; done) | (have hs : x.toNat + 2 ≤ r.length := (by omega); simp [go_sem, Try.results32, lnA_cons, isL_cons, hs, hasP_pk hs, *]; done))))
theorem dc_impl_lineAt (d : List UInt8) (hd : d.length ≤ 9223372036854775807) : DC Try.prog 32 [.isl 1 (d.map B1)] (.tup [.str (lnA d), .bool (isL d)]) [] := by
  cases d with
  | nil => exact dc_impl_lineAt_nil
  | cons x r => exact dc_impl_lineAt_cons x r hd
theorem dc_impl_lineAt_d (d : List UInt8) (k : Nat) (hd : d.length ≤ 9223372036854775807) : DC Try.prog 32 [.isl 1 (List.drop k (d.map B1))] (.tup [.str (lnA (d.drop k)), .bool (isL (d.drop k))]) [] := by
  have := dc_impl_lineAt (d.drop k) (by simp; omega)
  rwa [List.map_drop] at this

set_option maxHeartbeats 600000 in
set_option linter.unusedSimpArgs false in
set_option maxRecDepth 100000 in
/-- spec.l13One -/
theorem dc_spec_l13One_nil  : DC Try.prog 38 [.isl 1 []] (.tup [.str (if isL [] then lnT [] else []), .int .i64 (if isL [] then ((n0 [] + 3 : Nat) : Int) else 0)]) [] := by
  refine DC.intro tiOk Try.func38 rfl rfl rfl rfl rfl rfl rfl rfl [] ?_
  refine AW.reg tiOk (fun _ => []) [0] ?_
  intro k hk; simp -dsimp [go_sem, -decide_eq_true_eq, -decide_eq_false_iff_not]
  repeat' (first | refine And.intro ?_ ?_ | refine hk _ ?_ | intro hg | omega | exact True.intro)
  all_goals clear hk k
  refine AW.seq ?_
  refine AW.reg tiOk (fun _ => []) [0, 8] ?_
  intro k hk; simp -dsimp [go_sem, -decide_eq_true_eq, -decide_eq_false_iff_not]
  repeat' (first | refine And.intro ?_ ?_ | refine hk _ ?_ | intro hg | omega | exact True.intro)
  all_goals clear hk k
  refine AW.cond rfl ?_ ?_
  · intro hc; try simp at hc
    all_goals try (exfalso; simp at hc; done)
    all_goals (
      refine AW.reg tiOk (fun _ => []) [2, 3] ?_
      intro k hk; simp -dsimp [go_sem, -decide_eq_true_eq, -decide_eq_false_iff_not]
      repeat' (first | refine And.intro ?_ ?_ | refine hk _ ?_ | intro hg | omega | exact True.intro)
      all_goals clear hk k
      refine AW.retF (ow := []) (muts := []) ?_ (fun h => And.intro (.inr rfl) h)
      simp [go_sem, Try.results38, isL_nil])
  · intro hc; try simp at hc
    all_goals try (exfalso; simp at hc; done)
    all_goals (
      refine AW.skipN (fun _ h => h) ?_
      refine AW.reg tiOk (fun _ => []) [0, 4] ?_
      intro k hk; simp -dsimp [go_sem, -decide_eq_true_eq, -decide_eq_false_iff_not]
      repeat' (first | refine And.intro ?_ ?_ | refine hk _ ?_ | intro hg | omega | exact True.intro)
      all_goals clear hk k
      refine AW.seq ?_
      refine AW.reg tiOk (fun _ => []) [0, 4, 21] ?_
      intro k hk; simp +contextual -dsimp (maxSteps := 2000000) [go_sem, -decide_eq_true_eq, -decide_eq_false_iff_not]
      repeat' (first | refine And.intro ?_ ?_ | refine hk _ ?_ | (intro hg; try simp only [decide_eq_true_eq, decide_eq_false_iff_not] at hg) | omega | exact True.intro)
      all_goals clear hk k
      all_goals (
        refine AW.cond rfl ?_ ?_
        · intro hc; try simp at hc
          all_goals try (exfalso; simp at hc; done)
          all_goals (
            refine AW.reg tiOk (fun _ => []) [2, 3] ?_
            intro k hk; simp -dsimp [go_sem, -decide_eq_true_eq, -decide_eq_false_iff_not]
            repeat' (first | refine And.intro ?_ ?_ | refine hk _ ?_ | intro hg | omega | exact True.intro)
            all_goals clear hk k
            refine AW.retF (ow := []) (muts := []) ?_ (fun h => And.intro (.inr rfl) h)
            simp [go_sem, Try.results38, isL_nil])
        · intro hc; try simp at hc
          all_goals try (exfalso; simp at hc; done)
          all_goals (
            refine AW.skipN (fun _ h => h) ?_
            refine AW.reg tiOk (fun _ => []) [0, 4, 5] ?_
            intro k hk; simp -dsimp [go_sem, -decide_eq_true_eq, -decide_eq_false_iff_not]
            repeat' (first | refine And.intro ?_ ?_ | refine hk _ ?_ | intro hg | omega | exact True.intro)
            all_goals clear hk k
            refine AW.seq ?_
            refine AW.reg tiOk (fun _ => []) [4, 5, 39] ?_
            intro k hk; simp +contextual -dsimp (maxSteps := 2000000) [go_sem, -decide_eq_true_eq, -decide_eq_false_iff_not]
            repeat' (first | refine And.intro ?_ ?_ | (refine Chk.keys ?_; simp only [go_sem, List.map_cons, List.map_nil, List.flatMap_cons, List.flatMap_nil, List.flatMap_append, List.append_nil, List.nil_append, List.cons_append]; decide +kernel) | refine hk _ ?_ | (intro hg; try simp only [decide_eq_true_eq, decide_eq_false_iff_not] at hg) | (refine CallK.intro (dc_spec_LineFault _ (by first | assumption | omega)) ?_; simp +contextual -dsimp (maxSteps := 2000000) [go_sem, -decide_eq_true_eq, -decide_eq_false_iff_not]) | (refine CallK.intro (dc_spec_l13Pack _ (by omega)) ?_; simp +contextual -dsimp (maxSteps := 2000000) [go_sem, -decide_eq_true_eq, -decide_eq_false_iff_not]) | omega | exact True.intro)
            all_goals clear hk k
            all_goals (
              refine AW.cond rfl ?_ ?_
              · intro hc; try simp at hc
                all_goals try (exfalso; simp at hc; done)
                all_goals (
                  refine AW.reg tiOk (fun _ => []) [2, 3] ?_
                  intro k hk; simp -dsimp [go_sem, -decide_eq_true_eq, -decide_eq_false_iff_not]
                  repeat' (first | refine And.intro ?_ ?_ | refine hk _ ?_ | intro hg | omega | exact True.intro)
                  all_goals clear hk k
                  refine AW.retF (ow := []) (muts := []) ?_ (fun h => And.intro (.inr rfl) h)
                  simp [go_sem, Try.results38, isL_nil])
              · intro hc; try simp at hc
                all_goals try (exfalso; simp at hc; done)
                all_goals (
                  refine AW.skipN (fun _ h => h) ?_
                  refine AW.reg tiOk (fun _ => []) [2, 3] ?_
                  intro k hk; simp -dsimp [go_sem, -decide_eq_true_eq, -decide_eq_false_iff_not]
                  repeat' (first | refine And.intro ?_ ?_ | refine hk _ ?_ | intro hg | omega | exact True.intro)
                  all_goals clear hk k
                  refine AW.retF (ow := []) (muts := []) ?_ (fun h => And.intro (.inr rfl) h)
                  simp [go_sem, Try.results38, isL_nil])))))

set_option maxHeartbeats 600000 in
set_option linter.unusedSimpArgs false in
set_option maxRecDepth 100000 in
/-- spec.l13One -/
theorem dc_spec_l13One_cons (x : UInt8) (r : List UInt8) (hd : r.length + 1 ≤ 9223372036854775807) : DC Try.prog 38 [.isl 1 ((x :: r).map B1)] (.tup [.str (if isL (x :: r) then lnT (x :: r) else []), .int .i64 (if isL (x :: r) then ((n0 (x :: r) + 3 : Nat) : Int) else 0)]) [] := by
  have hxt := x.toNat_lt
  have hwa : IntKind.wrap .i64 ((x.toNat : Int) + 3) = (x.toNat : Int) + 3 := wrap64 (by omega) (by omega)
  have hwb : IntKind.wrap .i64 ((x.toNat : Int) + 3 - 2) = (x.toNat : Int) + 3 - 2 := wrap64 (by omega) (by omega)
  have hwt : ((x.toNat : Int) + 3 - 2).toNat = x.toNat + 1 := by omega
  have hwu : ((x.toNat : Int) + 3).toNat = x.toNat + 3 := by omega
  have hll : (r.take x.toNat).length ≤ 255 := by simp; omega
  refine DC.intro tiOk Try.func38 rfl rfl rfl rfl rfl rfl rfl rfl [] ?_
  refine AW.reg tiOk (fun _ => []) [0] ?_
  intro k hk; simp -dsimp [go_sem, -decide_eq_true_eq, -decide_eq_false_iff_not, hwa, hwb, hwt, hwu]
  repeat' (first | refine And.intro ?_ ?_ | refine hk _ ?_ | intro hg | omega | exact True.intro)
  all_goals clear hk k
  refine AW.seq ?_
  refine AW.reg tiOk (fun _ => []) [0, 8] ?_
  intro k hk; simp -dsimp [go_sem, -decide_eq_true_eq, -decide_eq_false_iff_not, hwa, hwb, hwt, hwu]
  repeat' (first | refine And.intro ?_ ?_ | refine hk _ ?_ | intro hg | omega | exact True.intro)
  all_goals clear hk k
  refine AW.cond rfl ?_ ?_
  · intro hc; try simp at hc
    all_goals (
      refine AW.reg tiOk (fun _ => []) [2, 3] ?_
      intro k hk; simp -dsimp [go_sem, -decide_eq_true_eq, -decide_eq_false_iff_not, hwa, hwb, hwt, hwu]
      repeat' (first | refine And.intro ?_ ?_ | refine hk _ ?_ | intro hg | omega | exact True.intro)
      all_goals clear hk k
      refine AW.retF (ow := []) (muts := []) ?_ (fun h => And.intro (.inr rfl) h)
      first | (have hL : isL (x :: r) = false := (isL_not fun h1 h2 h3 h4 => (by first | omega | contradiction | (simp_all; done))); simp [go_sem, Try.results38, hL]; done) | (have hL : isL (x :: r) = true := (isL_iff.2 ⟨by omega, by assumption, by first | assumption | (simp_all; done)⟩); simp [go_sem, Try.results38, hL, lnT_cons, n0_cons]; done))
  · intro hc; try simp at hc
    all_goals (
      refine AW.skipN (fun _ h => h) ?_
      refine AW.reg tiOk (fun _ => []) [0, 4] ?_
      intro k hk; simp -dsimp [go_sem, -decide_eq_true_eq, -decide_eq_false_iff_not, hwa, hwb, hwt, hwu]
      repeat' (first | refine And.intro ?_ ?_ | refine hk _ ?_ | intro hg | omega | exact True.intro)
      all_goals clear hk k
      refine AW.seq ?_
      refine AW.reg tiOk (fun _ => []) [0, 4, 21] ?_
      intro k hk; simp +contextual -dsimp (maxSteps := 2000000) [go_sem, -decide_eq_true_eq, -decide_eq_false_iff_not, hwa, hwb, hwt, hwu]
      repeat' (first | refine And.intro ?_ ?_ | refine hk _ ?_ | (intro hg; try simp only [decide_eq_true_eq, decide_eq_false_iff_not] at hg) | omega | exact True.intro)
      all_goals clear hk k
      all_goals (
        refine AW.cond rfl ?_ ?_
        · intro hc; try simp at hc
          all_goals (
            refine AW.reg tiOk (fun _ => []) [2, 3] ?_
            intro k hk; simp -dsimp [go_sem, -decide_eq_true_eq, -decide_eq_false_iff_not, hwa, hwb, hwt, hwu]
            repeat' (first | refine And.intro ?_ ?_ | refine hk _ ?_ | intro hg | omega | exact True.intro)
            all_goals clear hk k
            refine AW.retF (ow := []) (muts := []) ?_ (fun h => And.intro (.inr rfl) h)
            first | (have hL : isL (x :: r) = false := (isL_not fun h1 h2 h3 h4 => (by first | omega | contradiction | (simp_all; done))); simp [go_sem, Try.results38, hL]; done) | (have hL : isL (x :: r) = true := (isL_iff.2 ⟨by omega, by assumption, by first | assumption | (simp_all; done)⟩); simp [go_sem, Try.results38, hL, lnT_cons, n0_cons]; done))
        · intro hc; try simp at hc
          all_goals (
            refine AW.skipN (fun _ h => h) ?_
            refine AW.reg tiOk (fun _ => []) [0, 4, 5] ?_
            intro k hk; simp -dsimp [go_sem, -decide_eq_true_eq, -decide_eq_false_iff_not, hwa, hwb, hwt, hwu]
            repeat' (first | refine And.intro ?_ ?_ | refine hk _ ?_ | intro hg | omega | exact True.intro)
            all_goals clear hk k
            refine AW.seq ?_
            refine AW.reg tiOk (fun _ => []) [4, 5, 39] ?_
            intro k hk; simp +contextual -dsimp (maxSteps := 2000000) [go_sem, -decide_eq_true_eq, -decide_eq_false_iff_not, hwa, hwb, hwt, hwu]
            repeat' (first | refine And.intro ?_ ?_ | (refine Chk.keys ?_; simp only [go_sem, List.map_cons, List.map_nil, List.flatMap_cons, List.flatMap_nil, List.flatMap_append, List.append_nil, List.nil_append, List.cons_append]; decide +kernel) | refine hk _ ?_ | (intro hg; try simp only [decide_eq_true_eq, decide_eq_false_iff_not] at hg) | (refine CallK.intro (dc_spec_LineFault _ (by omega)) ?_; simp +contextual -dsimp (maxSteps := 2000000) [go_sem, -decide_eq_true_eq, -decide_eq_false_iff_not, hwa, hwb, hwt, hwu]) | (refine CallK.intro (dc_spec_l13Pack _ (by omega)) ?_; simp +contextual -dsimp (maxSteps := 2000000) [go_sem, -decide_eq_true_eq, -decide_eq_false_iff_not, hwa, hwb, hwt, hwu]) | omega | exact True.intro)
            all_goals clear hk k
            all_goals (
              refine AW.cond rfl ?_ ?_
              · intro hc; try simp at hc
                all_goals (
                  refine AW.reg tiOk (fun _ => []) [2, 3] ?_
                  intro k hk; simp -dsimp [go_sem, -decide_eq_true_eq, -decide_eq_false_iff_not, hwa, hwb, hwt, hwu]
                  repeat' (first | refine And.intro ?_ ?_ | refine hk _ ?_ | intro hg | omega | exact True.intro)
                  all_goals clear hk k
                  refine AW.retF (ow := []) (muts := []) ?_ (fun h => And.intro (.inr rfl) h)
                  first | (have hL : isL (x :: r) = false := (isL_not fun h1 h2 h3 h4 => (by first | omega | contradiction | (simp_all; done))); simp [go_sem, Try.results38, hL]; done) | (have hL : isL (x :: r) = true := (isL_iff.2 ⟨by omega, by assumption, by first | assumption | (simp_all; done)⟩); simp [go_sem, Try.results38, hL, lnT_cons, n0_cons]; done))
              · intro hc; try simp at hc
                all_goals (
                  refine AW.skipN (fun _ h => h) ?_
                  refine AW.reg tiOk (fun _ => []) [2, 3] ?_
                  intro k hk; simp -dsimp [go_sem, -decide_eq_true_eq, -decide_eq_false_iff_not, hwa, hwb, hwt, hwu]
                  repeat' (first | refine And.intro ?_ ?_ | refine hk _ ?_ | intro hg | omega | exact True.intro)
                  all_goals clear hk k
                  refine AW.retF (ow := []) (muts := []) ?_ (fun h => And.intro (.inr rfl) h)
                  first | (have hL : isL (x :: r) = false := (isL_not fun h1 h2 h3 h4 => (by first | omega | contradiction | (simp_all; done))); simp [go_sem, Try.results38, hL]; done) | (have hL : isL (x :: r) = true := (isL_iff.2 ⟨by omega, by assumption, by first | assumption | (simp_all; done)⟩); simp [go_sem, Try.results38, hL, lnT_cons, n0_cons]; done))))))
theorem dc_spec_l13One (d : List UInt8) (hd : d.length ≤ 9223372036854775807) : DC Try.prog 38 [.isl 1 (d.map B1)] (.tup [.str (if isL d then lnT d else []), .int .i64 (if isL d then ((n0 d + 3 : Nat) : Int) else 0)]) [] := by
  cases d with
  | nil => exact dc_spec_l13One_nil
  | cons x r => exact dc_spec_l13One_cons x r hd
theorem dc_spec_l13One_d (d : List UInt8) (k : Nat) (hd : d.length ≤ 9223372036854775807) : DC Try.prog 38 [.isl 1 (List.drop k (d.map B1))] (.tup [.str (if isL (d.drop k) then lnT (d.drop k) else []), .int .i64 (if isL (d.drop k) then ((n0 (d.drop k) + 3 : Nat) : Int) else 0)]) [] := by
  have := dc_spec_l13One (d.drop k) (by simp; omega)
  rwa [List.map_drop] at this

end Go.AM

