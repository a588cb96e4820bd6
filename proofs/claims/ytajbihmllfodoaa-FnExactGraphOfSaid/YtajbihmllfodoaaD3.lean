/- Joined texts: Enc Am23 Pu Ty Rd Pv Px Py Pz En2 Pe Pf Pg Pc Pc2 Pc3 Pw Pc4 Pc5 Pc6 Ph Am24 Am25 Am26 Po Pp Pr Pt2 Pt3 Ppl Pst Am27 Am28 Am30 Am31 Pi. -/
import Derived.Test.YtajbihmllfodoaaD1
import Derived.Test.YtajbihmllfodoaaD2
import Derived.ChangeArms
import Derived.WideKeyArgs
import Derived.Test.YtajbihmllfodoaaProg
set_option linter.unusedVariables false
set_option linter.unusedSimpArgs false
namespace Go.AM

def I1 (n : Int) : List AV := [.int .i64 n]
def B1 (b : UInt8) : List AV := [.int .u8 b.toNat]
def S1 (s : List UInt8) : List AV := [.str s]
@[go_sem] theorem I1_eq (n : Int) : I1 n = [.int .i64 n] := rfl
@[go_sem] theorem B1_eq (n : UInt8) : B1 n = [.int .u8 n.toNat] := rfl
@[go_sem] theorem S1_eq (n : List UInt8) : S1 n = [.str n] := rfl
/-- an owned slice, or an empty one -/
def owc (es : Nat) (l : List (List AV)) : AV := match l with
  | [] => .isl es []
  | x :: r => .osl es (x :: r)
@[go_sem high] theorem owc_nil (es : Nat) : owc es [] = .isl es [] := rfl
@[go_sem high] theorem owc_cons (es : Nat) (x : List AV) (r : List (List AV)) : owc es (x :: r) = .osl es (x :: r) := rfl
theorem owc_ne {es : Nat} {l : List (List AV)} (h : l ≠ []) : owc es l = .osl es l := by cases l; exact absurd rfl h; rfl
@[go_sem high] theorem owc_tree (es : Nat) (l : List (List AV)) : (owc es l).tree = true := by cases l <;> rfl
@[go_sem high] theorem owc_ids (es : Nat) (l : List (List AV)) : (owc es l).ids = [] := by cases l <;> simp [owc, AV.ids]
@[go_sem high] theorem owc_unown (es : Nat) (l : List (List AV)) : unown (owc es l) = .isl es (unownLL l) := by cases l <;> simp [owc, unown, unownLL]
@[go_sem high] theorem owc_ownd (es : Nat) (l : List (List AV)) : (owc es l).ownd = owndLL l := by cases l <;> simp [owc, AV.ownd, owndLL]
@[go_sem high] theorem owc_le (es : Nat) (l : List (List AV)) : leA0 (.osl es l) (owc es l) := by cases l <;> simp [owc, leA0]
@[go_sem high] theorem owc_le' (es : Nat) (l m : List (List AV)) : leA0 (.osl es l) (owc es m) ↔ l = m := by cases m <;> simp [owc, leA0]
@[go_sem high] theorem owc_lenil (es : Nat) (m : List (List AV)) : leA0 .nils (owc es m) ↔ m = [] := by cases m <;> simp [owc, leA0]
@[go_sem high] theorem owc_lezsl (es : Nat) (m : List (List AV)) : leA0 .zsl (owc es m) ↔ m = [] := by cases m <;> simp [owc, leA0]
@[go_sem high] theorem owc_leisl (es : Nat) (m : List (List AV)) : leA0 (.isl es []) (owc es m) ↔ m = [] := by cases m <;> simp [owc, leA0]
@[go_sem high] theorem owc_leowc (es : Nat) (l : List (List AV)) : leA0 (owc es l) (owc es l) := by cases l <;> simp [owc, leA0]
theorem unownLL_map {α : Type} {f g : α → List AV} (h : ∀ x, (f x).map unown = g x) (l : List α) : unownLL (l.map f) = l.map g := by
  rw [unownLL_eq]; simp [h]
theorem mapun {α : Type} {f g : α → List AV} (h : ∀ x, (f x).map unown = g x) (l : List α) : (l.map f).map (List.map unown) = l.map g := by simp [h]
theorem owndLL_map {α : Type} {f : α → List AV} (h : ∀ x, owndL (f x) = true) (l : List α) : owndLL (l.map f) = true := by rw [owndLL_eq, List.all_map]; exact List.all_eq_true.2 fun x _ => by simpa [owndL_eq] using h x
theorem flatids {α : Type} {f : α → List AV} (h : ∀ x, idsL (f x) = []) (l : List α) : (l.map f).flatMap idsL = [] := by simp [h]
@[go_sem] theorem flat_set {l : List (List AV)} {i : Nat} {c : List AV} (h : l.flatMap idsL = []) (hc : idsL c = []) : (l.set i c).flatMap idsL = [] := by
  simp only [List.flatMap_eq_nil_iff] at h ⊢
  intro x hx
  rcases List.mem_or_eq_of_mem_set hx with hx | rfl
  · exact h x hx
  · exact hc
theorem maptree {α : Type} {f : α → List AV} (h : ∀ a, ∀ x ∈ f a, x.tree = true) (l : List α) : (∀ c ∈ l.map f, ∀ x ∈ c, AV.tree x = true) ↔ True := by simpa using fun a _ => h a
@[go_sem] theorem take_len_map {α β : Type} (f : α → β) (l : List α) : List.take l.length (l.map f) = l.map f := List.take_of_length_le (by simp)
@[go_sem] theorem I1_un (x : Int) : (I1 x).map unown = I1 x := rfl
@[go_sem] theorem B1_un (x : UInt8) : (B1 x).map unown = B1 x := rfl
@[go_sem] theorem S1_un (x : List UInt8) : (S1 x).map unown = S1 x := rfl

@[go_sem high] theorem I1_unL (l : List _) : unownLL (l.map I1) = l.map I1 := unownLL_map I1_un l
@[go_sem high] theorem I1_unM (l : List _) : (l.map I1).map (List.map unown) = l.map I1 := mapun I1_un l
@[go_sem] theorem I1_ownd (x) : owndL (I1 x) = true := by simp [I1, go_sem]
@[go_sem high] theorem I1_owndL (l : List _) : owndLL (l.map I1) = true := owndLL_map I1_ownd l
@[go_sem] theorem I1_ids (x) : idsL (I1 x) = [] := by simp [I1, go_sem]
@[go_sem high] theorem I1_idsL (l : List _) : (l.map I1).flatMap idsL = [] := flatids I1_ids l
theorem I1_tree (a) : ∀ x ∈ I1 a, x.tree = true := by simp [I1, go_sem]
@[go_sem high] theorem I1_treeL (l : List _) : (∀ c ∈ l.map I1, ∀ x ∈ c, AV.tree x = true) ↔ True := maptree I1_tree l
@[go_sem high] theorem B1_unL (l : List _) : unownLL (l.map B1) = l.map B1 := unownLL_map B1_un l
@[go_sem high] theorem B1_unM (l : List _) : (l.map B1).map (List.map unown) = l.map B1 := mapun B1_un l
@[go_sem] theorem B1_ownd (x) : owndL (B1 x) = true := by simp [B1, go_sem]
@[go_sem high] theorem B1_owndL (l : List _) : owndLL (l.map B1) = true := owndLL_map B1_ownd l
@[go_sem] theorem B1_ids (x) : idsL (B1 x) = [] := by simp [B1, go_sem]
@[go_sem high] theorem B1_idsL (l : List _) : (l.map B1).flatMap idsL = [] := flatids B1_ids l
theorem B1_tree (a) : ∀ x ∈ B1 a, x.tree = true := by simp [B1, go_sem]
@[go_sem high] theorem B1_treeL (l : List _) : (∀ c ∈ l.map B1, ∀ x ∈ c, AV.tree x = true) ↔ True := maptree B1_tree l
@[go_sem high] theorem S1_unL (l : List _) : unownLL (l.map S1) = l.map S1 := unownLL_map S1_un l
@[go_sem high] theorem S1_unM (l : List _) : (l.map S1).map (List.map unown) = l.map S1 := mapun S1_un l
@[go_sem] theorem S1_ownd (x) : owndL (S1 x) = true := by simp [S1, go_sem]
@[go_sem high] theorem S1_owndL (l : List _) : owndLL (l.map S1) = true := owndLL_map S1_ownd l
@[go_sem] theorem S1_ids (x) : idsL (S1 x) = [] := by simp [S1, go_sem]
@[go_sem high] theorem S1_idsL (l : List _) : (l.map S1).flatMap idsL = [] := flatids S1_ids l
theorem S1_tree (a) : ∀ x ∈ S1 a, x.tree = true := by simp [S1, go_sem]
@[go_sem high] theorem S1_treeL (l : List _) : (∀ c ∈ l.map S1, ∀ x ∈ c, AV.tree x = true) ↔ True := maptree S1_tree l

/-- impl.Node -/
structure TNode where
  kind : Int
  val : Int
  left : Int
  right : Int
  deriving DecidableEq
def TNode.ro (x : TNode) : List AV := [.int .i64 x.kind, .int .i64 x.val, .int .i64 x.left, .int .i64 x.right]
@[go_sem] theorem TNode_ro_eq (x : TNode) : x.ro = [.int .i64 x.kind, .int .i64 x.val, .int .i64 x.left, .int .i64 x.right] := rfl
theorem TNode_ro_un (x : TNode) : x.ro.map unown = x.ro := by simp [TNode.ro, go_sem]
@[go_sem high] theorem TNode_ro_unL (l : List _) : unownLL (l.map TNode.ro) = l.map TNode.ro := unownLL_map TNode_ro_un l
@[go_sem high] theorem TNode_ro_unM (l : List _) : (l.map TNode.ro).map (List.map unown) = l.map TNode.ro := mapun TNode_ro_un l
@[go_sem] theorem TNode_ro_ownd (x) : owndL (TNode.ro x) = true := by simp [TNode.ro, go_sem]
@[go_sem high] theorem TNode_ro_owndL (l : List _) : owndLL (l.map TNode.ro) = true := owndLL_map TNode_ro_ownd l
@[go_sem] theorem TNode_ro_ids (x) : idsL (TNode.ro x) = [] := by simp [TNode.ro, go_sem]
@[go_sem high] theorem TNode_ro_idsL (l : List _) : (l.map TNode.ro).flatMap idsL = [] := flatids TNode_ro_ids l
theorem TNode_ro_tree (a) : ∀ x ∈ TNode.ro a, x.tree = true := by simp [TNode.ro, go_sem]
@[go_sem high] theorem TNode_ro_treeL (l : List _) : (∀ c ∈ l.map TNode.ro, ∀ x ∈ c, AV.tree x = true) ↔ True := maptree TNode_ro_tree l

/-- impl.Step -/
structure TStep where
  kind : Int
  par : Int
  name : List UInt8
  arg : Int
  cond : List TNode
  expr : List TNode
  deriving DecidableEq
def TStep.ro (x : TStep) : List AV := [.int .i64 x.kind, .int .i64 x.par, .str x.name, .int .i64 x.arg, .isl 4 (x.cond.map TNode.ro), .isl 4 (x.expr.map TNode.ro)]
@[go_sem] theorem TStep_ro_eq (x : TStep) : x.ro = [.int .i64 x.kind, .int .i64 x.par, .str x.name, .int .i64 x.arg, .isl 4 (x.cond.map TNode.ro), .isl 4 (x.expr.map TNode.ro)] := rfl
def TStep.oc (x : TStep) : List AV := [.int .i64 x.kind, .int .i64 x.par, .str x.name, .int .i64 x.arg, owc 4 (x.cond.map TNode.ro), owc 4 (x.expr.map TNode.ro)]
theorem TStep_oc_un (x : TStep) : x.oc.map unown = x.ro := by simp [TStep.oc, TStep.ro, go_sem]
@[go_sem] theorem TStep_oc_eq (x : TStep) : x.oc = [.int .i64 x.kind, .int .i64 x.par, .str x.name, .int .i64 x.arg, owc 4 (x.cond.map TNode.ro), owc 4 (x.expr.map TNode.ro)] := rfl
@[go_sem high] theorem TStep_oc_unL (l : List _) : unownLL (l.map TStep.oc) = l.map TStep.ro := unownLL_map TStep_oc_un l
@[go_sem high] theorem TStep_oc_unM (l : List _) : (l.map TStep.oc).map (List.map unown) = l.map TStep.ro := mapun TStep_oc_un l
@[go_sem] theorem TStep_oc_ownd (x) : owndL (TStep.oc x) = true := by simp [TStep.oc, go_sem]
@[go_sem high] theorem TStep_oc_owndL (l : List _) : owndLL (l.map TStep.oc) = true := owndLL_map TStep_oc_ownd l
@[go_sem] theorem TStep_oc_ids (x) : idsL (TStep.oc x) = [] := by simp [TStep.oc, go_sem]
@[go_sem high] theorem TStep_oc_idsL (l : List _) : (l.map TStep.oc).flatMap idsL = [] := flatids TStep_oc_ids l
theorem TStep_oc_tree (a) : ∀ x ∈ TStep.oc a, x.tree = true := by simp [TStep.oc, go_sem]
@[go_sem high] theorem TStep_oc_treeL (l : List _) : (∀ c ∈ l.map TStep.oc, ∀ x ∈ c, AV.tree x = true) ↔ True := maptree TStep_oc_tree l
def TStep.sz (x : TStep) : Nat := x.name.length + x.cond.length + x.expr.length

/-- impl.GNode -/
structure TGNode where
  kind : Int
  step : Int
  name : List UInt8
  arg : Int
  expr : List TNode
  deriving DecidableEq
def TGNode.ro (x : TGNode) : List AV := [.int .i64 x.kind, .int .i64 x.step, .str x.name, .int .i64 x.arg, .isl 4 (x.expr.map TNode.ro)]
@[go_sem] theorem TGNode_ro_eq (x : TGNode) : x.ro = [.int .i64 x.kind, .int .i64 x.step, .str x.name, .int .i64 x.arg, .isl 4 (x.expr.map TNode.ro)] := rfl
def TGNode.oc (x : TGNode) : List AV := [.int .i64 x.kind, .int .i64 x.step, .str x.name, .int .i64 x.arg, owc 4 (x.expr.map TNode.ro)]
theorem TGNode_oc_un (x : TGNode) : x.oc.map unown = x.ro := by simp [TGNode.oc, TGNode.ro, go_sem]
@[go_sem] theorem TGNode_oc_eq (x : TGNode) : x.oc = [.int .i64 x.kind, .int .i64 x.step, .str x.name, .int .i64 x.arg, owc 4 (x.expr.map TNode.ro)] := rfl
@[go_sem high] theorem TGNode_oc_unL (l : List _) : unownLL (l.map TGNode.oc) = l.map TGNode.ro := unownLL_map TGNode_oc_un l
@[go_sem high] theorem TGNode_oc_unM (l : List _) : (l.map TGNode.oc).map (List.map unown) = l.map TGNode.ro := mapun TGNode_oc_un l
@[go_sem] theorem TGNode_oc_ownd (x) : owndL (TGNode.oc x) = true := by simp [TGNode.oc, go_sem]
@[go_sem high] theorem TGNode_oc_owndL (l : List _) : owndLL (l.map TGNode.oc) = true := owndLL_map TGNode_oc_ownd l
@[go_sem] theorem TGNode_oc_ids (x) : idsL (TGNode.oc x) = [] := by simp [TGNode.oc, go_sem]
@[go_sem high] theorem TGNode_oc_idsL (l : List _) : (l.map TGNode.oc).flatMap idsL = [] := flatids TGNode_oc_ids l
theorem TGNode_oc_tree (a) : ∀ x ∈ TGNode.oc a, x.tree = true := by simp [TGNode.oc, go_sem]
@[go_sem high] theorem TGNode_oc_treeL (l : List _) : (∀ c ∈ l.map TGNode.oc, ∀ x ∈ c, AV.tree x = true) ↔ True := maptree TGNode_oc_tree l
def TGNode.sz (x : TGNode) : Nat := x.name.length + x.expr.length

/-- impl.Flow -/
structure TFlow where
  frm : Int
  to : Int
  cond : List TNode
  deriving DecidableEq
def TFlow.ro (x : TFlow) : List AV := [.int .i64 x.frm, .int .i64 x.to, .isl 4 (x.cond.map TNode.ro)]
@[go_sem] theorem TFlow_ro_eq (x : TFlow) : x.ro = [.int .i64 x.frm, .int .i64 x.to, .isl 4 (x.cond.map TNode.ro)] := rfl
def TFlow.oc (x : TFlow) : List AV := [.int .i64 x.frm, .int .i64 x.to, owc 4 (x.cond.map TNode.ro)]
theorem TFlow_oc_un (x : TFlow) : x.oc.map unown = x.ro := by simp [TFlow.oc, TFlow.ro, go_sem]
@[go_sem] theorem TFlow_oc_eq (x : TFlow) : x.oc = [.int .i64 x.frm, .int .i64 x.to, owc 4 (x.cond.map TNode.ro)] := rfl
@[go_sem high] theorem TFlow_oc_unL (l : List _) : unownLL (l.map TFlow.oc) = l.map TFlow.ro := unownLL_map TFlow_oc_un l
@[go_sem high] theorem TFlow_oc_unM (l : List _) : (l.map TFlow.oc).map (List.map unown) = l.map TFlow.ro := mapun TFlow_oc_un l
@[go_sem] theorem TFlow_oc_ownd (x) : owndL (TFlow.oc x) = true := by simp [TFlow.oc, go_sem]
@[go_sem high] theorem TFlow_oc_owndL (l : List _) : owndLL (l.map TFlow.oc) = true := owndLL_map TFlow_oc_ownd l
@[go_sem] theorem TFlow_oc_ids (x) : idsL (TFlow.oc x) = [] := by simp [TFlow.oc, go_sem]
@[go_sem high] theorem TFlow_oc_idsL (l : List _) : (l.map TFlow.oc).flatMap idsL = [] := flatids TFlow_oc_ids l
theorem TFlow_oc_tree (a) : ∀ x ∈ TFlow.oc a, x.tree = true := by simp [TFlow.oc, go_sem]
@[go_sem high] theorem TFlow_oc_treeL (l : List _) : (∀ c ∈ l.map TFlow.oc, ∀ x ∈ c, AV.tree x = true) ↔ True := maptree TFlow_oc_tree l
def TFlow.sz (x : TFlow) : Nat := x.cond.length

/-- impl.Graph -/
structure TGraph where
  nodes : List TGNode
  flows : List TFlow
  deriving DecidableEq
def TGraph.ro (x : TGraph) : List AV := [.isl 5 (x.nodes.map TGNode.ro), .isl 3 (x.flows.map TFlow.ro)]
@[go_sem] theorem TGraph_ro_eq (x : TGraph) : x.ro = [.isl 5 (x.nodes.map TGNode.ro), .isl 3 (x.flows.map TFlow.ro)] := rfl
def TGraph.oc (x : TGraph) : List AV := [owc 5 (x.nodes.map TGNode.oc), owc 3 (x.flows.map TFlow.oc)]
theorem TGraph_oc_un (x : TGraph) : x.oc.map unown = x.ro := by simp [TGraph.oc, TGraph.ro, go_sem]
@[go_sem] theorem TGraph_oc_eq (x : TGraph) : x.oc = [owc 5 (x.nodes.map TGNode.oc), owc 3 (x.flows.map TFlow.oc)] := rfl
@[go_sem high] theorem TGraph_oc_unL (l : List _) : unownLL (l.map TGraph.oc) = l.map TGraph.ro := unownLL_map TGraph_oc_un l
@[go_sem high] theorem TGraph_oc_unM (l : List _) : (l.map TGraph.oc).map (List.map unown) = l.map TGraph.ro := mapun TGraph_oc_un l
@[go_sem] theorem TGraph_oc_ownd (x) : owndL (TGraph.oc x) = true := by simp [TGraph.oc, go_sem]
@[go_sem high] theorem TGraph_oc_owndL (l : List _) : owndLL (l.map TGraph.oc) = true := owndLL_map TGraph_oc_ownd l
@[go_sem] theorem TGraph_oc_ids (x) : idsL (TGraph.oc x) = [] := by simp [TGraph.oc, go_sem]
@[go_sem high] theorem TGraph_oc_idsL (l : List _) : (l.map TGraph.oc).flatMap idsL = [] := flatids TGraph_oc_ids l
theorem TGraph_oc_tree (a) : ∀ x ∈ TGraph.oc a, x.tree = true := by simp [TGraph.oc, go_sem]
@[go_sem high] theorem TGraph_oc_treeL (l : List _) : (∀ c ∈ l.map TGraph.oc, ∀ x ∈ c, AV.tree x = true) ↔ True := maptree TGraph_oc_tree l
def TGraph.sz (x : TGraph) : Nat := (x.nodes.length + (x.nodes.map TGNode.sz).sum) + (x.flows.length + (x.flows.map TFlow.sz).sum)

/-- impl.Chart -/
structure TChart where
  status : Int
  now : Int
  vars : List Int
  acts : List Int
  dues : List Int
  deriving DecidableEq
def TChart.ro (x : TChart) : List AV := [.int .i64 x.status, .int .i64 x.now, .isl 1 (x.vars.map I1), .isl 1 (x.acts.map I1), .isl 1 (x.dues.map I1)]
@[go_sem] theorem TChart_ro_eq (x : TChart) : x.ro = [.int .i64 x.status, .int .i64 x.now, .isl 1 (x.vars.map I1), .isl 1 (x.acts.map I1), .isl 1 (x.dues.map I1)] := rfl
def TChart.oc (x : TChart) : List AV := [.int .i64 x.status, .int .i64 x.now, owc 1 (x.vars.map I1), owc 1 (x.acts.map I1), owc 1 (x.dues.map I1)]
theorem TChart_oc_un (x : TChart) : x.oc.map unown = x.ro := by simp [TChart.oc, TChart.ro, go_sem]
@[go_sem] theorem TChart_oc_eq (x : TChart) : x.oc = [.int .i64 x.status, .int .i64 x.now, owc 1 (x.vars.map I1), owc 1 (x.acts.map I1), owc 1 (x.dues.map I1)] := rfl
@[go_sem high] theorem TChart_oc_unL (l : List _) : unownLL (l.map TChart.oc) = l.map TChart.ro := unownLL_map TChart_oc_un l
@[go_sem high] theorem TChart_oc_unM (l : List _) : (l.map TChart.oc).map (List.map unown) = l.map TChart.ro := mapun TChart_oc_un l
@[go_sem] theorem TChart_oc_ownd (x) : owndL (TChart.oc x) = true := by simp [TChart.oc, go_sem]
@[go_sem high] theorem TChart_oc_owndL (l : List _) : owndLL (l.map TChart.oc) = true := owndLL_map TChart_oc_ownd l
@[go_sem] theorem TChart_oc_ids (x) : idsL (TChart.oc x) = [] := by simp [TChart.oc, go_sem]
@[go_sem high] theorem TChart_oc_idsL (l : List _) : (l.map TChart.oc).flatMap idsL = [] := flatids TChart_oc_ids l
theorem TChart_oc_tree (a) : ∀ x ∈ TChart.oc a, x.tree = true := by simp [TChart.oc, go_sem]
@[go_sem high] theorem TChart_oc_treeL (l : List _) : (∀ c ∈ l.map TChart.oc, ∀ x ∈ c, AV.tree x = true) ↔ True := maptree TChart_oc_tree l
def TChart.sz (x : TChart) : Nat := x.vars.length + x.acts.length + x.dues.length

/-- impl.Proc -/
structure TProc where
  steps : List TStep
  deriving DecidableEq
def TProc.ro (x : TProc) : List AV := [.isl 6 (x.steps.map TStep.ro)]
@[go_sem] theorem TProc_ro_eq (x : TProc) : x.ro = [.isl 6 (x.steps.map TStep.ro)] := rfl
def TProc.oc (x : TProc) : List AV := [owc 6 (x.steps.map TStep.oc)]
theorem TProc_oc_un (x : TProc) : x.oc.map unown = x.ro := by simp [TProc.oc, TProc.ro, go_sem]
@[go_sem] theorem TProc_oc_eq (x : TProc) : x.oc = [owc 6 (x.steps.map TStep.oc)] := rfl
@[go_sem high] theorem TProc_oc_unL (l : List _) : unownLL (l.map TProc.oc) = l.map TProc.ro := unownLL_map TProc_oc_un l
@[go_sem high] theorem TProc_oc_unM (l : List _) : (l.map TProc.oc).map (List.map unown) = l.map TProc.ro := mapun TProc_oc_un l
@[go_sem] theorem TProc_oc_ownd (x) : owndL (TProc.oc x) = true := by simp [TProc.oc, go_sem]
@[go_sem high] theorem TProc_oc_owndL (l : List _) : owndLL (l.map TProc.oc) = true := owndLL_map TProc_oc_ownd l
@[go_sem] theorem TProc_oc_ids (x) : idsL (TProc.oc x) = [] := by simp [TProc.oc, go_sem]
@[go_sem high] theorem TProc_oc_idsL (l : List _) : (l.map TProc.oc).flatMap idsL = [] := flatids TProc_oc_ids l
theorem TProc_oc_tree (a) : ∀ x ∈ TProc.oc a, x.tree = true := by simp [TProc.oc, go_sem]
@[go_sem high] theorem TProc_oc_treeL (l : List _) : (∀ c ∈ l.map TProc.oc, ∀ x ∈ c, AV.tree x = true) ↔ True := maptree TProc_oc_tree l
def TProc.sz (x : TProc) : Nat := (x.steps.length + (x.steps.map TStep.sz).sum)

/-- impl.Inst -/
structure TInst where
  proc : Int
  chart : TChart
  deriving DecidableEq
def TInst.ro (x : TInst) : List AV := [.int .i64 x.proc, .int .i64 x.chart.status, .int .i64 x.chart.now, .isl 1 (x.chart.vars.map I1), .isl 1 (x.chart.acts.map I1), .isl 1 (x.chart.dues.map I1)]
@[go_sem] theorem TInst_ro_eq (x : TInst) : x.ro = [.int .i64 x.proc, .int .i64 x.chart.status, .int .i64 x.chart.now, .isl 1 (x.chart.vars.map I1), .isl 1 (x.chart.acts.map I1), .isl 1 (x.chart.dues.map I1)] := rfl
def TInst.oc (x : TInst) : List AV := [.int .i64 x.proc, .int .i64 x.chart.status, .int .i64 x.chart.now, owc 1 (x.chart.vars.map I1), owc 1 (x.chart.acts.map I1), owc 1 (x.chart.dues.map I1)]
theorem TInst_oc_un (x : TInst) : x.oc.map unown = x.ro := by simp [TInst.oc, TInst.ro, go_sem]
@[go_sem] theorem TInst_oc_eq (x : TInst) : x.oc = [.int .i64 x.proc, .int .i64 x.chart.status, .int .i64 x.chart.now, owc 1 (x.chart.vars.map I1), owc 1 (x.chart.acts.map I1), owc 1 (x.chart.dues.map I1)] := rfl
@[go_sem high] theorem TInst_oc_unL (l : List _) : unownLL (l.map TInst.oc) = l.map TInst.ro := unownLL_map TInst_oc_un l
@[go_sem high] theorem TInst_oc_unM (l : List _) : (l.map TInst.oc).map (List.map unown) = l.map TInst.ro := mapun TInst_oc_un l
@[go_sem] theorem TInst_oc_ownd (x) : owndL (TInst.oc x) = true := by simp [TInst.oc, go_sem]
@[go_sem high] theorem TInst_oc_owndL (l : List _) : owndLL (l.map TInst.oc) = true := owndLL_map TInst_oc_ownd l
@[go_sem] theorem TInst_oc_ids (x) : idsL (TInst.oc x) = [] := by simp [TInst.oc, go_sem]
@[go_sem high] theorem TInst_oc_idsL (l : List _) : (l.map TInst.oc).flatMap idsL = [] := flatids TInst_oc_ids l
theorem TInst_oc_tree (a) : ∀ x ∈ TInst.oc a, x.tree = true := by simp [TInst.oc, go_sem]
@[go_sem high] theorem TInst_oc_treeL (l : List _) : (∀ c ∈ l.map TInst.oc, ∀ x ∈ c, AV.tree x = true) ↔ True := maptree TInst_oc_tree l
def TInst.sz (x : TInst) : Nat := x.chart.sz

/-- impl.Claim -/
structure TClaim where
  inst : Int
  step : Int
  user : Int
  deriving DecidableEq
def TClaim.ro (x : TClaim) : List AV := [.int .i64 x.inst, .int .i64 x.step, .int .i64 x.user]
@[go_sem] theorem TClaim_ro_eq (x : TClaim) : x.ro = [.int .i64 x.inst, .int .i64 x.step, .int .i64 x.user] := rfl
theorem TClaim_ro_un (x : TClaim) : x.ro.map unown = x.ro := by simp [TClaim.ro, go_sem]
@[go_sem high] theorem TClaim_ro_unL (l : List _) : unownLL (l.map TClaim.ro) = l.map TClaim.ro := unownLL_map TClaim_ro_un l
@[go_sem high] theorem TClaim_ro_unM (l : List _) : (l.map TClaim.ro).map (List.map unown) = l.map TClaim.ro := mapun TClaim_ro_un l
@[go_sem] theorem TClaim_ro_ownd (x) : owndL (TClaim.ro x) = true := by simp [TClaim.ro, go_sem]
@[go_sem high] theorem TClaim_ro_owndL (l : List _) : owndLL (l.map TClaim.ro) = true := owndLL_map TClaim_ro_ownd l
@[go_sem] theorem TClaim_ro_ids (x) : idsL (TClaim.ro x) = [] := by simp [TClaim.ro, go_sem]
@[go_sem high] theorem TClaim_ro_idsL (l : List _) : (l.map TClaim.ro).flatMap idsL = [] := flatids TClaim_ro_ids l
theorem TClaim_ro_tree (a) : ∀ x ∈ TClaim.ro a, x.tree = true := by simp [TClaim.ro, go_sem]
@[go_sem high] theorem TClaim_ro_treeL (l : List _) : (∀ c ∈ l.map TClaim.ro, ∀ x ∈ c, AV.tree x = true) ↔ True := maptree TClaim_ro_tree l

/-- impl.GraphResult -/
structure TGraphResult where
  code : Int
  graph : TGraph
  deriving DecidableEq
def TGraphResult.ro (x : TGraphResult) : List AV := [.int .i64 x.code, .isl 5 (x.graph.nodes.map TGNode.ro), .isl 3 (x.graph.flows.map TFlow.ro)]
@[go_sem] theorem TGraphResult_ro_eq (x : TGraphResult) : x.ro = [.int .i64 x.code, .isl 5 (x.graph.nodes.map TGNode.ro), .isl 3 (x.graph.flows.map TFlow.ro)] := rfl
def TGraphResult.oc (x : TGraphResult) : List AV := [.int .i64 x.code, owc 5 (x.graph.nodes.map TGNode.oc), owc 3 (x.graph.flows.map TFlow.oc)]
theorem TGraphResult_oc_un (x : TGraphResult) : x.oc.map unown = x.ro := by simp [TGraphResult.oc, TGraphResult.ro, go_sem]
@[go_sem] theorem TGraphResult_oc_eq (x : TGraphResult) : x.oc = [.int .i64 x.code, owc 5 (x.graph.nodes.map TGNode.oc), owc 3 (x.graph.flows.map TFlow.oc)] := rfl
@[go_sem high] theorem TGraphResult_oc_unL (l : List _) : unownLL (l.map TGraphResult.oc) = l.map TGraphResult.ro := unownLL_map TGraphResult_oc_un l
@[go_sem high] theorem TGraphResult_oc_unM (l : List _) : (l.map TGraphResult.oc).map (List.map unown) = l.map TGraphResult.ro := mapun TGraphResult_oc_un l
@[go_sem] theorem TGraphResult_oc_ownd (x) : owndL (TGraphResult.oc x) = true := by simp [TGraphResult.oc, go_sem]
@[go_sem high] theorem TGraphResult_oc_owndL (l : List _) : owndLL (l.map TGraphResult.oc) = true := owndLL_map TGraphResult_oc_ownd l
@[go_sem] theorem TGraphResult_oc_ids (x) : idsL (TGraphResult.oc x) = [] := by simp [TGraphResult.oc, go_sem]
@[go_sem high] theorem TGraphResult_oc_idsL (l : List _) : (l.map TGraphResult.oc).flatMap idsL = [] := flatids TGraphResult_oc_ids l
theorem TGraphResult_oc_tree (a) : ∀ x ∈ TGraphResult.oc a, x.tree = true := by simp [TGraphResult.oc, go_sem]
@[go_sem high] theorem TGraphResult_oc_treeL (l : List _) : (∀ c ∈ l.map TGraphResult.oc, ∀ x ∈ c, AV.tree x = true) ↔ True := maptree TGraphResult_oc_tree l
def TGraphResult.sz (x : TGraphResult) : Nat := x.graph.sz

end Go.AM
namespace Go.AM
open Go.ChangeShapes Go.WideShapes Go.RowKit

/-- cells that read as abstract values -/
def RdC (w : World) (cs : List Value) (ys : List AV) : Prop :=
  ys.length = cs.length ∧ (∀ (j : Nat) y v, ys[j]? = some y → cs[j]? = some v → I w (fun _ => none) y v) ∧ ∀ y ∈ ys, AV.plain y = true

theorem RdC.nil {w : World} {cs : List Value} (h : cs = []) : RdC w cs [] := by subst h; exact ⟨rfl, by intro j y v h; simp at h, by simp⟩

theorem RdC.one {w : World} {v : Value} {y : AV} (h : I w (fun _ => none) y v) (hp : y.plain = true) : RdC w [v] [y] := by
  refine ⟨rfl, ?_, by simpa using hp⟩
  intro j y' v' hy hv
  cases j with
  | zero => simp at hy hv; subst hy; subst hv; exact h
  | succ j => simp at hy

theorem RdC.cons {w : World} {cs : List Value} {o s : Nat} {ys zs : List AV} (h1 : RdC w ((cs.drop o).take s) ys) (h2 : RdC w (cs.drop (o + s)) zs) : RdC w (cs.drop o) (ys ++ zs) := by
  have e : cs.drop o = (cs.drop o).take s ++ cs.drop (o + s) := by rw [← List.drop_drop, List.take_append_drop]
  rw [e]
  obtain ⟨a1, a2, a3⟩ := h1
  obtain ⟨b1, b2, b3⟩ := h2
  refine ⟨by rw [List.length_append, List.length_append, a1, b1], ?_, ?_⟩
  · intro j y v hy hv
    rw [List.getElem?_append] at hy hv
    rw [a1] at hy
    split at hy
    · rename_i h; rw [if_pos h] at hv; exact a2 j y v hy hv
    · rename_i h; rw [if_neg h] at hv; exact b2 _ y v hy hv
  · intro y hy
    rcases List.mem_append.1 hy with hy | hy
    · exact a3 y hy
    · exact b3 y hy

/-- a type's data, read -/
structure Rd (P : Program) (t : TypeId) (α : Type) (f : α → List AV) (ok : α → Prop) (n : Nat) : Prop where
  size : P.cellsOf t = n
  read : ∀ {H : Type} (enc : TypeId × Value → H) (w : World) (base : Nat) (spare : Nat → Bool) (held : Bool) (fuel : Nat) (cs : List Value) (x : DataW H × List MemPlace),
    DataW.trod enc P w base spare held fuel t cs = some x → ∃ a : α, ok a ∧ RdC w cs (f a) ∧ cs.length = n

theorem cellsOf_of {P : Program} {ti : TI} (hT : TOk P ti) {t : Nat} {i : TInfo} (h : ti t = some i) : P.cellsOf t = i.size := by
  obtain ⟨info, h1, h2, _⟩ := (hT t i h).info
  simp [Program.cellsOf, h1, h2]

section
variable {P : Program} {t : TypeId}

theorem trod_int' {k : IntKind} {H : Type} {enc : TypeId × Value → H} {w : World} {base : Nat} {spare : Nat → Bool} {held : Bool} {fuel : Nat} {cs : List Value} {x : DataW H × List MemPlace} (ht : P.underlying t = some (.int k))
    (h : DataW.trod enc P w base spare held fuel t cs = some x) : ∃ n, cs = [.int k n] ∧ (Lit.int k n).wf = true := by
  cases fuel with
  | zero => simp [DataW.trod] at h
  | succ m =>
    unfold DataW.trod at h
    rw [ht] at h
    split at h <;> simp_all

theorem Rd.int (hs : P.cellsOf t = 1) (ht : P.underlying t = some (.int .i64)) : Rd P t Int I1 (fun n => -9223372036854775808 ≤ n ∧ n ≤ 9223372036854775807) 1 := by
  refine ⟨hs, ?_⟩
  intro H enc w base spare held fuel cs x h
  obtain ⟨n, rfl, hw⟩ := trod_int' ht h
  refine ⟨n, ?_, .one (.int _ _) rfl, rfl⟩
  simp [Lit.wf, IntKind.min, IntKind.max, IntKind.bits, IntKind.signed] at hw
  first | exact hw | omega

theorem trod_str' {H : Type} {enc : TypeId × Value → H} {w : World} {base : Nat} {spare : Nat → Bool} {held : Bool} {fuel : Nat} {cs : List Value} {x : DataW H × List MemPlace} (ht : P.underlying t = some .string)
    (h : DataW.trod enc P w base spare held fuel t cs = some x) : ∃ s, cs = [.string s] ∧ s.size ≤ maxLen := by
  cases fuel with
  | zero => simp [DataW.trod] at h
  | succ m =>
    unfold DataW.trod at h
    rw [ht] at h
    split at h <;> simp_all

theorem Rd.str (hs : P.cellsOf t = 1) (ht : P.underlying t = some .string) : Rd P t (List UInt8) S1 (fun s => s.length ≤ 9223372036854775807) 1 := by
  refine ⟨hs, ?_⟩
  intro H enc w base spare held fuel cs x h
  obtain ⟨s, rfl, hw⟩ := trod_str' ht h
  refine ⟨s.data.toList, ?_, .one (I.ofString s) rfl, rfl⟩
  unfold maxLen at hw
  exact hw

theorem cell_spot {w : World} {a : Addr} {v : Value} (h : w.cell? a = some v) : a.spot = none ∧ a.block < w.heap.size := by
  unfold World.cell? at h
  split at h
  · rename_i hb
    refine ⟨?_, ?_⟩
    · split at h
      · cases h
      · rename_i hs; simpa using hs
    rcases Nat.lt_or_ge a.block w.heap.size with h1 | h1
    · exact h1
    · simp [Array.getElem?_eq_none h1] at hb
  · cases h

theorem mapM_get {α β : Type} {f : α → Option β} : ∀ {l : List α} {r : List β}, l.mapM f = some r → r.length = l.length ∧ ∀ (i : Nat) a, l[i]? = some a → f a = r[i]? := by
  intro l
  induction l with
  | nil => intro r h; simp at h; subst h; exact ⟨rfl, by intro i a h; simp at h⟩
  | cons x l ih =>
    intro r h
    simp only [List.mapM_cons, Option.bind_eq_bind] at h
    cases hx : f x with
    | none => simp [hx] at h
    | some y =>
      cases hl : l.mapM f with
      | none => simp [hx, hl] at h
      | some ys =>
        simp [hx, hl] at h
        subst h
        obtain ⟨h1, h2⟩ := ih hl
        refine ⟨by simp [h1], ?_⟩
        intro i a hi
        cases i with
        | zero => simp at hi; subst hi; simp [hx]
        | succ i => simpa using h2 i a (by simpa using hi)

theorem Rd.slice {e : TypeId} {α : Type} {f : α → List AV} {ok : α → Prop} {n : Nat} (he : Rd P e α f ok n) (hn : 0 < n) (hs : P.cellsOf t = 1) (ht : P.underlying t = some (.slice e)) :
    Rd P t (List α) (fun l => [.isl n (l.map f)]) (fun l => l.length ≤ 9223372036854775807 ∧ ∀ a ∈ l, ok a) 1 := by
  refine ⟨hs, ?_⟩
  intro H enc w base spare held fuel cs x h
  rcases DataW.trod_slice ht h with ⟨rfl, _⟩ | ⟨a, len, cap, elems, rest, m, rfl, rfl, _, hb, hlc, hcap, hel, hget, _⟩
  · exact ⟨[], ⟨Nat.zero_le _, by simp⟩, .one (.nsl _) rfl, rfl⟩
  · rw [he.size] at hget
    have hrow : ∀ i, i < len → ∃ (b : α) (vs : List Value), ok b ∧ RdC w vs (f b) ∧ vs.length = n ∧ ∀ j, j < n → w.cell? ((a.add (i * n)).add j) = vs[j]? := by
      intro i hi
      have h1 := hget i hi
      have h2 : ∃ y, elems[i]? = some y := ⟨elems[i]'(by omega), List.getElem?_eq_getElem _⟩
      obtain ⟨y, hy⟩ := h2
      rw [hy, Option.bind_eq_some_iff] at h1
      obtain ⟨vs, h3, h4⟩ := h1
      obtain ⟨b, h5, h6, h7⟩ := he.read enc w base spare held m vs y h4
      refine ⟨b, vs, h5, h6, h7, ?_⟩
      unfold World.cells? at h3
      split at h3
      · obtain ⟨_, h8⟩ := mapM_get h3
        intro j hj
        exact h8 j j (by simp [hj])
      · cases h3
    by_cases hz : len = 0
    · subst hz
      exact ⟨[], ⟨Nat.zero_le _, by simp⟩, .one (.esl _ _ _) rfl, rfl⟩
    obtain ⟨b0, vs0, hb0⟩ := hrow 0 (by omega)
    obtain ⟨g, gv, hg⟩ : ∃ (g : Nat → α) (gv : Nat → List Value), ∀ i, i < len → ok (g i) ∧ RdC w (gv i) (f (g i)) ∧ (gv i).length = n ∧ ∀ j, j < n → w.cell? ((a.add (i * n)).add j) = (gv i)[j]? := by
      refine ⟨fun i => if h : i < len then (hrow i h).choose else b0, fun i => if h : i < len then (hrow i h).choose_spec.choose else vs0, ?_⟩
      intro i hi
      simp only [dif_pos hi]
      exact (hrow i hi).choose_spec.choose_spec
    have hsp : a.spot = none ∧ a.block < w.heap.size := by
      obtain ⟨_, _, h3, h4⟩ := hg 0 (by omega)
      have h5 := h4 0 hn
      have h6 : ∃ v, (gv 0)[0]? = some v := ⟨(gv 0)[0]'(by omega), List.getElem?_eq_getElem _⟩
      obtain ⟨v, h6⟩ := h6
      rw [h6] at h5
      have h7 := cell_spot h5
      simpa [Addr.add] using h7
    obtain ⟨ab, ao, asp⟩ := a
    obtain ⟨hsp1, hsp2⟩ := hsp
    simp only at hsp1 hsp2
    subst hsp1
    simp only [addr_add] at hg
    have hmap : ∀ i, i < len → ((List.range len).map g)[i]? = some (g i) := by intro i hi; simp [hi]
    refine ⟨(List.range len).map g, ⟨by simp; unfold maxLen at hcap; omega, ?_⟩, .one ?_ rfl, rfl⟩
    · intro b hb
      obtain ⟨i, hi, rfl⟩ := List.mem_map.1 hb
      exact (hg i (by simpa using hi)).1
    · have := I.isl (w := w) (lab := fun _ => none) n (((List.range len).map g).map f) ab ao cap (fun i j => (gv i).getD j undef) rfl hsp2 (by simpa using hlc) ?_ ?_ ?_ ?_
      · simpa using this
      · intro c hc
        obtain ⟨b, hb, rfl⟩ := List.mem_map.1 hc
        obtain ⟨i, hi, rfl⟩ := List.mem_map.1 hb
        obtain ⟨_, h2, h3, _⟩ := hg i (by simpa using hi)
        rw [h2.1, h3]
      · intro c hc y hy
        obtain ⟨b, hb, rfl⟩ := List.mem_map.1 hc
        obtain ⟨i, hi, rfl⟩ := List.mem_map.1 hb
        exact (hg i (by simpa using hi)).2.1.2.2 y hy
      · intro i j hi hj
        have hi : i < len := by simpa using hi
        obtain ⟨_, h2, h3, h4⟩ := hg i hi
        rw [h4 j hj]
        simp [List.getD, h3, hj]
      · intro i c j y hi hj
        have hi' : i < len := by have := (List.getElem?_eq_some_iff.1 hi).1; simpa using this
        obtain ⟨_, h2, h3, h4⟩ := hg i hi'
        rw [List.getElem?_map, hmap i hi'] at hi
        cases hi
        have hj' : j < (gv i).length := by rw [← h2.1]; exact (List.getElem?_eq_some_iff.1 hj).1
        have := h2.2.1 j y (gv i)[j] hj (List.getElem?_eq_getElem hj')
        simpa [List.getD, hj'] using this

/-- an argument, read -/
theorem Rd.arg {α : Type} {f : α → List AV} {ok : α → Prop} {n : Nat} (h : Rd P t α f ok n) {w : World} {H : Type} {enc : TypeId × Value → H} {base : Nat} {spare : Nat → Bool} {held : Bool} {v : Value} {d : DataW H} {ps : List MemPlace}
    (hd : DataW.Trod enc P w base spare held t v d ps) : ∃ a, ok a ∧ RdC w v.cells.toList (f a) := by
  obtain ⟨fuel, hd⟩ := hd
  obtain ⟨a, h1, h2, _⟩ := h.read enc w base spare held fuel _ _ hd
  exact ⟨a, h1, h2⟩

theorem RdC.agg {w : World} {cs : Array Value} {ys : List AV} (h : RdC w cs.toList ys) : I w (fun _ => none) (.agg ys) (.agg cs) := by
  have := I.agg (w := w) (lab := fun _ => none) ys cs.toList h.1 h.2.1
  simpa using this

theorem cells_slice {w : World} {base : Nat} {e : TypeId} {v : Value} (ht : P.underlying t = some (.slice e)) (hv : Value.okWide P w .any base t v) : v.cells.toList = [v] := by
  unfold Value.okWide at hv
  rw [ht] at hv
  unfold Cell.okWide at hv
  rw [ht] at hv
  cases v with
  | agg cs => simp [Cell.ok, ht] at hv
  | _ => rfl

/-- an argument of one cell -/
theorem Rd.arg1 {α : Type} {f : α → List AV} {ok : α → Prop} {n : Nat} (h : Rd P t α f ok n) {g : α → AV} (hg : ∀ a, f a = [g a]) {w : World} {H : Type} {enc : TypeId × Value → H} {base : Nat} {spare : Nat → Bool} {held : Bool} {v : Value} {d : DataW H} {ps : List MemPlace}
    (hv : v.cells.toList = [v]) (hd : DataW.Trod enc P w base spare held t v d ps) : ∃ a, ok a ∧ I w (fun _ => none) (g a) v := by
  obtain ⟨a, h1, h2⟩ := h.arg hd
  rw [hv, hg] at h2
  exact ⟨a, h1, h2.2.1 0 _ _ rfl rfl⟩

/-- an argument reads behind the call as it did -/
theorem Kept.trod {H : Type} {enc : TypeId × Value → H} (hl : laidOutB P = true) (hr : P.readableRec t = true) (hrow : t < P.types.size) {W W' : World} {v : Value} {d : DataW H} {ps : List MemPlace} (hk : Kept W W')
    (h : DataW.Trod enc P W 0 (fun _ => true) true t v d ps) (hlt : ∀ x ∈ ps, x.block < W.heap.size) {sp : Nat → Bool} (hs : ∀ p ∈ ps, sp p.block = true) : DataW.Trod enc P W' 0 sp true t v d ps := by
  refine WideElems.Trod_stays hl hr hrow h (fun x hx => ?_) hs
  cases x with
  | cell b o => exact World.cell?_of_block (w := W) (hk.heap b (hlt _ hx))
  | map b => exact hk.heap b (hlt _ hx)
end
end Go.AM
namespace Go.AM

theorem wrap64 {n : Int} (h1 : -9223372036854775808 ≤ n) (h2 : n ≤ 9223372036854775807) : IntKind.wrap .i64 n = n := by
  simp [IntKind.wrap, IntKind.bits, IntKind.signed]
  omega
theorem wrapi {i n : Nat} (h : i < n) (hn : n ≤ 9223372036854775807) : IntKind.wrap .i64 ((i : Int) + 1) = (i : Int) + 1 := wrap64 (by omega) (by omega)

/-! sizes -/
def subz (z : Int) (n : Nat) : Int := if z < n then -1 else z - n
theorem subz_neg {z : Int} {n : Nat} : subz z n < 0 ↔ z < n := by unfold subz; split <;> omega
theorem subz_nn {z : Int} {n : Nat} : 0 ≤ subz z n ↔ n ≤ z := by unfold subz; split <;> omega
theorem subz_ok {z : Int} {n : Nat} (h : n ≤ z) : subz z n = z - n := by unfold subz; split <;> omega
theorem subz_no {z : Int} {n : Nat} (h : z < n) : subz z n = -1 := by unfold subz; rw [if_pos h]
theorem sum_take {α : Type} {l : List α} {i : Nat} {x : α} {f : α → Nat} (h : l[i]? = some x) : ((l.map f).take (i + 1)).sum = ((l.map f).take i).sum + f x := by
  rw [List.take_add_one, List.getElem?_map, h]; simp
theorem sum_le {α : Type} {f : α → Nat} {l : List α} {i : Nat} : ((l.map f).take i).sum ≤ (l.map f).sum := by
  conv => rhs; rw [← List.take_append_drop i (l.map f), List.sum_append]
  omega
theorem sum_mem {α : Type} {f : α → Nat} {l : List α} {x : α} (h : x ∈ l) : f x ≤ (l.map f).sum := by
  induction l with
  | nil => cases h
  | cons y l ih =>
    simp only [List.map_cons, List.sum_cons]
    rcases List.mem_cons.1 h with rfl | h
    · omega
    · have := ih h; omega
theorem at_some {α : Type} {l : List α} {i : Nat} (h : i < l.length) : ∃ x, l[i]? = some x := ⟨l[i], List.getElem?_eq_getElem h⟩
theorem at_lt {α : Type} {l : List α} {i : Nat} {x : α} (h : l[i]? = some x) : i < l.length := (List.getElem?_eq_some_iff.1 h).1

/-! equal slices -/
theorem eq_ne_len {α : Type} [DecidableEq α] {a b : List α} (h : ¬ a.length = b.length) : decide (a = b) = false := by
  rw [decide_eq_false_iff_not]; rintro rfl; exact h rfl
theorem eq_ne_at {α : Type} [DecidableEq α] {a b : List α} {i : Nat} {x y : α} (hx : a[i]? = some x) (hy : b[i]? = some y) (h : ¬ x = y) : decide (a = b) = false := by
  rw [decide_eq_false_iff_not]; rintro rfl; rw [hx] at hy; cases hy; exact h rfl
theorem eq_end {α : Type} [DecidableEq α] {a b : List α} {i : Nat} (hl : a.length = b.length) (h : a.take i = b.take i) (hi : a.length ≤ i) : decide (a = b) = true := by
  rw [decide_eq_true_eq]; rwa [List.take_of_length_le hi, List.take_of_length_le (by omega)] at h
theorem take_step {α : Type} {a b : List α} {i : Nat} {x y : α} (hx : a[i]? = some x) (hy : b[i]? = some y) (e : x = y) (h : a.take i = b.take i) : a.take (i + 1) = b.take (i + 1) := by
  rw [List.take_add_one, List.take_add_one, h, hx, hy, e]

/-! slices that are filled -/
def fill {α : Type} (f : α → List AV) (z : List AV) (l : List α) (i : Nat) : List (List AV) := (l.take i).map f ++ List.replicate (l.length - i) z
theorem fill_len {α : Type} {f : α → List AV} {z : List AV} {l : List α} {i : Nat} (h : i ≤ l.length) : (fill f z l i).length = l.length := by simp [fill]; omega
theorem fill_at {α : Type} {f : α → List AV} {z : List AV} {l : List α} {i : Nat} (h : i < l.length) : (fill f z l i)[i]? = some z := by
  unfold fill
  rw [List.getElem?_append_right (by simp; omega), List.getElem?_replicate, if_pos (by simp; omega)]
theorem fill_set {α : Type} {f : α → List AV} {z : List AV} {l : List α} {i : Nat} {x : α} (h : l[i]? = some x) : (fill f z l i).set i (f x) = fill f z l (i + 1) := by
  obtain ⟨hi, hx⟩ := List.getElem?_eq_some_iff.1 h
  unfold fill
  have e : l.length - i = (l.length - (i + 1)) + 1 := by omega
  rw [e, List.replicate_succ, List.set_append, if_neg (by simp; omega), List.take_add_one, h]
  have e2 : i - ((l.take i).map f).length = 0 := by simp; omega
  rw [e2]
  simp
theorem fill_zero {α : Type} (f : α → List AV) (z : List AV) (l : List α) : fill f z l 0 = List.replicate l.length z := by simp [fill]
theorem fill_end {α : Type} {f : α → List AV} {z : List AV} {l : List α} {i : Nat} (h : l.length ≤ i) : fill f z l i = l.map f := by
  unfold fill; rw [List.take_of_length_le h, show l.length - i = 0 by omega]; simp
theorem fill_ids {α : Type} {f : α → List AV} {z : List AV} {l : List α} {i : Nat} (hf : ∀ x, idsL (f x) = []) (hz : idsL z = []) : (fill f z l i).flatMap idsL = [] := by
  unfold fill
  rw [List.flatMap_append, flatids hf]
  simp [hz]

def TStep.gok (x : TStep) : Prop := x.name.length ≤ 9223372036854775807 ∧ x.cond.length ≤ 9223372036854775807 ∧ x.expr.length ≤ 9223372036854775807
def TGNode.gok (x : TGNode) : Prop := x.name.length ≤ 9223372036854775807 ∧ x.expr.length ≤ 9223372036854775807
def TFlow.gok (x : TFlow) : Prop := x.cond.length ≤ 9223372036854775807
def TGraph.gok (x : TGraph) : Prop := (x.nodes.length ≤ 9223372036854775807 ∧ ∀ e ∈ x.nodes, e.gok) ∧ (x.flows.length ≤ 9223372036854775807 ∧ ∀ e ∈ x.flows, e.gok)
def TChart.gok (x : TChart) : Prop := x.vars.length ≤ 9223372036854775807 ∧ x.acts.length ≤ 9223372036854775807 ∧ x.dues.length ≤ 9223372036854775807
def TProc.gok (x : TProc) : Prop := (x.steps.length ≤ 9223372036854775807 ∧ ∀ e ∈ x.steps, e.gok)
def TInst.gok (x : TInst) : Prop := x.chart.gok
end Go.AM
namespace Go.AM
open Go.Proofs

def i2 : TInfo := ⟨(.int .i64), 1, 8, some [.int .i64 0], false⟩
theorem tyok2 : TOk1 Try.prog 2 i2 := tok1 Try.typeInfo2 rfl rfl (tz1 _ rfl rfl rfl rfl) Try.underlying2 (fun h => absurd h (by decide))
def i3 : TInfo := ⟨(.int .i64), 1, 8, some [.int .i64 0], false⟩
theorem tyok3 : TOk1 Try.prog 3 i3 := tok1 Try.typeInfo3 rfl rfl (tz1 _ rfl rfl rfl rfl) Try.underlying3 (fun h => absurd h (by decide))
def i4 : TInfo := ⟨.bool, 1, 1, some [.bool false], false⟩
theorem tyok4 : TOk1 Try.prog 4 i4 := tok1 Try.typeInfo4 rfl rfl (tz1 _ rfl rfl rfl rfl) Try.underlying4 (fun h => absurd h (by decide))
def i5 : TInfo := ⟨(.int .u8), 1, 1, some [.int .u8 0], false⟩
theorem tyok5 : TOk1 Try.prog 5 i5 := tok1 Try.typeInfo5 rfl rfl (tz1 _ rfl rfl rfl rfl) Try.underlying5 (fun h => absurd h (by decide))
def i9 : TInfo := ⟨.str, 1, 16, some [.str []], false⟩
theorem tyok9 : TOk1 Try.prog 9 i9 := tok1 Try.typeInfo9 rfl rfl (tz1 _ rfl rfl rfl rfl) Try.underlying9 (fun h => absurd h (by decide))
def i21 : TInfo := ⟨(.int .i32), 1, 4, some [.int .i32 0], false⟩
theorem tyok21 : TOk1 Try.prog 21 i21 := tok1 Try.typeInfo21 rfl rfl (tz1 _ rfl rfl rfl rfl) Try.underlying21 (fun h => absurd h (by decide))
def i22 : TInfo := ⟨(.slice 51), 1, 24, some [.nils], false⟩
theorem tyok22 : TOk1 Try.prog 22 i22 := tok1 Try.typeInfo22 rfl rfl (tz1 _ rfl rfl rfl rfl) Try.underlying22 (fun h => absurd h (by decide))
def i24 : TInfo := ⟨(.slice 56), 1, 24, some [.nils], false⟩
theorem tyok24 : TOk1 Try.prog 24 i24 := tok1 Try.typeInfo24 rfl rfl (tz1 _ rfl rfl rfl rfl) Try.underlying24 (fun h => absurd h (by decide))
def i26 : TInfo := ⟨(.struct [(0, 2), (1, 24)]), 2, 32, some [.int .i64 0, .nils], false⟩
theorem tyok26 : TOk1 Try.prog 26 i26 := tok1 Try.typeInfo26 rfl rfl (tz1 _ rfl rfl rfl rfl) (kstruct Try.underlying26 rfl) (fun h => absurd h (by decide))
def i35 : TInfo := ⟨(.struct [(0, 2), (1, 2)]), 2, 16, some [.int .i64 0, .int .i64 0], true⟩
theorem tyok35 : TOk1 Try.prog 35 i35 := tok1 Try.typeInfo35 rfl rfl (tz1 _ rfl rfl rfl rfl) (kstruct Try.underlying35 rfl) (fun _ => flatEq (fs := [{ name := "Code", type := 2, offset := 0, embedded := false, tag := "", pkgPath := "", byteOffset := 0 }, { name := "Value", type := 2, offset := 1, embedded := false, tag := "", pkgPath := "", byteOffset := 8 }]) (by kernel_rfl) (by kernel_rfl) (by kernel_rfl) (by kernel_rfl) rfl (by intro j f h; match j, h with | 0, h => (cases h; exact ⟨rfl, by decide, Try.underlying2⟩) | 1, h => (cases h; exact ⟨rfl, by decide, Try.underlying2⟩) | (n + 2), h => simp at h))
def i39 : TInfo := ⟨(.slice 101), 1, 24, some [.nils], false⟩
theorem tyok39 : TOk1 Try.prog 39 i39 := tok1 Try.typeInfo39 rfl rfl (tz1 _ rfl rfl rfl rfl) Try.underlying39 (fun h => absurd h (by decide))
def i40 : TInfo := ⟨(.slice 113), 1, 24, some [.nils], false⟩
theorem tyok40 : TOk1 Try.prog 40 i40 := tok1 Try.typeInfo40 rfl rfl (tz1 _ rfl rfl rfl rfl) Try.underlying40 (fun h => absurd h (by decide))
def i42 : TInfo := ⟨(.struct [(0, 39), (1, 40)]), 2, 48, some [.nils, .nils], false⟩
theorem tyok42 : TOk1 Try.prog 42 i42 := tok1 Try.typeInfo42 rfl rfl (tz1 _ rfl rfl rfl rfl) (kstruct Try.underlying42 rfl) (fun h => absurd h (by decide))
def i44 : TInfo := ⟨(.struct [(0, 2), (1, 42)]), 3, 56, some [.int .i64 0, .nils, .nils], false⟩
theorem tyok44 : TOk1 Try.prog 44 i44 := tok1 Try.typeInfo44 rfl rfl (tz1 _ rfl rfl rfl rfl) (kstruct Try.underlying44 rfl) (fun h => absurd h (by decide))
def i49 : TInfo := ⟨(.slice 131), 1, 24, some [.nils], false⟩
theorem tyok49 : TOk1 Try.prog 49 i49 := tok1 Try.typeInfo49 rfl rfl (tz1 _ rfl rfl rfl rfl) Try.underlying49 (fun h => absurd h (by decide))
def i51 : TInfo := ⟨(.struct [(0, 2), (1, 2), (2, 9), (3, 2), (4, 49), (5, 49)]), 6, 88, some [.int .i64 0, .int .i64 0, .str [], .int .i64 0, .nils, .nils], false⟩
theorem tyok51 : TOk1 Try.prog 51 i51 := tok1 Try.typeInfo51 rfl rfl (tz1 _ rfl rfl rfl rfl) (kstruct Try.underlying51 rfl) (fun h => absurd h (by decide))
def i54 : TInfo := ⟨(.slice 97), 1, 24, some [.nils], false⟩
theorem tyok54 : TOk1 Try.prog 54 i54 := tok1 Try.typeInfo54 rfl rfl (tz1 _ rfl rfl rfl rfl) Try.underlying54 (fun h => absurd h (by decide))
def i56 : TInfo := ⟨(.struct [(0, 2), (1, 2), (2, 9), (3, 2), (4, 54), (5, 54)]), 6, 88, some [.int .i64 0, .int .i64 0, .str [], .int .i64 0, .nils, .nils], false⟩
theorem tyok56 : TOk1 Try.prog 56 i56 := tok1 Try.typeInfo56 rfl rfl (tz1 _ rfl rfl rfl rfl) (kstruct Try.underlying56 rfl) (fun h => absurd h (by decide))
def i58 : TInfo := ⟨(.slice 60), 1, 24, some [.nils], false⟩
theorem tyok58 : TOk1 Try.prog 58 i58 := tok1 Try.typeInfo58 rfl rfl (tz1 _ rfl rfl rfl rfl) Try.underlying58 (fun h => absurd h (by decide))
def i60 : TInfo := ⟨(.struct [(0, 56), (6, 58)]), 7, 112, some [.int .i64 0, .int .i64 0, .str [], .int .i64 0, .nils, .nils, .nils], false⟩
theorem tyok60 : TOk1 Try.prog 60 i60 := tok1 Try.typeInfo60 rfl rfl (tz1 _ rfl rfl rfl rfl) (kstruct Try.underlying60 rfl) (fun h => absurd h (by decide))
def i69 : TInfo := ⟨(.pointer 42), 1, 8, some [.nilp], false⟩
theorem tyok69 : TOk1 Try.prog 69 i69 := tok1 Try.typeInfo69 rfl rfl (tz1 _ rfl rfl rfl rfl) Try.underlying69 (fun h => absurd h (by decide))
def i80 : TInfo := ⟨(.slice 82), 1, 24, some [.nils], false⟩
theorem tyok80 : TOk1 Try.prog 80 i80 := tok1 Try.typeInfo80 rfl rfl (tz1 _ rfl rfl rfl rfl) Try.underlying80 (fun h => absurd h (by decide))
def i82 : TInfo := ⟨(.struct [(0, 56), (6, 80)]), 7, 112, some [.int .i64 0, .int .i64 0, .str [], .int .i64 0, .nils, .nils, .nils], false⟩
theorem tyok82 : TOk1 Try.prog 82 i82 := tok1 Try.typeInfo82 rfl rfl (tz1 _ rfl rfl rfl rfl) (kstruct Try.underlying82 rfl) (fun h => absurd h (by decide))
def i86 : TInfo := ⟨(.pointer 82), 1, 8, some [.nilp], false⟩
theorem tyok86 : TOk1 Try.prog 86 i86 := tok1 Try.typeInfo86 rfl rfl (tz1 _ rfl rfl rfl rfl) Try.underlying86 (fun h => absurd h (by decide))
def i88 : TInfo := ⟨(.pointer 91), 1, 8, some [.nilp], false⟩
theorem tyok88 : TOk1 Try.prog 88 i88 := tok1 Try.typeInfo88 rfl rfl (tz1 _ rfl rfl rfl rfl) Try.underlying88 (fun h => absurd h (by decide))
def i89 : TInfo := ⟨(.slice 2), 1, 24, some [.nils], false⟩
theorem tyok89 : TOk1 Try.prog 89 i89 := tok1 Try.typeInfo89 rfl rfl (tz1 _ rfl rfl rfl rfl) Try.underlying89 (fun h => absurd h (by decide))
def i91 : TInfo := ⟨(.struct [(0, 89), (1, 89)]), 2, 48, some [.nils, .nils], false⟩
theorem tyok91 : TOk1 Try.prog 91 i91 := tok1 Try.typeInfo91 rfl rfl (tz1 _ rfl rfl rfl rfl) (kstruct Try.underlying91 rfl) (fun h => absurd h (by decide))
def i97 : TInfo := ⟨(.struct [(0, 2), (1, 2), (2, 2), (3, 2)]), 4, 32, some [.int .i64 0, .int .i64 0, .int .i64 0, .int .i64 0], true⟩
theorem tyok97 : TOk1 Try.prog 97 i97 := tok1 Try.typeInfo97 rfl rfl (tz1 _ rfl rfl rfl rfl) (kstruct Try.underlying97 rfl) (fun _ => flatEq (fs := [{ name := "Kind", type := 2, offset := 0, embedded := false, tag := "", pkgPath := "", byteOffset := 0 }, { name := "Value", type := 2, offset := 1, embedded := false, tag := "", pkgPath := "", byteOffset := 8 }, { name := "Left", type := 2, offset := 2, embedded := false, tag := "", pkgPath := "", byteOffset := 16 }, { name := "Right", type := 2, offset := 3, embedded := false, tag := "", pkgPath := "", byteOffset := 24 }]) (by kernel_rfl) (by kernel_rfl) (by kernel_rfl) (by kernel_rfl) rfl (by intro j f h; match j, h with | 0, h => (cases h; exact ⟨rfl, by decide, Try.underlying2⟩) | 1, h => (cases h; exact ⟨rfl, by decide, Try.underlying2⟩) | 2, h => (cases h; exact ⟨rfl, by decide, Try.underlying2⟩) | 3, h => (cases h; exact ⟨rfl, by decide, Try.underlying2⟩) | (n + 4), h => simp at h))
def i99 : TInfo := ⟨(.slice 5), 1, 24, some [.nils], false⟩
theorem tyok99 : TOk1 Try.prog 99 i99 := tok1 Try.typeInfo99 rfl rfl (tz1 _ rfl rfl rfl rfl) Try.underlying99 (fun h => absurd h (by decide))
def i101 : TInfo := ⟨(.struct [(0, 2), (1, 2), (2, 9), (3, 2), (4, 54)]), 5, 64, some [.int .i64 0, .int .i64 0, .str [], .int .i64 0, .nils], false⟩
theorem tyok101 : TOk1 Try.prog 101 i101 := tok1 Try.typeInfo101 rfl rfl (tz1 _ rfl rfl rfl rfl) (kstruct Try.underlying101 rfl) (fun h => absurd h (by decide))
def i104 : TInfo := ⟨(.pointer 106), 1, 8, some [.nilp], false⟩
theorem tyok104 : TOk1 Try.prog 104 i104 := tok1 Try.typeInfo104 rfl rfl (tz1 _ rfl rfl rfl rfl) Try.underlying104 (fun h => absurd h (by decide))
def i106 : TInfo := ⟨(.struct [(0, 24), (1, 42)]), 3, 72, some [.nils, .nils, .nils], false⟩
theorem tyok106 : TOk1 Try.prog 106 i106 := tok1 Try.typeInfo106 rfl rfl (tz1 _ rfl rfl rfl rfl) (kstruct Try.underlying106 rfl) (fun h => absurd h (by decide))
def i113 : TInfo := ⟨(.struct [(0, 2), (1, 2), (2, 54)]), 3, 40, some [.int .i64 0, .int .i64 0, .nils], false⟩
theorem tyok113 : TOk1 Try.prog 113 i113 := tok1 Try.typeInfo113 rfl rfl (tz1 _ rfl rfl rfl rfl) (kstruct Try.underlying113 rfl) (fun h => absurd h (by decide))
def i123 : TInfo := ⟨(.pointer 56), 1, 8, some [.nilp], false⟩
theorem tyok123 : TOk1 Try.prog 123 i123 := tok1 Try.typeInfo123 rfl rfl (tz1 _ rfl rfl rfl rfl) Try.underlying123 (fun h => absurd h (by decide))
def i131 : TInfo := ⟨(.struct [(0, 2), (1, 2), (2, 2), (3, 2)]), 4, 32, some [.int .i64 0, .int .i64 0, .int .i64 0, .int .i64 0], true⟩
theorem tyok131 : TOk1 Try.prog 131 i131 := tok1 Try.typeInfo131 rfl rfl (tz1 _ rfl rfl rfl rfl) (kstruct Try.underlying131 rfl) (fun _ => flatEq (fs := [{ name := "Kind", type := 2, offset := 0, embedded := false, tag := "", pkgPath := "", byteOffset := 0 }, { name := "Value", type := 2, offset := 1, embedded := false, tag := "", pkgPath := "", byteOffset := 8 }, { name := "Left", type := 2, offset := 2, embedded := false, tag := "", pkgPath := "", byteOffset := 16 }, { name := "Right", type := 2, offset := 3, embedded := false, tag := "", pkgPath := "", byteOffset := 24 }]) (by kernel_rfl) (by kernel_rfl) (by kernel_rfl) (by kernel_rfl) rfl (by intro j f h; match j, h with | 0, h => (cases h; exact ⟨rfl, by decide, Try.underlying2⟩) | 1, h => (cases h; exact ⟨rfl, by decide, Try.underlying2⟩) | 2, h => (cases h; exact ⟨rfl, by decide, Try.underlying2⟩) | 3, h => (cases h; exact ⟨rfl, by decide, Try.underlying2⟩) | (n + 4), h => simp at h))
def i144 : TInfo := ⟨(.pointer 97), 1, 8, some [.nilp], false⟩
theorem tyok144 : TOk1 Try.prog 144 i144 := tok1 Try.typeInfo144 rfl rfl (tz1 _ rfl rfl rfl rfl) Try.underlying144 (fun h => absurd h (by decide))
def i153 : TInfo := ⟨(.int .u64), 1, 8, some [.int .u64 0], false⟩
theorem tyok153 : TOk1 Try.prog 153 i153 := tok1 Try.typeInfo153 rfl rfl (tz1 _ rfl rfl rfl rfl) Try.underlying153 (fun h => absurd h (by decide))
def i161 : TInfo := ⟨(.int .u32), 1, 4, some [.int .u32 0], false⟩
theorem tyok161 : TOk1 Try.prog 161 i161 := tok1 Try.typeInfo161 rfl rfl (tz1 _ rfl rfl rfl rfl) Try.underlying161 (fun h => absurd h (by decide))
def i165 : TInfo := ⟨(.pointer 5), 1, 8, some [.nilp], false⟩
theorem tyok165 : TOk1 Try.prog 165 i165 := tok1 Try.typeInfo165 rfl rfl (tz1 _ rfl rfl rfl rfl) Try.underlying165 (fun h => absurd h (by decide))
def ti : TI := tiAdd 2 i2 (tiAdd 3 i3 (tiAdd 4 i4 (tiAdd 5 i5 (tiAdd 9 i9 (tiAdd 21 i21 (tiAdd 22 i22 (tiAdd 24 i24 (tiAdd 26 i26 (tiAdd 35 i35 (tiAdd 39 i39 (tiAdd 40 i40 (tiAdd 42 i42 (tiAdd 44 i44 (tiAdd 49 i49 (tiAdd 51 i51 (tiAdd 54 i54 (tiAdd 56 i56 (tiAdd 58 i58 (tiAdd 60 i60 (tiAdd 69 i69 (tiAdd 80 i80 (tiAdd 82 i82 (tiAdd 86 i86 (tiAdd 88 i88 (tiAdd 89 i89 (tiAdd 91 i91 (tiAdd 97 i97 (tiAdd 99 i99 (tiAdd 101 i101 (tiAdd 104 i104 (tiAdd 106 i106 (tiAdd 113 i113 (tiAdd 123 i123 (tiAdd 131 i131 (tiAdd 144 i144 (tiAdd 153 i153 (tiAdd 161 i161 (tiAdd 165 i165 (fun _ => none)))))))))))))))))))))))))))))))))))))))
theorem tiOk : TOk Try.prog ti := tok_add tyok2 (tok_add tyok3 (tok_add tyok4 (tok_add tyok5 (tok_add tyok9 (tok_add tyok21 (tok_add tyok22 (tok_add tyok24 (tok_add tyok26 (tok_add tyok35 (tok_add tyok39 (tok_add tyok40 (tok_add tyok42 (tok_add tyok44 (tok_add tyok49 (tok_add tyok51 (tok_add tyok54 (tok_add tyok56 (tok_add tyok58 (tok_add tyok60 (tok_add tyok69 (tok_add tyok80 (tok_add tyok82 (tok_add tyok86 (tok_add tyok88 (tok_add tyok89 (tok_add tyok91 (tok_add tyok97 (tok_add tyok99 (tok_add tyok101 (tok_add tyok104 (tok_add tyok106 (tok_add tyok113 (tok_add tyok123 (tok_add tyok131 (tok_add tyok144 (tok_add tyok153 (tok_add tyok161 (tok_add tyok165 (tok_nil)))))))))))))))))))))))))))))))))))))))
@[go_sem] theorem ti_2 : ti 2 = some ⟨(.int .i64), 1, 8, some [.int .i64 0], false⟩ := rfl
@[go_sem] theorem ti_3 : ti 3 = some ⟨(.int .i64), 1, 8, some [.int .i64 0], false⟩ := rfl
@[go_sem] theorem ti_4 : ti 4 = some ⟨.bool, 1, 1, some [.bool false], false⟩ := rfl
@[go_sem] theorem ti_5 : ti 5 = some ⟨(.int .u8), 1, 1, some [.int .u8 0], false⟩ := rfl
@[go_sem] theorem ti_9 : ti 9 = some ⟨.str, 1, 16, some [.str []], false⟩ := rfl
@[go_sem] theorem ti_21 : ti 21 = some ⟨(.int .i32), 1, 4, some [.int .i32 0], false⟩ := rfl
@[go_sem] theorem ti_22 : ti 22 = some ⟨(.slice 51), 1, 24, some [.nils], false⟩ := rfl
@[go_sem] theorem ti_24 : ti 24 = some ⟨(.slice 56), 1, 24, some [.nils], false⟩ := rfl
@[go_sem] theorem ti_26 : ti 26 = some ⟨(.struct [(0, 2), (1, 24)]), 2, 32, some [.int .i64 0, .nils], false⟩ := rfl
@[go_sem] theorem ti_35 : ti 35 = some ⟨(.struct [(0, 2), (1, 2)]), 2, 16, some [.int .i64 0, .int .i64 0], true⟩ := rfl
@[go_sem] theorem ti_39 : ti 39 = some ⟨(.slice 101), 1, 24, some [.nils], false⟩ := rfl
@[go_sem] theorem ti_40 : ti 40 = some ⟨(.slice 113), 1, 24, some [.nils], false⟩ := rfl
@[go_sem] theorem ti_42 : ti 42 = some ⟨(.struct [(0, 39), (1, 40)]), 2, 48, some [.nils, .nils], false⟩ := rfl
@[go_sem] theorem ti_44 : ti 44 = some ⟨(.struct [(0, 2), (1, 42)]), 3, 56, some [.int .i64 0, .nils, .nils], false⟩ := rfl
@[go_sem] theorem ti_49 : ti 49 = some ⟨(.slice 131), 1, 24, some [.nils], false⟩ := rfl
@[go_sem] theorem ti_51 : ti 51 = some ⟨(.struct [(0, 2), (1, 2), (2, 9), (3, 2), (4, 49), (5, 49)]), 6, 88, some [.int .i64 0, .int .i64 0, .str [], .int .i64 0, .nils, .nils], false⟩ := rfl
@[go_sem] theorem ti_54 : ti 54 = some ⟨(.slice 97), 1, 24, some [.nils], false⟩ := rfl
@[go_sem] theorem ti_56 : ti 56 = some ⟨(.struct [(0, 2), (1, 2), (2, 9), (3, 2), (4, 54), (5, 54)]), 6, 88, some [.int .i64 0, .int .i64 0, .str [], .int .i64 0, .nils, .nils], false⟩ := rfl
@[go_sem] theorem ti_58 : ti 58 = some ⟨(.slice 60), 1, 24, some [.nils], false⟩ := rfl
@[go_sem] theorem ti_60 : ti 60 = some ⟨(.struct [(0, 56), (6, 58)]), 7, 112, some [.int .i64 0, .int .i64 0, .str [], .int .i64 0, .nils, .nils, .nils], false⟩ := rfl
@[go_sem] theorem ti_69 : ti 69 = some ⟨(.pointer 42), 1, 8, some [.nilp], false⟩ := rfl
@[go_sem] theorem ti_80 : ti 80 = some ⟨(.slice 82), 1, 24, some [.nils], false⟩ := rfl
@[go_sem] theorem ti_82 : ti 82 = some ⟨(.struct [(0, 56), (6, 80)]), 7, 112, some [.int .i64 0, .int .i64 0, .str [], .int .i64 0, .nils, .nils, .nils], false⟩ := rfl
@[go_sem] theorem ti_86 : ti 86 = some ⟨(.pointer 82), 1, 8, some [.nilp], false⟩ := rfl
@[go_sem] theorem ti_88 : ti 88 = some ⟨(.pointer 91), 1, 8, some [.nilp], false⟩ := rfl
@[go_sem] theorem ti_89 : ti 89 = some ⟨(.slice 2), 1, 24, some [.nils], false⟩ := rfl
@[go_sem] theorem ti_91 : ti 91 = some ⟨(.struct [(0, 89), (1, 89)]), 2, 48, some [.nils, .nils], false⟩ := rfl
@[go_sem] theorem ti_97 : ti 97 = some ⟨(.struct [(0, 2), (1, 2), (2, 2), (3, 2)]), 4, 32, some [.int .i64 0, .int .i64 0, .int .i64 0, .int .i64 0], true⟩ := rfl
@[go_sem] theorem ti_99 : ti 99 = some ⟨(.slice 5), 1, 24, some [.nils], false⟩ := rfl
@[go_sem] theorem ti_101 : ti 101 = some ⟨(.struct [(0, 2), (1, 2), (2, 9), (3, 2), (4, 54)]), 5, 64, some [.int .i64 0, .int .i64 0, .str [], .int .i64 0, .nils], false⟩ := rfl
@[go_sem] theorem ti_104 : ti 104 = some ⟨(.pointer 106), 1, 8, some [.nilp], false⟩ := rfl
@[go_sem] theorem ti_106 : ti 106 = some ⟨(.struct [(0, 24), (1, 42)]), 3, 72, some [.nils, .nils, .nils], false⟩ := rfl
@[go_sem] theorem ti_113 : ti 113 = some ⟨(.struct [(0, 2), (1, 2), (2, 54)]), 3, 40, some [.int .i64 0, .int .i64 0, .nils], false⟩ := rfl
@[go_sem] theorem ti_123 : ti 123 = some ⟨(.pointer 56), 1, 8, some [.nilp], false⟩ := rfl
@[go_sem] theorem ti_131 : ti 131 = some ⟨(.struct [(0, 2), (1, 2), (2, 2), (3, 2)]), 4, 32, some [.int .i64 0, .int .i64 0, .int .i64 0, .int .i64 0], true⟩ := rfl
@[go_sem] theorem ti_144 : ti 144 = some ⟨(.pointer 97), 1, 8, some [.nilp], false⟩ := rfl
@[go_sem] theorem ti_153 : ti 153 = some ⟨(.int .u64), 1, 8, some [.int .u64 0], false⟩ := rfl
@[go_sem] theorem ti_161 : ti 161 = some ⟨(.int .u32), 1, 4, some [.int .u32 0], false⟩ := rfl
@[go_sem] theorem ti_165 : ti 165 = some ⟨(.pointer 5), 1, 8, some [.nilp], false⟩ := rfl

section
variable {st : St} {K : Exit → St → Prop} {id : Nat} {ops : Array Oper} {draw : Bool} {y : Code} {K' : Exit → St → Prop}
theorem rg (ks : List Nat) (h : ∀ k : St → Prop, (∀ s, AW Try.prog y s K → k s) → opsGo Try.prog ti (fun _ => []) ops 0 ops.toList st (fun es s => Chk draw ops es ∧ k (s.keep ks)) .mk) : AW Try.prog (.seq (.region id ops draw) y) st K := AW.reg tiOk _ ks h
theorem rgN (ks : List Nat) (hK : ∀ s, AW Try.prog y s K' → K .normal s) (h : ∀ k : St → Prop, (∀ s, AW Try.prog y s K' → k s) → opsGo Try.prog ti (fun _ => []) ops 0 ops.toList st (fun es s => Chk draw ops es ∧ k (s.keep ks)) .mk) : AW Try.prog (.region id ops draw) st K := AW.regN tiOk _ ks hK h
theorem rg0 (ks : List Nat) (h : ∀ k : St → Prop, (∀ s, AW Try.prog y s K → k s) → opsGo Try.prog ti (fun _ => []) ops 0 ops.toList st (fun es s => Chk draw ops es ∧ k (s.keep0 ks)) .mk) : AW Try.prog (.seq (.region id ops draw) y) st K := AW.reg0 tiOk _ ks h
theorem rgN0 (ks : List Nat) (hK : ∀ s, AW Try.prog y s K' → K .normal s) (h : ∀ k : St → Prop, (∀ s, AW Try.prog y s K' → k s) → opsGo Try.prog ti (fun _ => []) ops 0 ops.toList st (fun es s => Chk draw ops es ∧ k (s.keep0 ks)) .mk) : AW Try.prog (.region id ops draw) st K := AW.regN0 tiOk _ ks hK h
theorem rgK (h : ∀ k : St → Prop, (∀ s, K .normal s → k s) → opsGo Try.prog ti (fun _ => []) ops 0 ops.toList st (fun es s => Chk draw ops es ∧ k s) .mk) : AW Try.prog (.region id ops draw) st K := AW.regK tiOk _ h
theorem rgA (ks : List Nat) {st' : St} (h : AW Try.prog y st' K) (h2 : ∀ k : St → Prop, k st' → opsGo Try.prog ti (fun _ => []) ops 0 ops.toList st (fun es s => Chk draw ops es ∧ k (s.keep ks)) .mk := by (intro k hk; simp -dsimp (maxSteps := 2000000) [go_sem, -decide_eq_true_eq, -decide_eq_false_iff_not]; repeat' first | apply And.intro | exact hk | intro hg | omega | exact True.intro)) : AW Try.prog (.seq (.region id ops draw) y) st K := AW.reg tiOk _ ks fun k hk => h2 k (hk _ h)
theorem rgNA (ks : List Nat) {st' : St} (hK : ∀ s, AW Try.prog y s K' → K .normal s) (h : AW Try.prog y st' K') (h2 : ∀ k : St → Prop, k st' → opsGo Try.prog ti (fun _ => []) ops 0 ops.toList st (fun es s => Chk draw ops es ∧ k (s.keep ks)) .mk := by (intro k hk; simp -dsimp (maxSteps := 2000000) [go_sem, -decide_eq_true_eq, -decide_eq_false_iff_not]; repeat' first | apply And.intro | exact hk | intro hg | omega | exact True.intro)) : AW Try.prog (.region id ops draw) st K := AW.regN tiOk _ ks hK fun k hk => h2 k (hk _ h)
theorem rgKA {st' : St} (h : K .normal st') (h2 : ∀ k : St → Prop, k st' → opsGo Try.prog ti (fun _ => []) ops 0 ops.toList st (fun es s => Chk draw ops es ∧ k s) .mk := by (intro k hk; simp -dsimp (maxSteps := 2000000) [go_sem, -decide_eq_true_eq, -decide_eq_false_iff_not]; repeat' first | apply And.intro | exact hk | intro hg | omega | exact True.intro)) : AW Try.prog (.region id ops draw) st K := AW.regK tiOk _ fun k hk => h2 k (hk _ h)
theorem rgE (ow : Nat → List Nat) (h : ∀ k : St → Prop, (∀ s, (∃ _ : True, K .normal s) → k s) → opsGo Try.prog ti ow ops 0 ops.toList st (fun es s => Chk draw ops es ∧ k s) .mk) : AW Try.prog (.region id ops draw) st K := AW.regK tiOk ow fun k hk => h k fun s hs => hs.elim fun _ h => hk s h
theorem rt {rs : List ResultVar} {ow : List Nat} {muts : List (Nat × AV)} {res : AV} (h : (muts.all fun q => match st.slot q.1 with | some x => !isFn x | none => true) = true ∧ finOk ti rs ow muts st res)
    (hk : (muts.all fun q => match st.slot q.1 with | some x => !isFn x | none => true) = true ∧ finOk ti rs ow muts st res → K .ret st := by exact fun h => And.intro (.inr rfl) h) : AW Try.prog .ret st K := AW.retF h hk
end
end Go.AM
namespace Go.AM
open Go.Proofs
open Go.ChangeShapes Go.WideShapes Go.RowKit

abbrev rd_2 := Rd.int (t := 2) (cellsOf_of tiOk ti_2) Try.underlying2
abbrev rd_9 := Rd.str (t := 9) (cellsOf_of tiOk ti_9) Try.underlying9
theorem rd_131 : Rd Try.prog 131 TNode TNode.ro (fun _ => True) 4 := by
  refine ⟨cellsOf_of tiOk ti_131, ?_⟩
  intro H enc w base spare held fuel cs x h
  obtain ⟨xs, n, rfl, rfl, hl, hn, hf⟩ := DataW.trod_struct Try.underlying131 h
  have hl : cs.length = 4 := by rw [hl]; exact cellsOf_of tiOk ti_131
  have e0 : DataW.trod enc Try.prog w base spare held n 2 ((cs.drop 0).take (Try.prog.cellsOf 2)) = xs[0]? := hf 0 _ rfl
  obtain ⟨y0, hy0⟩ : ∃ y, xs[0]? = some y := ⟨xs[0]'(by rw [hn]; decide), List.getElem?_eq_getElem _⟩
  rw [hy0, rd_2.size] at e0
  obtain ⟨a0, o0, r0, _⟩ := rd_2.read enc w base spare held n _ _ e0
  have e1 : DataW.trod enc Try.prog w base spare held n 2 ((cs.drop 1).take (Try.prog.cellsOf 2)) = xs[1]? := hf 1 _ rfl
  obtain ⟨y1, hy1⟩ : ∃ y, xs[1]? = some y := ⟨xs[1]'(by rw [hn]; decide), List.getElem?_eq_getElem _⟩
  rw [hy1, rd_2.size] at e1
  obtain ⟨a1, o1, r1, _⟩ := rd_2.read enc w base spare held n _ _ e1
  have e2 : DataW.trod enc Try.prog w base spare held n 2 ((cs.drop 2).take (Try.prog.cellsOf 2)) = xs[2]? := hf 2 _ rfl
  obtain ⟨y2, hy2⟩ : ∃ y, xs[2]? = some y := ⟨xs[2]'(by rw [hn]; decide), List.getElem?_eq_getElem _⟩
  rw [hy2, rd_2.size] at e2
  obtain ⟨a2, o2, r2, _⟩ := rd_2.read enc w base spare held n _ _ e2
  have e3 : DataW.trod enc Try.prog w base spare held n 2 ((cs.drop 3).take (Try.prog.cellsOf 2)) = xs[3]? := hf 3 _ rfl
  obtain ⟨y3, hy3⟩ : ∃ y, xs[3]? = some y := ⟨xs[3]'(by rw [hn]; decide), List.getElem?_eq_getElem _⟩
  rw [hy3, rd_2.size] at e3
  obtain ⟨a3, o3, r3, _⟩ := rd_2.read enc w base spare held n _ _ e3
  refine ⟨⟨a0, a1, a2, a3⟩, trivial, ?_, hl⟩
  exact RdC.cons (o := 0) (s := 1) r0 (RdC.cons (o := 1) (s := 1) r1 (RdC.cons (o := 2) (s := 1) r2 (RdC.cons (o := 3) (s := 1) r3 (RdC.nil (List.drop_eq_nil_of_le (show cs.length ≤ 4 by omega))))))
abbrev rd_49 := Rd.slice (t := 49) rd_131 (by decide) (cellsOf_of tiOk ti_49) Try.underlying49
theorem rd_51 : Rd Try.prog 51 TStep TStep.ro TStep.gok 6 := by
  refine ⟨cellsOf_of tiOk ti_51, ?_⟩
  intro H enc w base spare held fuel cs x h
  obtain ⟨xs, n, rfl, rfl, hl, hn, hf⟩ := DataW.trod_struct Try.underlying51 h
  have hl : cs.length = 6 := by rw [hl]; exact cellsOf_of tiOk ti_51
  have e0 : DataW.trod enc Try.prog w base spare held n 2 ((cs.drop 0).take (Try.prog.cellsOf 2)) = xs[0]? := hf 0 _ rfl
  obtain ⟨y0, hy0⟩ : ∃ y, xs[0]? = some y := ⟨xs[0]'(by rw [hn]; decide), List.getElem?_eq_getElem _⟩
  rw [hy0, rd_2.size] at e0
  obtain ⟨a0, o0, r0, _⟩ := rd_2.read enc w base spare held n _ _ e0
  have e1 : DataW.trod enc Try.prog w base spare held n 2 ((cs.drop 1).take (Try.prog.cellsOf 2)) = xs[1]? := hf 1 _ rfl
  obtain ⟨y1, hy1⟩ : ∃ y, xs[1]? = some y := ⟨xs[1]'(by rw [hn]; decide), List.getElem?_eq_getElem _⟩
  rw [hy1, rd_2.size] at e1
  obtain ⟨a1, o1, r1, _⟩ := rd_2.read enc w base spare held n _ _ e1
  have e2 : DataW.trod enc Try.prog w base spare held n 9 ((cs.drop 2).take (Try.prog.cellsOf 9)) = xs[2]? := hf 2 _ rfl
  obtain ⟨y2, hy2⟩ : ∃ y, xs[2]? = some y := ⟨xs[2]'(by rw [hn]; decide), List.getElem?_eq_getElem _⟩
  rw [hy2, rd_9.size] at e2
  obtain ⟨a2, o2, r2, _⟩ := rd_9.read enc w base spare held n _ _ e2
  have e3 : DataW.trod enc Try.prog w base spare held n 2 ((cs.drop 3).take (Try.prog.cellsOf 2)) = xs[3]? := hf 3 _ rfl
  obtain ⟨y3, hy3⟩ : ∃ y, xs[3]? = some y := ⟨xs[3]'(by rw [hn]; decide), List.getElem?_eq_getElem _⟩
  rw [hy3, rd_2.size] at e3
  obtain ⟨a3, o3, r3, _⟩ := rd_2.read enc w base spare held n _ _ e3
  have e4 : DataW.trod enc Try.prog w base spare held n 49 ((cs.drop 4).take (Try.prog.cellsOf 49)) = xs[4]? := hf 4 _ rfl
  obtain ⟨y4, hy4⟩ : ∃ y, xs[4]? = some y := ⟨xs[4]'(by rw [hn]; decide), List.getElem?_eq_getElem _⟩
  rw [hy4, rd_49.size] at e4
  obtain ⟨a4, o4, r4, _⟩ := rd_49.read enc w base spare held n _ _ e4
  have e5 : DataW.trod enc Try.prog w base spare held n 49 ((cs.drop 5).take (Try.prog.cellsOf 49)) = xs[5]? := hf 5 _ rfl
  obtain ⟨y5, hy5⟩ : ∃ y, xs[5]? = some y := ⟨xs[5]'(by rw [hn]; decide), List.getElem?_eq_getElem _⟩
  rw [hy5, rd_49.size] at e5
  obtain ⟨a5, o5, r5, _⟩ := rd_49.read enc w base spare held n _ _ e5
  refine ⟨⟨a0, a1, a2, a3, a4, a5⟩, ⟨o2, o4.1, o5.1⟩, ?_, hl⟩
  exact RdC.cons (o := 0) (s := 1) r0 (RdC.cons (o := 1) (s := 1) r1 (RdC.cons (o := 2) (s := 1) r2 (RdC.cons (o := 3) (s := 1) r3 (RdC.cons (o := 4) (s := 1) r4 (RdC.cons (o := 5) (s := 1) r5 (RdC.nil (List.drop_eq_nil_of_le (show cs.length ≤ 6 by omega))))))))
abbrev rd_22 := Rd.slice (t := 22) rd_51 (by decide) (cellsOf_of tiOk ti_22) Try.underlying22
end Go.AM
namespace Go.AM

/-! chapter 1 -/
def inR (n lo hi : Int) : Bool := decide (lo ≤ n) && decide (n ≤ hi)
theorem inR_iff {n lo hi : Int} : inR n lo hi = true ↔ lo ≤ n ∧ n ≤ hi := by simp [inR]
theorem inR_not {n lo hi : Int} : inR n lo hi = false ↔ ¬ (lo ≤ n ∧ n ≤ hi) := by rw [← inR_iff]; simp
theorem all_take {α : Type} {s : List α} {p : α → Bool} {i : Nat} {x : α} (hx : s[i]? = some x) (h : (s.take i).all p = true) : (s.take (i + 1)).all p = p x := by
  rw [List.take_add_one, List.all_append, h, hx]; simp
theorem all_not {α : Type} {s : List α} {p : α → Bool} {i : Nat} {x : α} (hx : s[i]? = some x) (h : p x = false) : s.all p = false := by
  rw [List.all_eq_false]; exact ⟨x, List.mem_of_getElem? hx, by simp [h]⟩
theorem all_end {α : Type} {s : List α} {p : α → Bool} {i : Nat} (hi : s.length ≤ i) (h : (s.take i).all p = true) : s.all p = true := by rwa [List.take_of_length_le hi] at h

def firstC (l : List Int) : Int := (l.find? (fun n => decide (n ≠ 0))).getD 0
theorem firstC_step {l : List Int} {i : Nat} {x : Int} (h : l[i]? = some x) : firstC (l.drop i) = if x = 0 then firstC (l.drop (i + 1)) else x := by
  obtain ⟨hi, hx⟩ := List.getElem?_eq_some_iff.1 h
  rw [List.drop_eq_getElem_cons hi, hx]
  unfold firstC
  by_cases h0 : x = 0
  · simp [h0]
  · simp [h0]
theorem firstC_end {l : List Int} {i : Nat} (h : l.length ≤ i) : firstC (l.drop i) = 0 := by
  rw [List.drop_eq_nil_of_le h]; rfl
theorem firstC_nil : firstC [] = 0 := rfl
theorem firstC_cons (x : Int) (l : List Int) : firstC (x :: l) = if x = 0 then firstC l else x := by
  unfold firstC
  by_cases h0 : x = 0
  · simp [h0]
  · simp [h0]

/-! slices of Go's library -/
/-! chapter 3 -/
def small (n : Int) : Bool := inR n (-1000000) 1000000
/-! chapter 10 -/
end Go.AM
namespace Go.AM

/-! the first code that is not 0, of f i, f (i + 1) .. f (n - 1) -/
def scN (f : Nat → Int) : Nat → Nat → Int
  | 0, _ => 0
  | m + 1, i => if f i = 0 then scN f m (i + 1) else f i
def sc (f : Nat → Int) (n i : Nat) : Int := scN f (n - i) i
theorem sc_step {f : Nat → Int} {n i : Nat} (h : i < n) : sc f n i = if f i = 0 then sc f n (i + 1) else f i := by
  unfold sc
  rw [show n - i = (n - (i + 1)) + 1 by omega]; rfl
theorem sc_end {f : Nat → Int} {n i : Nat} (h : n ≤ i) : sc f n i = 0 := by
  unfold sc; rw [show n - i = 0 by omega]; rfl
theorem sc_go {f : Nat → Int} {n i : Nat} (h : i < n) (h0 : f i = 0) : sc f n i = sc f n (i + 1) := by rw [sc_step h, if_pos h0]
theorem sc_hit {f : Nat → Int} {n i : Nat} (h : i < n) (h0 : f i ≠ 0) : sc f n i = f i := by rw [sc_step h, if_neg h0]
theorem sc_zero {f : Nat → Int} {n : Nat} : ∀ {m i : Nat}, n - i = m → sc f n i = 0 → ∀ k, i ≤ k → k < n → f k = 0 := by
  intro m
  induction m with
  | zero => intro i hm _ k h1 h2; omega
  | succ m ih =>
    intro i hm h k h1 h2
    have hi : i < n := by omega
    rw [sc_step hi] at h
    split at h
    · rename_i h0
      rcases Nat.eq_or_lt_of_le h1 with rfl | h1
      · exact h0
      · exact ih (by omega) h k h1 h2
    · exact absurd h (by assumption)
theorem sc_all {f : Nat → Int} {n : Nat} (h : sc f n 0 = 0) : ∀ k, k < n → f k = 0 := fun k hk => sc_zero rfl h k (Nat.zero_le _) hk
/-! nodes -/
instance : Inhabited TNode := ⟨⟨0, 0, 0, 0⟩⟩
def nA (e : List TNode) (i : Nat) : TNode := e.getD i default
def isTwoB (k : Int) : Bool := inR k 3 9
/-- the code of a node at a place -/
def nodeF (n : TNode) (at_ : Int) : Int :=
  if n.kind < 1 ∨ 10 < n.kind then 1
  else if n.kind ≤ 2 then
    if n.left ≠ 0 ∨ n.right ≠ 0 then 1 else if n.val < 0 ∨ (if n.kind = 2 then 3 else 9999) < n.val then 3 else 0
  else if n.kind = 10 then
    if n.val ≠ 0 ∨ n.right ≠ 0 then 1 else if n.left < 0 ∨ at_ ≤ n.left then 3 else 0
  else if n.val ≠ 0 then 1 else if n.left < 0 ∨ at_ ≤ n.left ∨ n.right < 0 ∨ at_ ≤ n.right then 3 else 0
def nodeAt (e : List TNode) (i : Nat) : Int := nodeF (nA e i) i

/-- what is needed of the nodes: parts lie ahead -/
def PartsOk (e : List TNode) (n : Nat) : Prop := ∀ i, i < n → nodeAt e i = 0

theorem nodeF_parts {n : TNode} {i : Nat} (h : nodeF n i = 0) : (n.kind = 10 → 0 ≤ n.left ∧ n.left.toNat < i) ∧ (isTwoB n.kind = true → 0 ≤ n.left ∧ n.left.toNat < i ∧ 0 ≤ n.right ∧ n.right.toNat < i) ∧ 1 ≤ n.kind ∧ n.kind ≤ 10 ∧ (n.kind ≤ 2 ↔ (n.kind ≠ 10 ∧ isTwoB n.kind = false)) := by
  unfold nodeF at h
  split at h
  · cases h
  split at h
  · refine ⟨fun _ => by omega, fun h2 => ?_, by omega, by omega, ?_⟩
    · have := inR_iff.1 h2; omega
    · rw [isTwoB, inR_not]; omega
  split at h
  · split at h
    · cases h
    split at h
    · cases h
    · refine ⟨fun _ => by omega, fun h2 => ?_, by omega, by omega, ?_⟩
      · have := inR_iff.1 h2; omega
      · omega
  · split at h
    · cases h
    split at h
    · cases h
    · refine ⟨fun _ => by omega, fun _ => by omega, by omega, by omega, ?_⟩
      rw [isTwoB, inR_not]; omega

/-! sizes: as the program counts them -/
def sizeOf1 (e : List TNode) (s : List Int) (i : Nat) : Int :=
  let n := nA e i
  if n.kind = 10 then 1 + s.getD n.left.toNat 0 else if isTwoB n.kind then 1 + s.getD n.left.toNat 0 + s.getD n.right.toNat 0 else 1
def sizesL (e : List TNode) : Nat → List Int
  | 0 => []
  | i + 1 => sizesL e i ++ [sizeOf1 e (sizesL e i) i]
theorem sizesL_len (e : List TNode) (n : Nat) : (sizesL e n).length = n := by
  induction n with
  | zero => rfl
  | succ n ih => simp [sizesL, ih]
def szA (e : List TNode) (i : Nat) : Int := (sizesL e (i + 1)).getD i 0
theorem sizesL_get (e : List TNode) (i : Nat) : ∀ n, i < n → (sizesL e n).getD i 0 = szA e i := by
  intro n
  induction n with
  | zero => intro h; omega
  | succ n ih =>
    intro h
    rcases Nat.eq_or_lt_of_le (Nat.le_of_lt_succ h) with rfl | h'
    · rfl
    · have := ih h'
      rw [← this]
      simp [sizesL, List.getD, List.getElem?_append_left (show i < (sizesL e n).length by rw [sizesL_len]; exact h')]
theorem szA_eq (e : List TNode) (i : Nat) : szA e i = sizeOf1 e (sizesL e i) i := by
  unfold szA
  simp [sizesL, List.getD, sizesL_len]
/-- is a node out of order, as the program looks at it? -/
def wrong1 (e : List TNode) (i : Nat) : Bool :=
  let n := nA e i
  if n.kind = 10 then decide (n.left ≠ (i : Int) - 1)
  else if isTwoB n.kind then decide (n.right ≠ (i : Int) - 1) || decide (n.left ≠ (i : Int) - 1 - szA e n.right.toNat)
  else false
def wrongU (e : List TNode) (i : Nat) : Bool := (List.range i).any (wrong1 e)
theorem wrongU_step (e : List TNode) (i : Nat) : wrongU e (i + 1) = (wrongU e i || wrong1 e i) := by
  unfold wrongU; rw [List.range_succ, List.any_append]; simp

/-! the walk -/
/-- the order of a node and its parts -/
def post (e : List TNode) : Nat → Nat → List Nat
  | 0, _ => []
  | f + 1, i =>
    let n := nA e i
    if n.kind = 10 then post e f n.left.toNat ++ [i]
    else if isTwoB n.kind then post e f n.left.toNat ++ post e f n.right.toNat ++ [i]
    else [i]
def po (e : List TNode) (i : Nat) : List Nat := post e (i + 1) i
theorem post_more {e : List TNode} {n : Nat} (hp : PartsOk e n) : ∀ (f g i : Nat), i < n → i < f → i < g → post e f i = post e g i := by
  intro f
  induction f with
  | zero => intro g i _ h _; omega
  | succ f ih =>
    intro g i hn hf hg
    cases g with
    | zero => omega
    | succ g =>
      have hq := nodeF_parts (hp i hn)
      simp only [post]
      split
      · rename_i h10
        have := hq.1 h10
        rw [ih g _ (by omega) (by omega) (by omega)]
      · split
        · rename_i h2
          have := hq.2.1 h2
          rw [ih g _ (by omega) (by omega) (by omega), ih g _ (by omega) (by omega) (by omega)]
        · rfl
theorem po_eq {e : List TNode} {n i : Nat} (hp : PartsOk e n) (hi : i < n) : po e i = if (nA e i).kind = 10 then po e (nA e i).left.toNat ++ [i] else if isTwoB (nA e i).kind then po e (nA e i).left.toNat ++ po e (nA e i).right.toNat ++ [i] else [i] := by
  have hq := nodeF_parts (hp i hi)
  show post e (i + 1) i = _
  simp only [post]
  split
  · rename_i h10
    have := hq.1 h10
    rw [post_more hp i _ _ (by omega) (by omega) (Nat.lt_succ_self _)]; rfl
  · split
    · rename_i h2
      have := hq.2.1 h2
      rw [post_more hp i _ (nA e i).left.toNat (by omega) (by omega) (Nat.lt_succ_self _), post_more hp i _ (nA e i).right.toNat (by omega) (by omega) (Nat.lt_succ_self _)]; rfl
    · rfl

theorem po_len {e : List TNode} {n : Nat} (hp : PartsOk e n) : ∀ (k i : Nat), i ≤ k → i < n → ((po e i).length : Int) = szA e i ∧ 1 ≤ szA e i ∧ szA e i ≤ 2 ^ (i + 1) - 1 := by
  intro k
  induction k with
  | zero =>
    intro i hk hi
    have hq := nodeF_parts (hp i hi)
    obtain rfl : i = 0 := by omega
    rw [po_eq hp hi, szA_eq]
    unfold sizeOf1
    split
    · rename_i h10
      have := hq.1 h10; omega
    · split
      · rename_i h2
        have := hq.2.1 h2; omega
      · rename_i h1 h2; simp only [h1, h2, if_false, Bool.false_eq_true]; simp
  | succ k ih =>
    intro i hk hi
    have hq := nodeF_parts (hp i hi)
    rw [po_eq hp hi, szA_eq]
    unfold sizeOf1
    have pw : (2 : Int) ^ (i + 1) = 2 * 2 ^ i := by rw [Int.pow_succ]; omega
    have mono : ∀ j, j < i → (2 : Int) ^ (j + 1) ≤ 2 ^ i := fun j hj => by
      have := Nat.pow_le_pow_right (n := 2) (by decide) (show j + 1 ≤ i by omega)
      exact_mod_cast this
    have p1 : (1 : Int) ≤ 2 ^ i := by
      have := Nat.pow_le_pow_right (n := 2) (by decide) (Nat.zero_le i)
      exact_mod_cast this
    split
    · rename_i h10
      have hl := hq.1 h10
      have h1 := ih _ (show (nA e i).left.toNat ≤ k by omega) (by omega)
      have hm := mono _ hl.2
      simp only [h10, if_true]
      rw [sizesL_get e _ i hl.2]
      simp only [List.length_append, List.length_cons, List.length_nil]
      omega
    · split
      · rename_i h10 h2
        have hl := hq.2.1 h2
        have h1 := ih _ (show (nA e i).left.toNat ≤ k by omega) (by omega)
        have h3 := ih _ (show (nA e i).right.toNat ≤ k by omega) (by omega)
        have hm := mono _ hl.2.1
        have hm2 := mono _ hl.2.2.2
        simp only [h10, h2, if_true, if_false]
        rw [sizesL_get e _ i hl.2.1, sizesL_get e _ i hl.2.2.2]
        simp only [List.length_append, List.length_cons, List.length_nil]
        omega
      · rename_i h10 h2
        simp only [h10, h2, if_false, Bool.false_eq_true]
        simp; omega
theorem sz_bd {e : List TNode} {n i : Nat} (hp : PartsOk e n) (hi : i < n) (h16 : i ≤ 16) : 1 ≤ szA e i ∧ szA e i ≤ 131071 := by
  have h := (po_len hp i i (Nat.le_refl _) hi).2
  have : (2 : Int) ^ (i + 1) ≤ 2 ^ 17 := by
    have := Nat.pow_le_pow_right (n := 2) (by decide) (show i + 1 ≤ 17 by omega)
    exact_mod_cast this
  have e : (2 : Int) ^ 17 = 131072 := by decide
  omega

/-- a stretch of places -/
def stretch (a m : Nat) : List Nat := List.range' a m
theorem po_good {e : List TNode} {n : Nat} (hp : PartsOk e n) : ∀ (k i : Nat), i ≤ k → i < n → wrongU e (i + 1) = false → szA e i ≤ i + 1 ∧ po e i = stretch (i + 1 - (szA e i).toNat) (szA e i).toNat := by
  intro k
  induction k with
  | zero =>
    intro i hk hi hw
    have hq := nodeF_parts (hp i hi)
    obtain rfl : i = 0 := by omega
    have hs := po_len hp 0 0 (Nat.le_refl _) hi
    have hs1 : szA e 0 = 1 := by omega
    rw [hs1]
    refine ⟨by omega, ?_⟩
    rw [po_eq hp hi]
    split
    · rename_i h10
      have := hq.1 h10; omega
    · split
      · rename_i h2
        have := hq.2.1 h2; omega
      · rfl
  | succ k ih =>
    intro i hk hi hw
    have hq := nodeF_parts (hp i hi)
    rw [wrongU_step] at hw
    have hw1 : wrongU e i = false := by revert hw; cases wrongU e i <;> simp
    have hw2 : wrong1 e i = false := by revert hw; cases wrong1 e i <;> simp
    have sub : ∀ j, j < i → wrongU e (j + 1) = false := by
      intro j hj
      rw [Bool.eq_false_iff] at hw1 ⊢
      intro h; apply hw1
      unfold wrongU at h ⊢
      simp only [List.any_eq_true, List.mem_range] at h ⊢
      obtain ⟨x, h1, h2⟩ := h
      exact ⟨x, by omega, h2⟩
    have hl0 := po_len hp i i (Nat.le_refl _) hi
    have hszl : (po e i).length = (szA e i).toNat := by omega
    have he := szA_eq e i
    unfold sizeOf1 at he
    unfold wrong1 at hw2
    rw [po_eq hp hi]
    by_cases h10 : (nA e i).kind = 10
    · simp only [h10, if_true] at he hw2 ⊢
      have hl := hq.1 h10
      rw [sizesL_get e _ i hl.2] at he
      simp only [ne_eq, decide_not, Bool.not_eq_false', decide_eq_true_eq] at hw2
      have h1 := ih _ (show (nA e i).left.toNat ≤ k by omega) (by omega) (sub _ hl.2)
      have hb := (po_len hp _ _ (Nat.le_refl _) (show (nA e i).left.toNat < n by omega)).2.1
      refine ⟨by omega, ?_⟩
      rw [h1.2]
      unfold stretch
      have : (szA e i).toNat = (szA e (nA e i).left.toNat).toNat + 1 := by omega
      rw [this, List.range'_concat]
      rw [show i + 1 - ((szA e (nA e i).left.toNat).toNat + 1) = (nA e i).left.toNat + 1 - (szA e (nA e i).left.toNat).toNat by omega]
      congr 2; omega
    · by_cases h2 : isTwoB (nA e i).kind = true
      · simp only [h10, h2, if_true, if_false] at he hw2 ⊢
        have hl := hq.2.1 h2
        rw [sizesL_get e _ i hl.2.1, sizesL_get e _ i hl.2.2.2] at he
        simp only [Bool.or_eq_false_iff, ne_eq, decide_not, Bool.not_eq_false', decide_eq_true_eq] at hw2
        have h1 := ih _ (show (nA e i).left.toNat ≤ k by omega) (by omega) (sub _ hl.2.1)
        have h3 := ih _ (show (nA e i).right.toNat ≤ k by omega) (by omega) (sub _ hl.2.2.2)
        have hb := (po_len hp _ _ (Nat.le_refl _) (show (nA e i).left.toNat < n by omega)).2.1
        have hb2 := (po_len hp _ _ (Nat.le_refl _) (show (nA e i).right.toNat < n by omega)).2.1
        refine ⟨by omega, ?_⟩
        rw [h1.2, h3.2]
        unfold stretch
        generalize hA : (szA e (nA e i).left.toNat).toNat = A at *
        generalize hB : (szA e (nA e i).right.toNat).toNat = B at *
        have hC : (szA e i).toNat = A + B + 1 := by omega
        rw [hC, List.range'_concat, show A + B = B + A by omega]
        rw [show i + 1 - (B + A + 1) = (nA e i).left.toNat + 1 - A by omega]
        rw [show B + A = A + B by omega, ← List.range'_append_1]
        rw [show (nA e i).left.toNat + 1 - A + A = (nA e i).right.toNat + 1 - B by omega]
        congr 2; omega
      · simp only [h10, h2, if_false, Bool.false_eq_true] at he ⊢
        refine ⟨by omega, ?_⟩
        rw [he]
        simp [stretch]

/-- a part's order stands whole in the order -/
theorem po_infix {e : List TNode} {n : Nat} (hp : PartsOk e n) : ∀ (k r i : Nat), r ≤ k → r < n → i ∈ po e r → ∃ a b, po e r = a ++ po e i ++ b ∧ i ≤ r := by
  intro k
  induction k with
  | zero =>
    intro r i hk hr hi
    obtain rfl : r = 0 := by omega
    have hq := nodeF_parts (hp 0 hr)
    rw [po_eq hp hr] at hi
    split at hi
    · rename_i h10
      have := hq.1 h10; omega
    · split at hi
      · rename_i h2
        have := hq.2.1 h2; omega
      · simp at hi; subst hi; exact ⟨[], [], by simp, Nat.le_refl _⟩
  | succ k ih =>
    intro r i hk hr hi
    have hq := nodeF_parts (hp r hr)
    by_cases hir : i = r
    · subst hir; exact ⟨[], [], by simp, Nat.le_refl _⟩
    have e0 := po_eq hp hr
    rw [e0] at hi ⊢
    split at hi
    · rename_i h10
      have hl := hq.1 h10
      simp only [h10, if_true]
      simp only [List.mem_append, List.mem_singleton, hir, or_false] at hi
      obtain ⟨a, b, h1, h2⟩ := ih _ i (by omega) (by omega) hi
      exact ⟨a, b ++ [r], by rw [h1]; simp, by omega⟩
    · split at hi
      · rename_i h10 h2
        have hl := hq.2.1 h2
        simp only [h10, h2, if_true, if_false]
        simp only [List.mem_append, List.mem_singleton, hir, or_false] at hi
        rcases hi with hi | hi
        · obtain ⟨a, b, h1, h2⟩ := ih _ i (by omega) (by omega) hi
          exact ⟨a, b ++ po e (nA e r).right.toNat ++ [r], by rw [h1]; simp, by omega⟩
        · obtain ⟨a, b, h1, h2⟩ := ih _ i (by omega) (by omega) hi
          exact ⟨po e (nA e r).left.toNat ++ a, b ++ [r], by rw [h1]; simp, by omega⟩
      · simp at hi; exact absurd hi hir
theorem po_last {e : List TNode} {n i : Nat} (hp : PartsOk e n) (hi : i < n) : ∃ a, po e i = a ++ [i] := by
  rw [po_eq hp hi]
  split
  · exact ⟨_, rfl⟩
  · split
    · exact ⟨_, rfl⟩
    · exact ⟨[], rfl⟩
theorem range_at {n : Nat} {a b : List Nat} {i : Nat} (h : List.range n = a ++ i :: b) : a.length = i := by
  have := congrArg (fun l => l[a.length]?) h
  simp only [List.getElem?_append_right (Nat.le_refl _), Nat.sub_self, List.getElem?_cons_zero] at this
  obtain ⟨h1, h2⟩ := List.getElem?_eq_some_iff.1 this
  simpa using h2
theorem po_bad {e : List TNode} {n : Nat} (hp : PartsOk e n) (hn : 0 < n) (h : po e (n - 1) = List.range n) : wrongU e n = false ∧ szA e (n - 1) = n := by
  have hl := po_len hp (n - 1) (n - 1) (Nat.le_refl _) (by omega)
  rw [h, List.length_range] at hl
  refine ⟨?_, by omega⟩
  unfold wrongU
  rw [Bool.eq_false_iff]
  intro hw
  simp only [List.any_eq_true, List.mem_range] at hw
  obtain ⟨i, hi, hw⟩ := hw
  have hq := nodeF_parts (hp i hi)
  obtain ⟨a, b, h1, _⟩ := po_infix hp (n - 1) (n - 1) i (Nat.le_refl _) (by omega) (by rw [h]; exact List.mem_range.2 hi)
  rw [h] at h1
  unfold wrong1 at hw
  have e0 := po_eq hp hi
  by_cases h10 : (nA e i).kind = 10
  · simp only [h10, if_true] at hw e0
    have hl := hq.1 h10
    obtain ⟨c, hc⟩ := po_last hp (show (nA e i).left.toNat < n by omega)
    rw [e0, hc] at h1
    have p1 := range_at (i := i) (a := a ++ (c ++ [(nA e i).left.toNat])) (b := b) (by rw [h1]; simp)
    have p2 := range_at (i := (nA e i).left.toNat) (a := a ++ c) (b := i :: b) (by rw [h1]; simp)
    simp at p1 p2 hw
    omega
  · by_cases h2 : isTwoB (nA e i).kind = true
    · simp only [h10, h2, if_true, if_false] at hw e0
      have hl := hq.2.1 h2
      obtain ⟨c, hc⟩ := po_last hp (show (nA e i).left.toNat < n by omega)
      obtain ⟨d, hd⟩ := po_last hp (show (nA e i).right.toNat < n by omega)
      have hlen := (po_len hp _ _ (Nat.le_refl _) (show (nA e i).right.toNat < n by omega)).1
      rw [hd] at hlen
      rw [e0, hc, hd] at h1
      have p1 := range_at (i := i) (a := a ++ (c ++ [(nA e i).left.toNat]) ++ (d ++ [(nA e i).right.toNat])) (b := b) (by rw [h1]; simp)
      have p2 := range_at (i := (nA e i).left.toNat) (a := a ++ c) (b := (d ++ [(nA e i).right.toNat]) ++ i :: b) (by rw [h1]; simp)
      have p3 := range_at (i := (nA e i).right.toNat) (a := a ++ (c ++ [(nA e i).left.toNat]) ++ d) (b := i :: b) (by rw [h1]; simp)
      simp at p1 p2 p3 hw hlen
      omega
    · simp only [h10, h2, if_false, Bool.false_eq_true] at hw
/-- both tell the same -/
theorem po_iff {e : List TNode} {n : Nat} (hp : PartsOk e n) (hn : 0 < n) : po e (n - 1) = List.range n ↔ (wrongU e n = false ∧ szA e (n - 1) = n) := by
  constructor
  · exact po_bad hp hn
  · rintro ⟨h1, h2⟩
    have h := (po_good hp (n - 1) (n - 1) (Nat.le_refl _) (by omega) (by rwa [show n - 1 + 1 = n by omega])).2
    rw [h, h2]
    unfold stretch
    rw [List.range_eq_range', show n - 1 + 1 - (n : Int).toNat = 0 by omega]
    simp

/-- the walk that stops behind 16 -/
def walkC (e : List TNode) : Nat → Nat → List Nat → List Nat
  | 0, _, out => out
  | f + 1, i, out =>
    if 16 < out.length then out
    else
      let n := nA e i
      let o1 := if 2 < n.kind then walkC e f n.left.toNat out else out
      let o2 := if isTwoB n.kind then walkC e f n.right.toNat o1 else o1
      o2 ++ [i]
theorem walkC_mono {e : List TNode} : ∀ (f i : Nat) (out : List Nat), out.length ≤ (walkC e f i out).length := by
  intro f
  induction f with
  | zero => intro i out; exact Nat.le_refl _
  | succ f ih =>
    intro i out
    simp only [walkC]
    split
    · exact Nat.le_refl _
    · simp only [List.length_append, List.length_cons, List.length_nil]
      have h1 : out.length ≤ (if 2 < (nA e i).kind then walkC e f (nA e i).left.toNat out else out).length := by
        split
        · exact ih _ _
        · exact Nat.le_refl _
      generalize (if 2 < (nA e i).kind then walkC e f (nA e i).left.toNat out else out) = o1 at *
      split
      · have := ih (nA e i).right.toNat o1; omega
      · omega
theorem walkC_eq {e : List TNode} {n : Nat} (hp : PartsOk e n) : ∀ (f i : Nat) (out : List Nat), i < n → i < f → (out.length + (po e i).length ≤ 17 → walkC e f i out = out ++ po e i) ∧ (17 < out.length + (po e i).length → 17 ≤ (walkC e f i out).length) := by
  intro f
  induction f with
  | zero => intro i out _ h; omega
  | succ f ih =>
    intro i out hn hf
    have hq := nodeF_parts (hp i hn)
    have hl1 := (po_len hp i i (Nat.le_refl _) hn)
    have e0 := po_eq hp hn
    simp only [walkC]
    by_cases h16 : 16 < out.length
    · rw [if_pos h16]
      exact ⟨fun h => by omega, fun _ => by omega⟩
    · rw [if_neg h16]
      by_cases h10 : (nA e i).kind = 10
      · have hl := hq.1 h10
        have n2 : isTwoB (nA e i).kind = false := by rw [isTwoB, inR_not]; omega
        have i1 := ih (nA e i).left.toNat out (by omega) (by omega)
        rw [if_pos (show 2 < (nA e i).kind by omega)]
        simp only [n2, Bool.false_eq_true, if_false]
        rw [if_pos h10] at e0
        rw [e0]
        simp only [List.length_append, List.length_cons, List.length_nil]
        constructor
        · intro h
          rw [i1.1 (by omega)]; simp
        · intro h
          by_cases hh : out.length + (po e (nA e i).left.toNat).length ≤ 17
          · rw [i1.1 hh]; simp; omega
          · have := i1.2 (by omega); simp; omega
      · by_cases h2 : isTwoB (nA e i).kind = true
        · have hl := hq.2.1 h2
          have hk := inR_iff.1 h2
          have i1 := ih (nA e i).left.toNat out (by omega) (by omega)
          simp only [if_pos (show 2 < (nA e i).kind by omega), h10, h2, if_true, if_false] at e0 ⊢
          rw [e0]
          simp only [List.length_append, List.length_cons, List.length_nil]
          have hr1 := (po_len hp _ _ (Nat.le_refl _) (show (nA e i).right.toNat < n by omega))
          by_cases hh : out.length + (po e (nA e i).left.toNat).length ≤ 17
          · rw [i1.1 hh]
            have i2 := ih (nA e i).right.toNat (out ++ po e (nA e i).left.toNat) (by omega) (by omega)
            simp only [List.length_append] at i2
            constructor
            · intro h
              rw [i2.1 (by omega)]; simp
            · intro h
              by_cases h3 : out.length + (po e (nA e i).left.toNat).length + (po e (nA e i).right.toNat).length ≤ 17
              · rw [i2.1 h3]; simp; omega
              · have := i2.2 (by omega); omega
          · have h5 := i1.2 (by omega)
            have h6 := walkC_mono (e := e) f (nA e i).right.toNat (walkC e f (nA e i).left.toNat out)
            exact ⟨fun h => by omega, fun _ => by omega⟩
        · have hk : (nA e i).kind ≤ 2 := hq.2.2.2.2.2 ⟨h10, by simpa using h2⟩
          simp only [if_neg (show ¬ 2 < (nA e i).kind by omega), h10, h2, if_false, Bool.false_eq_true] at e0 ⊢
          rw [e0]
          simp only [List.length_append, List.length_cons, List.length_nil]
          exact ⟨fun _ => trivial, fun h => by omega⟩
def wkF (e : List TNode) (i : Nat) (out : List Nat) : List Nat := walkC e (i + 1) i out
theorem wk_iff {e : List TNode} {n : Nat} (hp : PartsOk e n) (hn : 0 < n) (h16 : n ≤ 16) : wkF e (n - 1) [] = List.range n ↔ (wrongU e n = false ∧ szA e (n - 1) = n) := by
  rw [← po_iff hp hn]
  have h := walkC_eq hp (n - 1 + 1) (n - 1) [] (by omega) (Nat.lt_succ_self _)
  unfold wkF
  simp only [List.length_nil, Nat.zero_add, List.nil_append] at h
  by_cases hh : (po e (n - 1)).length ≤ 17
  · rw [h.1 hh]
  · constructor
    · intro hw
      have := h.2 (by omega)
      rw [hw, List.length_range] at this; omega
    · intro hw
      rw [hw, List.length_range] at hh; omega

/-- the code of an expression -/
def exprF (e : List TNode) : Int :=
  if inR e.length 1 16 = false then 2
  else if sc (nodeAt e) e.length 0 ≠ 0 then sc (nodeAt e) e.length 0
  else if wrongU e e.length = true ∨ szA e (e.length - 1) ≠ e.length then 1 else 0
end Go.AM
namespace Go.AM

theorem walkC_more {e : List TNode} {n : Nat} (hp : PartsOk e n) : ∀ (f g i : Nat) (out : List Nat), i < n → i < f → i < g → walkC e f i out = walkC e g i out := by
  intro f
  induction f with
  | zero => intro g i out _ h; omega
  | succ f ih =>
    intro g i out hn hf hg
    cases g with
    | zero => omega
    | succ g =>
      have hq := nodeF_parts (hp i hn)
      simp only [walkC]
      by_cases h10 : (nA e i).kind = 10
      · have hl := hq.1 h10
        have n2 : isTwoB (nA e i).kind = false := by rw [isTwoB, inR_not]; omega
        simp only [n2, Bool.false_eq_true, if_false]
        rw [ih g (nA e i).left.toNat out (by omega) (by omega) (by omega)]
      · by_cases h2 : isTwoB (nA e i).kind = true
        · have hl := hq.2.1 h2
          simp only [h2]
          rw [ih g (nA e i).left.toNat _ (by omega) (by omega) (by omega), ih g (nA e i).right.toNat _ (by omega) (by omega) (by omega)]
        · have hk : (nA e i).kind ≤ 2 := hq.2.2.2.2.2 ⟨h10, by simpa using h2⟩
          simp only [if_neg (show ¬ 2 < (nA e i).kind by omega), h2, Bool.false_eq_true, if_false]
theorem wkF_eq {e : List TNode} {n i : Nat} (hp : PartsOk e n) (hi : i < n) (out : List Nat) : wkF e i out = if 16 < out.length then out else
    (if isTwoB (nA e i).kind then wkF e (nA e i).right.toNat (if 2 < (nA e i).kind then wkF e (nA e i).left.toNat out else out) else (if 2 < (nA e i).kind then wkF e (nA e i).left.toNat out else out)) ++ [i] := by
  have hq := nodeF_parts (hp i hi)
  unfold wkF
  conv => lhs; unfold walkC
  split
  · rfl
  · simp only
    by_cases h10 : (nA e i).kind = 10
    · have hl := hq.1 h10
      have n2 : isTwoB (nA e i).kind = false := by rw [isTwoB, inR_not]; omega
      simp only [n2, Bool.false_eq_true, if_false]
      rw [walkC_more hp i ((nA e i).left.toNat + 1) (nA e i).left.toNat out (by omega) (by omega) (by omega)]
    · by_cases h2 : isTwoB (nA e i).kind = true
      · have hl := hq.2.1 h2
        simp only [h2]
        rw [walkC_more hp i ((nA e i).left.toNat + 1) (nA e i).left.toNat _ (by omega) (by omega) (by omega), walkC_more hp i ((nA e i).right.toNat + 1) (nA e i).right.toNat _ (by omega) (by omega) (by omega)]
      · have hk : (nA e i).kind ≤ 2 := hq.2.2.2.2.2 ⟨h10, by simpa using h2⟩
        simp only [if_neg (show ¬ 2 < (nA e i).kind by omega), h2, Bool.false_eq_true, if_false]

/-! types -/
def ownT (k : Int) : Int := if k ≤ 6 then 1 else 2
def partT (k : Int) : Int := if k ≤ 8 then 1 else 2
def typBad (e : List TNode) (i : Nat) : Bool :=
  let n := nA e i
  (decide (2 < n.kind) && decide (ownT (nA e n.left.toNat).kind ≠ partT n.kind)) || (isTwoB n.kind && decide (ownT (nA e n.right.toNat).kind ≠ partT n.kind))
def typU (e : List TNode) (i : Nat) : Bool := (List.range i).any (typBad e)
theorem typU_step (e : List TNode) (i : Nat) : typU e (i + 1) = (typU e i || typBad e i) := by
  unfold typU; rw [List.range_succ, List.any_append]; simp
theorem typU_mono {e : List TNode} {i n : Nat} (h : i ≤ n) (hu : typU e i = true) : typU e n = true := by
  unfold typU at *
  simp only [List.any_eq_true, List.mem_range] at *
  obtain ⟨x, h1, h2⟩ := hu
  exact ⟨x, by omega, h2⟩
def typC (e : List TNode) : Int := if exprF e ≠ 0 then exprF e else if typU e e.length = true then 7 else 0
def typV (e : List TNode) : Int := if typC e ≠ 0 then 0 else ownT (nA e (e.length - 1)).kind
/-- the code of an expression that has to have a type, if it is there -/
def typF (e : List TNode) (want : Int) : Int := if e.length = 0 then 0 else if typC e ≠ 0 then typC e else if typV e ≠ want then 7 else 0

/-! names -/
def isLow (c : UInt8) : Bool := decide (97 ≤ (c.toNat : Int)) && decide ((c.toNat : Int) ≤ 122)
def nameF (s : List UInt8) : Int := if s.all isLow = false ∨ s.length = 0 then 5 else if 8 < s.length then 2 else 0

/-! parents -/
/-- parents lie ahead -/
def ParOk (l : List Int) : Prop := ∀ k, k < l.length → -1 ≤ l.getD k 0 ∧ l.getD k 0 < k
def upF (l : List Int) : Nat → Int → Int → Bool
  | 0, _, _ => false
  | f + 1, a, par => if a < 0 then false else if a = par then true else upF l f (l.getD a.toNat 0) par
/-- is it on the way up from a place? -/
def upB (l : List Int) (a par : Int) : Bool := upF l (a + 1).toNat a par
theorem upF_more {l : List Int} (hl : ParOk l) {par : Int} : ∀ (f g : Nat) (a : Int), a < l.length → a < f → a < g → upF l f a par = upF l g a par := by
  intro f
  induction f with
  | zero =>
    intro g a _ hf _
    cases g with
    | zero => rfl
    | succ g => simp only [upF]; rw [if_pos (by omega)]
  | succ f ih =>
    intro g a hn hf hg
    cases g with
    | zero => simp only [upF]; rw [if_pos (by omega)]
    | succ g =>
      simp only [upF]
      split
      · rfl
      · split
        · rfl
        · have := hl a.toNat (by omega)
          exact ih g _ (by omega) (by omega) (by omega)
theorem upB_neg {l : List Int} {a par : Int} (h : a < 0) : upB l a par = false := by
  unfold upB
  rw [show (a + 1).toNat = 0 by omega]; rfl
theorem upB_eq {l : List Int} (hl : ParOk l) {a par : Int} (h0 : 0 ≤ a) (hn : a < l.length) : upB l a par = if a = par then true else upB l (l.getD a.toNat 0) par := by
  unfold upB
  obtain ⟨m, hm⟩ : ∃ m : Nat, a = m := ⟨a.toNat, by omega⟩
  subst hm
  rw [show ((m : Int) + 1).toNat = m + 1 by omega]
  simp only [upF]
  rw [if_neg (by omega)]
  split
  · rfl
  · have := hl m (by omega)
    rw [Int.toNat_natCast] at *
    exact upF_more hl m _ _ (by omega) (by omega) (by omega)
theorem upB_lt {l : List Int} (hl : ParOk l) {par : Int} : ∀ (k : Nat) (a : Int), a < k → a < l.length → a < par → upB l a par = false := by
  intro k
  induction k with
  | zero => intro a hk _ _; exact upB_neg (by omega)
  | succ k ih =>
    intro a hk hn hp
    by_cases h0 : a < 0
    · exact upB_neg h0
    · have := hl a.toNat (by omega)
      rw [upB_eq hl (by omega) hn, if_neg (by omega)]
      exact ih _ (by omega) (by omega) (by omega)
/-- the code of the next parent -/
def parF (l : List Int) (par : Int) : Int :=
  if (l.length = 0 ∧ par ≠ -1) ∨ (0 < l.length ∧ (par < 0 ∨ (l.length : Int) ≤ par)) then 3
  else if 0 < l.length ∧ upB l ((l.length : Int) - 1) par = false then 1 else 0
theorem ParOk.snoc {l : List Int} (hl : ParOk l) {par : Int} (h1 : -1 ≤ par) (h2 : par < l.length) : ParOk (l ++ [par]) := by
  intro k hk
  rw [List.length_append, List.length_singleton] at hk
  by_cases h : k < l.length
  · have := hl k h
    simpa [List.getD, List.getElem?_append_left h] using this
  · obtain rfl : k = l.length := by omega
    simp [List.getD]; omega
theorem parF_ok {l : List Int} {par : Int} (h : parF l par = 0) : -1 ≤ par ∧ par < l.length ∧ (0 < l.length → 0 ≤ par) := by
  unfold parF at h
  split at h
  · cases h
  · omega

/-- how many there are from a place up -/
def depF (l : List Int) : Nat → Int → Int
  | 0, _ => 0
  | f + 1, a => if a < 0 then 0 else 1 + depF l f (l.getD a.toNat 0)
def dep (l : List Int) (a : Int) : Int := depF l (a + 1).toNat a
theorem depF_more {l : List Int} (hl : ParOk l) : ∀ (f g : Nat) (a : Int), a < l.length → a < f → a < g → depF l f a = depF l g a := by
  intro f
  induction f with
  | zero =>
    intro g a _ hf _
    cases g with
    | zero => rfl
    | succ g => simp only [depF]; rw [if_pos (by omega)]
  | succ f ih =>
    intro g a hn hf hg
    cases g with
    | zero => simp only [depF]; rw [if_pos (by omega)]
    | succ g =>
      simp only [depF]
      split
      · rfl
      · have := hl a.toNat (by omega)
        rw [ih g _ (by omega) (by omega) (by omega)]
theorem dep_neg {l : List Int} {a : Int} (h : a < 0) : dep l a = 0 := by
  unfold dep
  rw [show (a + 1).toNat = 0 by omega]; rfl
theorem dep_eq {l : List Int} (hl : ParOk l) {a : Int} (h0 : 0 ≤ a) (hn : a < l.length) : dep l a = 1 + dep l (l.getD a.toNat 0) := by
  unfold dep
  obtain ⟨m, hm⟩ : ∃ m : Nat, a = m := ⟨a.toNat, by omega⟩
  subst hm
  rw [show ((m : Int) + 1).toNat = m + 1 by omega]
  simp only [depF]
  rw [if_neg (by omega)]
  have := hl m (by omega)
  rw [Int.toNat_natCast] at *
  rw [depF_more hl m (l.getD m 0 + 1).toNat (l.getD m 0) (by omega) (by omega) (by omega)]
theorem dep_bd {l : List Int} (hl : ParOk l) : ∀ (k : Nat) (a : Int), a < k → a < l.length → 0 ≤ dep l a ∧ (0 ≤ a → dep l a ≤ a + 1) := by
  intro k
  induction k with
  | zero => intro a hk _; rw [dep_neg (by omega)]; omega
  | succ k ih =>
    intro a hk hn
    by_cases h0 : a < 0
    · rw [dep_neg h0]; omega
    · have h1 := hl a.toNat (by omega)
      rw [dep_eq hl (by omega) hn]
      have h2 := ih (l.getD a.toNat 0) (by omega) (by omega)
      by_cases h3 : 0 ≤ l.getD a.toNat 0
      · have := h2.2 h3; omega
      · rw [dep_neg (show l.getD a.toNat 0 < 0 by omega)]; omega
theorem getD_left {l : List Int} {x : Int} {k : Nat} (h : k < l.length) : (l ++ [x]).getD k 0 = l.getD k 0 := by simp [List.getD, List.getElem?_append_left h]
theorem dep_snoc {l : List Int} (hl : ParOk l) {x : Int} : ∀ (k : Nat) (a : Int), a < k → a < l.length → -1 ≤ x → x < l.length → dep (l ++ [x]) a = dep l a := by
  intro k
  induction k with
  | zero => intro a hk _ _ _; rw [dep_neg (by omega), dep_neg (by omega)]
  | succ k ih =>
    intro a hk hn h1 h2
    by_cases h0 : a < 0
    · rw [dep_neg h0, dep_neg h0]
    · have h3 := hl a.toNat (by omega)
      rw [dep_eq hl (by omega) hn, dep_eq (hl.snoc h1 h2) (by omega) (by simp; omega), getD_left (by omega), ih _ (by omega) (by omega) h1 h2]

/-! steps -/
instance : Inhabited TStep := ⟨⟨0, 0, [], 0, [], []⟩⟩
def nS (p : List TStep) (i : Nat) : TStep := p.getD i default
def pars (p : List TStep) : List Int := p.map TStep.par
def highA (k : Int) : Int := if k = 5 then 9 else if k = 6 ∨ k = 8 then 99 else if k = 7 then 3 else 0
def lowA (k : Int) : Int := if k = 6 ∨ k = 8 then 1 else 0
def alien (s : TStep) : Bool := (decide (s.name ≠ []) && decide (s.kind ≠ 2)) || (decide (s.arg ≠ 0) && decide (highA s.kind = 0)) || (decide (0 < s.expr.length) && decide (s.kind ≠ 7))
/-- the code of a step by itself, behind a row of parents -/
def stepF (l : List Int) (s : TStep) : Int :=
  if s.kind < 1 ∨ 8 < s.kind ∨ alien s = true then 1
  else if parF l s.par ≠ 0 then parF l s.par
  else if 7 < dep (l ++ [s.par]) l.length then 2
  else if s.kind = 2 then nameF s.name
  else if s.arg < lowA s.kind ∨ highA s.kind < s.arg then 3
  else if s.kind = 7 then exprF s.expr else 0
def oneF (p : List TStep) (i : Nat) : Int := stepF ((pars p).take i) (nS p i)

def kidU (p : List TStep) (a : Int) (i : Nat) : List Int := ((List.range i).filter fun k => decide (0 < k) && decide ((nS p k).par = a)).map fun (k : Nat) => (k : Int)
def kids (p : List TStep) (a : Int) : List Int := kidU p a p.length
theorem kidU_step (p : List TStep) (a : Int) (i : Nat) : kidU p a (i + 1) = kidU p a i ++ (if 0 < i ∧ (nS p i).par = a then [(i : Int)] else []) := by
  unfold kidU
  rw [List.range_succ, List.filter_append, List.map_append]
  congr 1
  by_cases h : 0 < i ∧ (nS p i).par = a
  · rw [if_pos h]; simp [h]
  · rw [if_neg h]
    rw [List.filter_cons_of_neg (by simpa using h)]; rfl
theorem kidU_len (p : List TStep) (a : Int) (i : Nat) : (kidU p a i).length ≤ i := by
  unfold kidU; rw [List.length_map]; exact Nat.le_trans (List.length_filter_le _ _) (by simp)
theorem kids_mem {p : List TStep} {a k : Int} : k ∈ kids p a ↔ ∃ m : Nat, k = m ∧ 0 < m ∧ m < p.length ∧ (nS p m).par = a := by
  unfold kids kidU
  simp only [List.mem_map, List.mem_filter, List.mem_range, Bool.and_eq_true, decide_eq_true_eq]
  constructor
  · rintro ⟨m, ⟨h1, h2, h3⟩, rfl⟩; exact ⟨m, rfl, h2, h1, h3⟩
  · rintro ⟨m, rfl, h2, h1, h3⟩; exact ⟨m, ⟨h1, h2, h3⟩, rfl⟩

def lastI (l : List Int) : Int := l.getD (l.length - 1) 0
def headI (l : List Int) : Int := l.getD 0 0
def kidLo (k : Int) : Int := if k = 1 then 1 else if k = 3 ∨ k = 4 ∨ k = 8 then 2 else 0
def kidHi (k : Int) : Int := if k = 1 ∨ k = 3 ∨ k = 4 then 24 else if k = 8 then 2 else 0
def wants (p : List TStep) (i : Nat) : Bool :=
  decide (i ≠ 0) && decide ((nS p (nS p i).par.toNat).kind = 3) && decide ((i : Int) ≠ lastI (kids p (nS p i).par))
def shapeF (p : List TStep) (i : Nat) : Int :=
  let s := nS p i
  if inR (kids p i).length (kidLo s.kind) (kidHi s.kind) = false then 1
  else if decide (0 < s.cond.length) ≠ wants p i then 1
  else if 0 < s.cond.length then exprF s.cond else 0
def tyF (p : List TStep) (i : Nat) : Int := if typF (nS p i).cond 2 ≠ 0 then typF (nS p i).cond 2 else typF (nS p i).expr 1
/-- the code of a process -/
def procF (p : List TStep) : Int :=
  if inR p.length 1 24 = false then 2
  else if sc (oneF p) p.length 0 ≠ 0 then sc (oneF p) p.length 0
  else if sc (shapeF p) p.length 0 ≠ 0 then sc (shapeF p) p.length 0
  else sc (tyF p) p.length 0

/-- what is told of a row of steps that have no fault by themselves -/
theorem pars_len (p : List TStep) : (pars p).length = p.length := by simp [pars]
theorem pars_get {p : List TStep} {i : Nat} (h : i < p.length) : (pars p).getD i 0 = (nS p i).par := by
  simp [pars, nS, List.getD, List.getElem?_map, List.getElem?_eq_getElem h]
theorem pars_take {p : List TStep} {i : Nat} (h : i < p.length) : (pars p).take (i + 1) = (pars p).take i ++ [(nS p i).par] := by
  have e : (pars p)[i]? = some (nS p i).par := by simp [pars, nS, List.getD, List.getElem?_map, List.getElem?_eq_getElem h]
  rw [List.take_add_one, e]; rfl
theorem stepF_par {l : List Int} {s : TStep} (h : stepF l s = 0) : parF l s.par = 0 := by
  unfold stepF at h
  split at h
  · cases h
  · split at h
    · exact absurd h (by assumption)
    · rename_i h2; simpa using h2
theorem ones_ok {p : List TStep} : ∀ (i : Nat), i ≤ p.length → (∀ k, k < i → oneF p k = 0) → ParOk ((pars p).take i) := by
  intro i
  induction i with
  | zero => intro _ _ k hk; simp at hk
  | succ i ih =>
    intro hi h
    have h1 := ih (by omega) fun k hk => h k (by omega)
    have h2 := parF_ok (stepF_par (h i (by omega)))
    rw [pars_take (by omega)]
    exact h1.snoc h2.1 h2.2.1
end Go.AM
namespace Go.AM

def actA (c : TChart) (i : Int) : Int := c.acts.getD i.toNat 0
def cnt (c : TChart) (a : Int) (l : List Int) : Int := (l.countP fun k => decide (actA c k = a) : Nat)
/-- what a process without faults is known to be -/
structure ProcOk (p : List TStep) : Prop where
  len : 1 ≤ p.length ∧ p.length ≤ 24
  one : ∀ i, i < p.length → oneF p i = 0
  shape : ∀ i, i < p.length → shapeF p i = 0
  ty : ∀ i, i < p.length → tyF p i = 0
theorem procOk {p : List TStep} (h : procF p = 0) : ProcOk p := by
  unfold procF at h
  split at h
  · cases h
  rename_i h0
  split at h
  · exact absurd h (by assumption)
  rename_i h1
  split at h
  · exact absurd h (by assumption)
  rename_i h2
  have h0 : inR (↑p.length) 1 24 = true := by simpa using h0
  have h0 := inR_iff.1 h0
  exact ⟨by omega, sc_all (by simpa using h1), sc_all (by simpa using h2), sc_all h⟩
theorem ProcOk.par {p : List TStep} (h : ProcOk p) : ParOk (pars p) := by
  have := ones_ok p.length (Nat.le_refl _) h.one
  rwa [List.take_of_length_le (by rw [pars_len]; exact Nat.le_refl _)] at this
theorem ProcOk.par0 {p : List TStep} (h : ProcOk p) : (nS p 0).par = -1 := by
  have h1 := parF_ok (stepF_par (h.one 0 (by have := h.len; omega)))
  simp at h1; omega
theorem ProcOk.parI {p : List TStep} (h : ProcOk p) {i : Nat} (h0 : 0 < i) (hi : i < p.length) : 0 ≤ (nS p i).par ∧ (nS p i).par < i := by
  have h1 := parF_ok (stepF_par (h.one i hi))
  have hl : ((pars p).take i).length = i := by rw [List.length_take, pars_len]; omega
  rw [hl] at h1
  exact ⟨h1.2.2 h0, h1.2.1⟩
theorem ProcOk.kind {p : List TStep} (h : ProcOk p) {i : Nat} (hi : i < p.length) : 1 ≤ (nS p i).kind ∧ (nS p i).kind ≤ 8 := by
  have h1 := h.one i hi
  unfold oneF stepF at h1
  split at h1
  · cases h1
  · omega
theorem ProcOk.many {p : List TStep} (h : ProcOk p) {i : Nat} (hi : i < p.length) : kidLo (nS p i).kind ≤ (kids p i).length ∧ ((kids p i).length : Int) ≤ kidHi (nS p i).kind := by
  have h1 := h.shape i hi
  unfold shapeF at h1
  simp only at h1
  split at h1
  · cases h1
  · rename_i h2; exact inR_iff.1 (by simpa using h2)

/-! chapter 11 -/
instance : Inhabited TProc := ⟨⟨[]⟩⟩
instance : Inhabited TChart := ⟨⟨0, 0, [], [], []⟩⟩
instance : Inhabited TInst := ⟨⟨0, default⟩⟩
/-! chapter 12 -/
instance : Inhabited TClaim := ⟨⟨0, 0, 0⟩⟩
end Go.AM
namespace Go.AM
def nlc (es : Nat) (l : List (List AV)) : AV := match l with
  | [] => .nils
  | x :: r => .osl es (x :: r)
@[go_sem high] theorem nlc_nil (es : Nat) : nlc es [] = .nils := rfl
@[go_sem high] theorem nlc_cons (es : Nat) (x : List AV) (r : List (List AV)) : nlc es (x :: r) = .osl es (x :: r) := rfl
theorem nlc_ne {es : Nat} {l : List (List AV)} (h : l ≠ []) : nlc es l = .osl es l := by cases l; exact absurd rfl h; rfl
@[go_sem high] theorem nlc_tree (es : Nat) (l : List (List AV)) : (nlc es l).tree = true := by cases l <;> rfl
@[go_sem high] theorem nlc_ids (es : Nat) (l : List (List AV)) : (nlc es l).ids = [] := by cases l <;> simp [nlc, AV.ids]
@[go_sem high] theorem nlc_ownd (es : Nat) (l : List (List AV)) : (nlc es l).ownd = owndLL l := by cases l <;> simp [nlc, AV.ownd, owndLL]
@[go_sem high] theorem nlc_le (es : Nat) (l m : List (List AV)) : leA0 (.osl es l) (nlc es m) ↔ l = m ∧ m ≠ [] := by
  cases m with
  | nil => simp [nlc, leA0]
  | cons y r => simp [nlc, leA0]
@[go_sem high] theorem nlc_lenil (es : Nat) (m : List (List AV)) : leA0 .nils (nlc es m) ↔ m = [] := by cases m <;> simp [nlc, leA0]
@[go_sem high] theorem nlc_lenlc (es : Nat) (l : List (List AV)) : leA0 (nlc es l) (nlc es l) := by cases l <;> simp [nlc, leA0]
end Go.AM
namespace Go.AM
attribute [go_sem] renS AV.ren renL
theorem sc_first {f : Nat → Int} {n : Nat} (i j : Nat) (hj : j ≤ i) (hi : i < n) (h0 : ∀ k, j ≤ k → k < i → f k = 0) (hne : f i ≠ 0) : sc f n j = f i := by
  have key : ∀ m j, i - j = m → j ≤ i → (∀ k, j ≤ k → k < i → f k = 0) → sc f n j = f i := by
    intro m
    induction m with
    | zero =>
      intro j h1 h2 _
      obtain rfl : j = i := by omega
      exact sc_hit hi hne
    | succ m ih =>
      intro j h1 h2 h3
      rw [sc_go (by omega) (h3 j (Nat.le_refl _) (by omega))]
      exact ih (j + 1) (by omega) (by omega) fun k h4 h5 => h3 k (by omega) h5
  exact key _ j rfl hj h0
theorem sc_none {f : Nat → Int} {n : Nat} (h : ∀ k, k < n → f k = 0) : sc f n 0 = 0 := by
  have key : ∀ m i, n - i = m → sc f n i = 0 := by
    intro m
    induction m with
    | zero => intro i hi; exact sc_end (by omega)
    | succ m ih => intro i hi; rw [sc_go (by omega) (h i (by omega))]; exact ih _ (by omega)
  exact key _ 0 rfl
theorem upto {f : Nat → Int} {i : Nat} (h : ∀ k, k < i → f k = 0) (h0 : f i = 0) : ∀ k, k < i + 1 → f k = 0 := by
  intro k hk
  rcases Nat.eq_or_lt_of_le (Nat.le_of_lt_succ hk) with rfl | hk
  · exact h0
  · exact h k hk
theorem nA_at {e : List TNode} {i : Nat} {x : TNode} (h : e[i]? = some x) : nA e i = x := by simp [nA, List.getD, h]
theorem nodeAt_at {e : List TNode} {i : Nat} {x : TNode} (h : e[i]? = some x) : nodeAt e i = nodeF x i := by rw [nodeAt, nA_at h]
theorem exprF_len {e : List TNode} (h : inR e.length 1 16 = false) : exprF e = 2 := by rw [exprF, if_pos h]
theorem exprF_len' {e : List TNode} (h : e.length < 1 ∨ 16 < e.length) : exprF e = 2 := exprF_len (inR_not.2 (by omega))
theorem exprF_node {e : List TNode} {i : Nat} (hR : inR e.length 1 16 = true) (hi : i < e.length) (h : ∀ k, k < i → nodeAt e k = 0) (hne : nodeAt e i ≠ 0) : exprF e = nodeAt e i := by
  have hs := sc_first i 0 (Nat.zero_le _) hi (fun k _ hk => h k hk) hne
  rw [exprF, if_neg (by rw [hR]; decide), hs, if_pos hne]
theorem exprF_end {e : List TNode} (hR : inR e.length 1 16 = true) (h : ∀ k, k < e.length → nodeAt e k = 0) : exprF e = if wrongU e e.length = true ∨ szA e (e.length - 1) ≠ e.length then 1 else 0 := by
  rw [exprF, if_neg (by rw [hR]; decide), sc_none h, if_neg (by decide)]
theorem sizesL_at {e : List TNode} {i j : Nat} (h : j < i) : (sizesL e i)[j]? = some (szA e j) := by
  have h1 := sizesL_get e j i h
  have h2 : j < (sizesL e i).length := by rw [sizesL_len]; exact h
  rw [List.getElem?_eq_getElem h2]
  simp only [List.getD, List.getElem?_eq_getElem h2, Option.getD_some] at h1
  rw [h1]
theorem sizesL_succ (e : List TNode) (i : Nat) : sizesL e (i + 1) = sizesL e i ++ [szA e i] := by
  rw [szA_eq]; rfl
theorem szA_at {e : List TNode} {i : Nat} {x : TNode} (h : e[i]? = some x) (hp : nodeF x i = 0) : szA e i = if x.kind = 10 then 1 + szA e x.left.toNat else if isTwoB x.kind then 1 + (szA e x.left.toNat + szA e x.right.toNat) else 1 := by
  have hq := nodeF_parts hp
  rw [szA_eq]
  unfold sizeOf1
  simp only [nA_at h]
  split
  · rename_i h10
    rw [sizesL_get e _ i (hq.1 h10).2]
  · split
    · rename_i h2
      rw [sizesL_get e _ i (hq.2.1 h2).2.1, sizesL_get e _ i (hq.2.1 h2).2.2.2]; omega
    · rfl
theorem wrongU_at {e : List TNode} {i : Nat} {x : TNode} (h : e[i]? = some x) : wrongU e (i + 1) = (wrongU e i || if x.kind = 10 then decide (x.left ≠ (i : Int) - 1)
    else if isTwoB x.kind then decide (x.right ≠ (i : Int) - 1) || decide (x.left ≠ (i : Int) - 1 - szA e x.right.toNat) else false) := by
  rw [wrongU_step]
  unfold wrong1
  simp only [nA_at h]
theorem not_two {k : Int} (h1 : ¬ isTwoB k = true) (h2 : k ≠ 10) (h3 : 1 ≤ k) (h4 : k ≤ 10) : k ≤ 2 := by
  have : isTwoB k = false := by simpa using h1
  rw [isTwoB, inR_not] at this; omega

theorem left_of {x : TNode} {i : Nat} (h : nodeF x i = 0) (h2 : 2 < x.kind) : 0 ≤ x.left ∧ x.left.toNat < i := by
  have hq := nodeF_parts h
  by_cases h10 : x.kind = 10
  · exact hq.1 h10
  · by_cases h3 : isTwoB x.kind = true
    · exact ⟨(hq.2.1 h3).1, (hq.2.1 h3).2.1⟩
    · have := not_two h3 h10 hq.2.2.1 hq.2.2.2.1; omega
theorem upto_at {l : List Nat} {i y : Nat} (h : ∀ k, k < i → l[k]? = some k) (hy : l[i]? = some y) (e : y = i) : ∀ k, k < i + 1 → l[k]? = some k := by
  intro k hk
  rcases Nat.eq_or_lt_of_le (Nat.le_of_lt_succ hk) with rfl | hk
  · rw [hy, e]
  · exact h k hk
/-! types -/
def typesL (e : List TNode) (i : Nat) : List Int := (List.range i).map fun j => ownT (nA e j).kind
theorem typesL_len (e : List TNode) (i : Nat) : (typesL e i).length = i := by simp [typesL]
theorem typesL_at {e : List TNode} {i j : Nat} (h : j < i) : (typesL e i)[j]? = some (ownT (nA e j).kind) := by simp [typesL, h]
theorem typesL_succ (e : List TNode) (i : Nat) : typesL e (i + 1) = typesL e i ++ [ownT (nA e i).kind] := by simp [typesL, List.range_succ]
theorem exprF_zero {e : List TNode} (h : exprF e = 0) : inR e.length 1 16 = true ∧ PartsOk e e.length := by
  unfold exprF at h
  split at h
  · cases h
  split at h
  · exact absurd h (by assumption)
  · rename_i h1 h2
    exact ⟨by simpa using h1, sc_all (by simpa using h2)⟩
theorem typC_f {e : List TNode} (h : exprF e ≠ 0) : typC e = exprF e ∧ typV e = 0 := by
  have h1 : typC e = exprF e := by rw [typC, if_pos h]
  exact ⟨h1, by rw [typV, h1, if_pos h]⟩
theorem typC_b {e : List TNode} (h : exprF e = 0) (hu : typU e e.length = true) : typC e = 7 ∧ typV e = 0 := by
  have h1 : typC e = 7 := by rw [typC, if_neg (by simp [h]), if_pos hu]
  exact ⟨h1, by rw [typV, h1, if_pos (by decide)]⟩
theorem typC_k {e : List TNode} (h : exprF e = 0) (hu : typU e e.length = false) : typC e = 0 ∧ typV e = ownT (nA e (e.length - 1)).kind := by
  have h1 : typC e = 0 := by rw [typC, if_neg (by simp [h]), if_neg (by simp [hu])]
  exact ⟨h1, by rw [typV, h1, if_neg (by decide)]⟩
theorem typU_hit {e : List TNode} {i : Nat} (hi : i < e.length) (h : typBad e i = true) : typU e e.length = true := typU_mono (show i + 1 ≤ e.length by omega) (by rw [typU_step, h]; simp)
theorem typU_go {e : List TNode} {i : Nat} (hu : typU e i = false) (h : typBad e i = false) : typU e (i + 1) = false := by rw [typU_step, hu, h]; rfl

/-! the walk -/
def N1 (n : Nat) : List AV := [.int .i64 (n : Int)]
@[go_sem] theorem N1_eq (n : Nat) : N1 n = [.int .i64 (n : Int)] := rfl
@[go_sem] theorem N1_un (x : Nat) : (N1 x).map unown = N1 x := rfl
@[go_sem high] theorem N1_unL (l : List _) : unownLL (l.map N1) = l.map N1 := unownLL_map N1_un l
@[go_sem high] theorem N1_unM (l : List _) : (l.map N1).map (List.map unown) = l.map N1 := mapun N1_un l
@[go_sem] theorem N1_ownd (x) : owndL (N1 x) = true := by simp [N1, go_sem]
@[go_sem high] theorem N1_owndL (l : List _) : owndLL (l.map N1) = true := owndLL_map N1_ownd l
@[go_sem] theorem N1_ids (x) : idsL (N1 x) = [] := by simp [N1, go_sem]
@[go_sem high] theorem N1_idsL (l : List _) : (l.map N1).flatMap idsL = [] := flatids N1_ids l
theorem N1_tree (a) : ∀ x ∈ N1 a, x.tree = true := by simp [N1, go_sem]
@[go_sem high] theorem N1_treeL (l : List _) : (∀ c ∈ l.map N1, ∀ x ∈ c, AV.tree x = true) ↔ True := maptree N1_tree l
@[go_sem ↓ high] theorem tree_appE (a b : List (List AV)) : (∀ c ∈ a ++ b, ∀ x ∈ c, AV.tree x = true) ↔ (∀ c ∈ a, ∀ x ∈ c, AV.tree x = true) ∧ (∀ c ∈ b, ∀ x ∈ c, AV.tree x = true) := List.forall_mem_append
attribute [go_sem ↓ high] N1_treeL I1_treeL
theorem walkC_len {e : List TNode} : ∀ (f i : Nat) (out : List Nat), (walkC e f i out).length ≤ max out.length (17 + f) := by
  intro f
  induction f with
  | zero => intro i out; simp only [walkC]; omega
  | succ f ih =>
    intro i out
    simp only [walkC]
    split
    · omega
    · simp only [List.length_append, List.length_cons, List.length_nil]
      have h1 : (if 2 < (nA e i).kind then walkC e f (nA e i).left.toNat out else out).length ≤ 17 + f := by
        split
        · have := ih (nA e i).left.toNat out; omega
        · omega
      generalize (if 2 < (nA e i).kind then walkC e f (nA e i).left.toNat out else out) = o1 at *
      split
      · have := ih (nA e i).right.toNat o1; omega
      · omega
theorem wkF_len {e : List TNode} {i : Nat} {out : List Nat} (h : out.length ≤ 40) (hi : i < 17) : (wkF e i out).length ≤ 40 := by
  have := walkC_len (e := e) (i + 1) i out
  unfold wkF; omega
theorem wk_ne_len {l : List Nat} {n : Nat} (h : l.length ≠ n) : l ≠ List.range n := by rintro rfl; simp at h
theorem wk_ne_at {l : List Nat} {n i y : Nat} (h : l[i]? = some y) (hy : y ≠ i) : l ≠ List.range n := by
  rintro rfl
  obtain ⟨h1, h2⟩ := List.getElem?_eq_some_iff.1 h
  simp at h2; omega
theorem wk_eq {l : List Nat} {n : Nat} (hl : l.length = n) (h : ∀ k, k < l.length → l[k]? = some k) : l = List.range n := by
  apply List.ext_getElem?
  intro k
  by_cases hk : k < l.length
  · rw [h k hk, List.getElem?_range (by omega)]
  · rw [List.getElem?_eq_none (by omega), List.getElem?_eq_none (by simp; omega)]
theorem exprF_wk {e : List TNode} (hR : inR e.length 1 16 = true) (h : ∀ k, k < e.length → nodeAt e k = 0) : exprF e = if wkF e (e.length - 1) [] = List.range e.length then 0 else 1 := by
  have hl := inR_iff.1 hR
  rw [exprF_end hR h]
  have hw := wk_iff (e := e) (n := e.length) h (by omega) (by omega)
  by_cases h1 : wkF e (e.length - 1) [] = List.range e.length
  · have h2 := hw.1 h1
    rw [if_pos h1, if_neg (by rintro (h3 | h3) <;> simp_all)]
  · rw [if_neg h1, if_pos]
    by_cases h3 : wrongU e e.length = true
    · exact Or.inl h3
    · exact Or.inr fun h4 => h1 (hw.2 ⟨by simpa using h3, h4⟩)
end Go.AM
namespace Go.AM
theorem nS_at {p : List TStep} {i : Nat} {x : TStep} (h : p[i]? = some x) : nS p i = x := by simp [nS, List.getD, h]
@[go_sem high] theorem nlc_snoc (es : Nat) (l : List (List AV)) (c : List AV) : nlc es (l ++ [c]) = .osl es (l ++ [c]) := nlc_ne (by simp)
theorem nlc_map {α : Type} {f : α → List AV} {l : List α} (h : l ≠ []) (es : Nat) : nlc es (l.map f) = .osl es (l.map f) := nlc_ne (by simpa using h)

/-! parents -/
def nxtL (l : List Int) (par : Int) : List Int := if parF l par = 0 then l ++ [par] else l
def nxtD (l d : List Int) (par : Int) : List Int := if parF l par = 0 then d ++ [if 0 ≤ par then d.getD par.toNat 0 + 1 else 1] else d
def depsOf (l : List Int) : List Int := (List.range l.length).map fun (k : Nat) => dep l k
theorem depsOf_len (l : List Int) : (depsOf l).length = l.length := by simp [depsOf]
theorem depsOf_at {l : List Int} {k : Nat} (h : k < l.length) : (depsOf l)[k]? = some (dep l k) := by simp [depsOf, h]
theorem depsOf_get {l : List Int} {k : Nat} (h : k < l.length) : (depsOf l).getD k 0 = dep l k := by rw [List.getD, depsOf_at h]; rfl
theorem getD_last (l : List Int) (x : Int) : (l ++ [x]).getD l.length 0 = x := by simp [List.getD]
theorem dep_new {l : List Int} (hl : ParOk l) {par : Int} (h1 : -1 ≤ par) (h2 : par < l.length) : dep (l ++ [par]) l.length = if 0 ≤ par then dep l par + 1 else 1 := by
  rw [dep_eq (hl.snoc h1 h2) (Int.natCast_nonneg _) (by simp; omega), Int.toNat_natCast, getD_last]
  split
  · rw [dep_snoc hl (par.toNat + 1) par (by omega) h2 h1 h2]; omega
  · rw [dep_neg (by omega)]; rfl
theorem nxtD_deps {l : List Int} (hl : ParOk l) {par : Int} (h : parF l par = 0) : nxtD l (depsOf l) par = depsOf (l ++ [par]) := by
  obtain ⟨h1, h2, _⟩ := parF_ok h
  have hn := dep_new hl h1 h2
  rw [nxtD, if_pos h]
  conv => rhs; unfold depsOf
  rw [List.length_append, List.length_singleton, List.range_succ, List.map_append]
  congr 1
  · unfold depsOf
    apply List.map_congr_left
    intro k hk
    rw [List.mem_range] at hk
    exact (dep_snoc hl (k + 1) k (by omega) (by omega) h1 h2).symm
  · rw [List.map_singleton, hn]
    congr 1
    split
    · rw [depsOf_get (by omega)]
      rw [show ((par.toNat : Nat) : Int) = par by omega]
    · rfl
theorem nxtD_app {l : List Int} (hl : ParOk l) {par : Int} (h : parF l par = 0) : nxtD l (depsOf l) par = depsOf l ++ [dep (l ++ [par]) l.length] := by
  obtain ⟨h1, h2, _⟩ := parF_ok h
  rw [nxtD, if_pos h, dep_new hl h1 h2]
  congr 2
  split
  · rw [depsOf_get (by omega), show ((par.toNat : Nat) : Int) = par by omega]
  · rfl
theorem nxtL_app {l : List Int} {par : Int} (h : parF l par = 0) : nxtL l par = l ++ [par] := if_pos h
@[go_sem] theorem unownLL_append (a b : List (List AV)) : unownLL (a ++ b) = unownLL a ++ unownLL b := by simp [unownLL_eq]
theorem stepF_good {l : List Int} {s : TStep} (h1 : inR s.kind 1 8 = true) (h2 : alien s = false) (h3 : parF l s.par = 0) : stepF l s = if 7 < dep (l ++ [s.par]) l.length then 2 else if s.kind = 2 then nameF s.name else if s.arg < lowA s.kind ∨ highA s.kind < s.arg then 3 else if s.kind = 7 then exprF s.expr else 0 := by
  have := inR_iff.1 h1
  unfold stepF
  rw [if_neg (by rw [h2]; simp; omega), if_neg (by simp [h3])]
theorem dep_small {l : List Int} (hl : ParOk l) {a : Int} (h : a < l.length) : 0 ≤ dep l a ∧ dep l a ≤ l.length := by
  have := dep_bd hl (a + 1).toNat.succ a (by omega) h
  by_cases h0 : 0 ≤ a
  · have := this.2 h0; omega
  · rw [dep_neg (by omega)]; omega

theorem parF_not3 {l : List Int} {par : Int} (h0 : 0 < l.length) (h : ¬ parF l par = 3) : 0 ≤ par ∧ par < l.length := by
  unfold parF at h
  split at h
  · exact absurd rfl h
  · omega
/-! kids -/
theorem kidU_not {p : List TStep} {a : Int} {i : Nat} {x : TStep} (hx : p[i]? = some x) (h : ¬ (0 < i ∧ x.par = a)) : kidU p a (i + 1) = kidU p a i := by
  rw [kidU_step, nS_at hx, if_neg h, List.append_nil]
theorem kidU_yes {p : List TStep} {a : Int} {i : Nat} {x : TStep} (hx : p[i]? = some x) (h : 0 < i ∧ x.par = a) : kidU p a (i + 1) = kidU p a i ++ [(i : Int)] := by
  rw [kidU_step, nS_at hx, if_pos h]
theorem kids_len (p : List TStep) (a : Int) : (kids p a).length ≤ p.length := kidU_len p a p.length
theorem kids_end {p : List TStep} {a : Int} {i : Nat} (h : i = p.length) : kidU p a i = kids p a := by rw [h]; rfl
theorem last_at {l : List Int} (h : l ≠ []) : l[l.length - 1]? = some (lastI l) := by
  have : l.length - 1 < l.length := by have := List.length_pos_iff.2 h; omega
  rw [lastI, List.getD, List.getElem?_eq_getElem this]; rfl
/-- steps that have no fault by themselves -/
structure StepsOk (p : List TStep) : Prop where
  len : 1 ≤ p.length ∧ p.length ≤ 24
  one : ∀ i, i < p.length → oneF p i = 0
theorem StepsOk.par {p : List TStep} (h : StepsOk p) : ParOk (pars p) := by
  have := ones_ok p.length (Nat.le_refl _) h.one
  rwa [List.take_of_length_le (by rw [pars_len]; exact Nat.le_refl _)] at this
theorem StepsOk.par0 {p : List TStep} (h : StepsOk p) : (nS p 0).par = -1 := by
  have h1 := parF_ok (stepF_par (h.one 0 (by have := h.len; omega)))
  simp at h1; omega
theorem StepsOk.parI {p : List TStep} (h : StepsOk p) {i : Nat} (h0 : 0 < i) (hi : i < p.length) : 0 ≤ (nS p i).par ∧ (nS p i).par < i := by
  have h1 := parF_ok (stepF_par (h.one i hi))
  have hl : ((pars p).take i).length = i := by rw [List.length_take, pars_len]; omega
  rw [hl] at h1
  exact ⟨h1.2.2 h0, h1.2.1⟩
theorem StepsOk.kids_ne {p : List TStep} (h : StepsOk p) {i : Nat} (h0 : 0 < i) (hi : i < p.length) : kids p (nS p i).par ≠ [] := by
  intro e
  have : (i : Int) ∈ kids p (nS p i).par := kids_mem.2 ⟨i, rfl, h0, hi, rfl⟩
  rw [e] at this; cases this

/-! the code of a process -/
theorem procF_len {p : List TStep} (h : inR p.length 1 24 = false) : procF p = 2 := by rw [procF, if_pos h]
theorem procF_len' {p : List TStep} (h : p.length < 1 ∨ 24 < p.length) : procF p = 2 := procF_len (inR_not.2 (by omega))
theorem procF_one {p : List TStep} {i : Nat} (hR : inR p.length 1 24 = true) (hi : i < p.length) (h : ∀ k, k < i → oneF p k = 0) (hne : oneF p i ≠ 0) : procF p = oneF p i := by
  have hs := sc_first i 0 (Nat.zero_le _) hi (fun k _ hk => h k hk) hne
  rw [procF, if_neg (by rw [hR]; decide), hs, if_pos hne]
theorem procF_shape {p : List TStep} {i : Nat} (hR : inR p.length 1 24 = true) (h1 : ∀ k, k < p.length → oneF p k = 0) (hi : i < p.length) (h : ∀ k, k < i → shapeF p k = 0) (hne : shapeF p i ≠ 0) : procF p = shapeF p i := by
  have hs := sc_first i 0 (Nat.zero_le _) hi (fun k _ hk => h k hk) hne
  rw [procF, if_neg (by rw [hR]; decide), sc_none h1, if_neg (by decide), hs, if_pos hne]
theorem procF_ty {p : List TStep} {i : Nat} (hR : inR p.length 1 24 = true) (h1 : ∀ k, k < p.length → oneF p k = 0) (h2 : ∀ k, k < p.length → shapeF p k = 0) (hi : i < p.length) (h : ∀ k, k < i → tyF p k = 0) (hne : tyF p i ≠ 0) : procF p = tyF p i := by
  have hs := sc_first i 0 (Nat.zero_le _) hi (fun k _ hk => h k hk) hne
  rw [procF, if_neg (by rw [hR]; decide), sc_none h1, if_neg (by decide), sc_none h2, if_neg (by decide), hs]
theorem procF_ok {p : List TStep} (hR : inR p.length 1 24 = true) (h1 : ∀ k, k < p.length → oneF p k = 0) (h2 : ∀ k, k < p.length → shapeF p k = 0) (h3 : ∀ k, k < p.length → tyF p k = 0) : procF p = 0 := by
  rw [procF, if_neg (by rw [hR]; decide), sc_none h1, if_neg (by decide), sc_none h2, if_neg (by decide), sc_none h3]
theorem shape_sc {p : List TStep} {i : Nat} (hi : i < p.length) (h : ∀ k, k < i → shapeF p k = 0) (hne : shapeF p i ≠ 0) : sc (shapeF p) p.length 0 = shapeF p i := sc_first i 0 (Nat.zero_le _) hi (fun k _ hk => h k hk) hne
theorem procF_shape' {p : List TStep} (hR : inR p.length 1 24 = true) (h1 : ∀ k, k < p.length → oneF p k = 0) (hne : sc (shapeF p) p.length 0 ≠ 0) : procF p = sc (shapeF p) p.length 0 := by
  rw [procF, if_neg (by rw [hR]; decide), sc_none h1, if_neg (by decide), if_pos hne]
theorem oneF_at {p : List TStep} {i : Nat} {x : TStep} (h : p[i]? = some x) : oneF p i = stepF ((pars p).take i) x := by rw [oneF, nS_at h]
theorem take_len {p : List TStep} {i : Nat} (h : i ≤ p.length) : ((pars p).take i).length = i := by rw [List.length_take, pars_len]; omega
theorem take_next {p : List TStep} {i : Nat} {x : TStep} (h : p[i]? = some x) : (pars p).take (i + 1) = (pars p).take i ++ [x.par] := by
  rw [pars_take (at_lt h), nS_at h]
/-- the parents ahead of a place -/
def parsT (p : List TStep) (i : Nat) : List Int := (pars p).take i
theorem parsT_zero (p : List TStep) : parsT p 0 = [] := by simp [parsT]
theorem parsT_len {p : List TStep} {i : Nat} (h : i ≤ p.length) : (parsT p i).length = i := take_len h
theorem parsT_next {p : List TStep} {i : Nat} {x : TStep} (h : p[i]? = some x) : parsT p (i + 1) = parsT p i ++ [x.par] := take_next h
theorem oneF_T {p : List TStep} {i : Nat} {x : TStep} (h : p[i]? = some x) : oneF p i = stepF (parsT p i) x := oneF_at h
theorem ones_T {p : List TStep} {i : Nat} (hi : i ≤ p.length) (h : ∀ k, k < i → oneF p k = 0) : ParOk (parsT p i) := ones_ok i hi h
theorem tyF_at {p : List TStep} {i : Nat} {x : TStep} (h : p[i]? = some x) : tyF p i = if typF x.cond 2 ≠ 0 then typF x.cond 2 else typF x.expr 1 := by rw [tyF, nS_at h]
theorem pars_at {p : List TStep} {i : Nat} {x : TStep} (h : p[i]? = some x) {m : Nat} (hm : i < m) : ((pars p).take m).getD i 0 = x.par := by
  simp [pars, List.getD, List.getElem?_take, hm, h]
end Go.AM
namespace Go.AM
theorem kids_bd {p : List TStep} {a k : Int} (h : k ∈ kids p a) : 0 ≤ k ∧ k.toNat < p.length := by
  obtain ⟨m, rfl, h1, h2, h3⟩ := kids_mem.1 h
  exact ⟨by omega, by omega⟩
theorem ProcOk.steps {p : List TStep} (h : ProcOk p) : StepsOk p := ⟨h.len, h.one⟩
end Go.AM
namespace Go.AM
/-- the parents are told in order: each is on the way up from the one ahead -/
def PreOk (l : List Int) : Prop := ParOk l ∧ ∀ k : Nat, 0 < k → k < l.length → 0 ≤ l.getD k 0 ∧ upB l ((k : Int) - 1) (l.getD k 0) = true
theorem upF_take {l : List Int} (m : Nat) : ∀ (f : Nat) (a par : Int), a < m → (∀ k, k < m → l.getD k 0 < (k : Int)) → upF (l.take m) f a par = upF l f a par := by
  intro f
  induction f with
  | zero => intro a par _ _; rfl
  | succ f ih =>
    intro a par ha hk
    simp only [upF]
    split
    · rfl
    · rename_i h0
      split
      · rfl
      · have e : (l.take m).getD a.toNat 0 = l.getD a.toNat 0 := by
          simp only [List.getD, List.getElem?_take]
          rw [if_pos (by omega)]
        rw [e]
        exact ih _ _ (by have := hk a.toNat (by omega); omega) hk
theorem StepsOk.pre {p : List TStep} (h : StepsOk p) : PreOk (pars p) := by
  refine ⟨h.par, fun k h0 hk => ?_⟩
  rw [pars_len] at hk
  have h1 := stepF_par (h.one k hk)
  have h2 := h.par
  rw [pars_get hk]
  have hl : ((pars p).take k).length = k := by rw [List.length_take, pars_len]; omega
  unfold parF at h1
  rw [hl] at h1
  split at h1
  · cases h1
  · rename_i h3
    split at h1
    · cases h1
    · rename_i h4
      have h5 := h.parI h0 hk
      refine ⟨h5.1, ?_⟩
      have h6 : upB ((pars p).take k) ((k : Int) - 1) (nS p k).par = true := by
        cases h7 : upB ((pars p).take k) ((k : Int) - 1) (nS p k).par with
        | true => rfl
        | false => exact absurd ⟨h0, h7⟩ h4
      unfold upB at h6 ⊢
      rwa [upF_take k _ _ _ (by omega) (fun j hj => (h2 j (by rw [pars_len]; omega)).2)] at h6
/-- behind a later sibling nobody goes up to what is ahead of it -/
theorem up_gone {l : List Int} (hl : PreOk l) {a s : Nat} (has : a < s) (hs : s < l.length) (hp : l.getD s 0 = l.getD a 0) :
    ∀ (m j : Nat), j ≤ m → s ≤ j → j < l.length → ∀ x : Nat, a ≤ x → x < s → upB l j x = false := by
  intro m
  induction m with
  | zero => intro j hj h1 h2 x _ _; omega
  | succ m ih =>
    intro j hj h1 h2 x hx1 hx2
    have hpj := hl.1 j h2
    rw [upB_eq hl.1 (by omega) (by omega), if_neg (by omega), Int.toNat_natCast]
    rcases Nat.lt_or_ge s j with h3 | h3
    · -- a later one
      have h4 := hl.2 j (by omega) h2
      rcases Int.lt_or_le (l.getD j 0) s with h5 | h5
      · rcases Int.lt_or_le (l.getD j 0) a with h6 | h6
        · exact upB_lt hl.1 (x + 1) _ (by omega) (by omega) (by omega)
        · exfalso
          have h7 := ih (j - 1) (by omega) (by omega) (by omega) (l.getD j 0).toNat (by omega) (by omega)
          have e1 : ((j - 1 : Nat) : Int) = (j : Int) - 1 := by omega
          have e2 : (((l.getD j 0).toNat : Nat) : Int) = l.getD j 0 := by omega
          rw [e1, e2, h4.2] at h7; cases h7
      · have e2 : (((l.getD j 0).toNat : Nat) : Int) = l.getD j 0 := by omega
        have := ih (l.getD j 0).toNat (by omega) (by omega) (by omega) x hx1 hx2
        rwa [e2] at this
    · have : j = s := by omega
      subst this
      rw [hp]
      have ha := hl.1 a (by omega)
      exact upB_lt hl.1 (x + 1) _ (by omega) (by omega) (by omega)
/-- the first later place with the same parent; none: -1 -/
def sibF (l : List Int) (par : Int) : Nat → Nat → Int
  | 0, _ => -1
  | f + 1, k => if k < l.length then (if l.getD k 0 = par then (k : Int) else sibF l par f (k + 1)) else -1
def sib (l : List Int) (at_ : Nat) : Int := sibF l (l.getD at_ 0) l.length (at_ + 1)
theorem sibF_ok {l : List Int} {par : Int} : ∀ (f k : Nat), l.length ≤ k + f → (sibF l par f k = -1 ∧ ∀ j, k ≤ j → j < l.length → l.getD j 0 ≠ par) ∨ ∃ s : Nat, sibF l par f k = s ∧ k ≤ s ∧ s < l.length ∧ l.getD s 0 = par ∧ ∀ j, k ≤ j → j < s → l.getD j 0 ≠ par := by
  intro f
  induction f with
  | zero => intro k hk; exact Or.inl ⟨rfl, fun j h1 h2 => by omega⟩
  | succ f ih =>
    intro k hk
    simp only [sibF]
    split
    · rename_i h1
      split
      · rename_i h2
        exact Or.inr ⟨k, rfl, Nat.le_refl _, h1, h2, fun j h3 h4 => by omega⟩
      · rename_i h2
        rcases ih (k + 1) (by omega) with ⟨h3, h4⟩ | ⟨s, h3, h4, h5, h6, h7⟩
        · refine Or.inl ⟨h3, fun j h5 h6 => ?_⟩
          rcases Nat.lt_or_ge k j with h8 | h8
          · exact h4 j h8 h6
          · have : j = k := by omega
            subst this; exact h2
        · refine Or.inr ⟨s, h3, by omega, h5, h6, fun j h8 h9 => ?_⟩
          rcases Nat.lt_or_ge k j with h10 | h10
          · exact h7 j h10 h9
          · have : j = k := by omega
            subst this; exact h2
    · exact Or.inl ⟨rfl, fun j h1 h2 => by omega⟩
theorem sib_ok (l : List Int) (a : Nat) : (sib l a = -1 ∧ ∀ j, a < j → j < l.length → l.getD j 0 ≠ l.getD a 0) ∨ ∃ s : Nat, sib l a = s ∧ a < s ∧ s < l.length ∧ l.getD s 0 = l.getD a 0 ∧ ∀ j, a < j → j < s → l.getD j 0 ≠ l.getD a 0 := sibF_ok l.length (a + 1) (by omega)
/-- where it goes on behind a step and all below it -/
def enF (l : List Int) : Nat → Nat → Nat
  | 0, _ => l.length
  | f + 1, a => if 0 ≤ sib l a then (sib l a).toNat else if l.getD a 0 < 0 then l.length else enF l f (l.getD a 0).toNat
def en (l : List Int) (a : Nat) : Nat := enF l (a + 1) a
theorem enF_more {l : List Int} (hl : ParOk l) : ∀ (f g a : Nat), a < l.length → a < f → a < g → enF l f a = enF l g a := by
  intro f
  induction f with
  | zero => intro g a _ h; omega
  | succ f ih =>
    intro g a ha hf hg
    obtain ⟨g, rfl⟩ : ∃ g', g = g' + 1 := ⟨g - 1, by omega⟩
    simp only [enF]
    have := hl a ha
    split
    · rfl
    · split
      · rfl
      · exact ih g _ (by omega) (by omega) (by omega)
theorem en_sib {l : List Int} {a s : Nat} (h : sib l a = s) : en l a = s := by
  unfold en; simp only [enF]; rw [h, if_pos (by omega)]; rfl
theorem en_top {l : List Int} {a : Nat} (h : sib l a = -1) (h2 : l.getD a 0 < 0) : en l a = l.length := by
  unfold en; simp only [enF]; rw [h, if_neg (by omega), if_pos h2]
theorem en_up {l : List Int} (hl : ParOk l) {a : Nat} (ha : a < l.length) (h : sib l a = -1) (h2 : 0 ≤ l.getD a 0) : en l a = en l (l.getD a 0).toNat := by
  have := hl a ha
  have e : en l a = enF l a (l.getD a 0).toNat := by
    unfold en
    rw [enF, h, if_neg (by omega), if_neg (by omega)]
  rw [e]
  exact enF_more hl a ((l.getD a 0).toNat + 1) _ (by omega) (by omega) (by omega)
/-- all that is below a step stands ahead of where it goes on -/
theorem up_en {l : List Int} (hl : PreOk l) : ∀ (m q : Nat), q ≤ m → q < l.length → ∀ k : Nat, k < l.length → upB l k q = true → k < en l q := by
  intro m
  induction m with
  | zero =>
    intro q hq hql k hk hu
    have hq0 : q = 0 := by omega
    subst hq0
    rcases sib_ok l 0 with ⟨h1, h2⟩ | ⟨s, h1, h2, h3, h4, h5⟩
    · have hp := hl.1 0 hql
      rw [en_top h1 (by have : ((0 : Nat) : Int) = 0 := rfl; omega)]; exact hk
    · exfalso
      have hp := hl.1 0 hql
      have := (hl.2 s h2 h3).1
      rw [h4] at this
      have e0 : ((0 : Nat) : Int) = 0 := rfl
      omega
  | succ m ih =>
    intro q hq hql k hk hu
    have hp := hl.1 q hql
    rcases sib_ok l q with ⟨h1, h2⟩ | ⟨s, h1, h2, h3, h4, h5⟩
    · rcases Int.lt_or_le (l.getD q 0) 0 with h6 | h6
      · rw [en_top h1 h6]; exact hk
      · rw [en_up hl.1 hql h1 h6]
        refine ih _ (by omega) (by omega) k hk ?_
        -- what goes up to q goes up to its parent
        have key : ∀ (n k : Nat), k ≤ n → k < l.length → upB l k q = true → upB l k (l.getD q 0) = true := by
          intro n
          induction n with
          | zero =>
            intro k hkn hk hu
            have : k = 0 := by omega
            subst this
            rw [upB_eq hl.1 (by omega) (by omega)] at hu
            split at hu
            · rename_i e; have : q = 0 := by omega
              subst this; exfalso; have e0 : ((0 : Nat) : Int) = 0 := rfl; omega
            · have h0 := hl.1 0 hk
              rw [Int.toNat_natCast] at hu
              rw [upB_neg (by have e0 : ((0 : Nat) : Int) = 0 := rfl; omega)] at hu; cases hu
          | succ n ihn =>
            intro k hkn hk hu
            have hpk := hl.1 k hk
            rw [upB_eq hl.1 (by omega) (by omega)] at hu
            rw [upB_eq hl.1 (by omega) (by omega)]
            split
            · rfl
            · split at hu
              · rename_i e
                have : k = q := by omega
                subst this
                rw [Int.toNat_natCast]
                have e2 : (((l.getD k 0).toNat : Nat) : Int) = l.getD k 0 := by omega
                rw [← e2, upB_eq hl.1 (by omega) (by omega), if_pos rfl]
              · rw [Int.toNat_natCast] at hu ⊢
                rcases Int.lt_or_le (l.getD k 0) 0 with h7 | h7
                · rw [upB_neg h7] at hu; cases hu
                · have e2 : (((l.getD k 0).toNat : Nat) : Int) = l.getD k 0 := by omega
                  have := ihn (l.getD k 0).toNat (by omega) (by omega) (by rw [e2]; exact hu)
                  rwa [e2] at this
        have := key k k (Nat.le_refl _) hk hu
        have e2 : (((l.getD q 0).toNat : Nat) : Int) = l.getD q 0 := by omega
        rwa [e2]
    · rw [en_sib h1]
      rcases Nat.lt_or_ge k s with h6 | h6
      · exact h6
      · rw [up_gone hl h2 h3 h4 k k (Nat.le_refl _) h6 hk q (Nat.le_refl _) h2] at hu; cases hu
theorem en_self {l : List Int} (hl : PreOk l) {q : Nat} (hq : q < l.length) : q < en l q := up_en hl q q (Nat.le_refl _) hq q hq (by rw [upB_eq hl.1 (by omega) (by omega), if_pos rfl])
theorem en_le {l : List Int} (hl : ParOk l) : ∀ (m a : Nat), a ≤ m → a < l.length → en l a ≤ l.length := by
  intro m
  induction m with
  | zero =>
    intro a ha hal
    rcases sib_ok l a with ⟨h1, _⟩ | ⟨s, h1, _, h3, _, _⟩
    · have := hl a hal
      rw [en_top h1 (by omega)]; exact Nat.le_refl _
    · rw [en_sib h1]; omega
  | succ m ih =>
    intro a ha hal
    rcases sib_ok l a with ⟨h1, _⟩ | ⟨s, h1, _, h3, _, _⟩
    · have := hl a hal
      rcases Int.lt_or_le (l.getD a 0) 0 with h6 | h6
      · rw [en_top h1 h6]; exact Nat.le_refl _
      · rw [en_up hl hal h1 h6]; exact ih _ (by omega) (by omega)
    · rw [en_sib h1]; omega
/-- a step's parent goes on no earlier -/
theorem en_par {l : List Int} (hl : PreOk l) {a q : Nat} (ha : a < l.length) (hq : l.getD a 0 = (q : Int)) : en l a ≤ en l q := by
  have hp := hl.1 a ha
  rcases sib_ok l a with ⟨h1, _⟩ | ⟨s, h1, h2, h3, h4, _⟩
  · rw [en_up hl.1 ha h1 (by omega), hq, Int.toNat_natCast]; exact Nat.le_refl _
  · rw [en_sib h1]
    have hps := hl.1 s h3
    refine Nat.le_of_lt (up_en hl q q (Nat.le_refl _) (by omega) s h3 ?_)
    rw [upB_eq hl.1 (by omega) (by omega)]
    split
    · rfl
    · rw [Int.toNat_natCast, h4, hq, upB_eq hl.1 (by omega) (by omega), if_pos rfl]
/-! what is left to do -/
def mE (l : List Int) (a : Nat) : Nat := 30 * (l.length - a)
theorem mE_kid {l : List Int} {a k : Nat} (h : a < k) (hk : k < l.length) : mE l k < mE l a := by unfold mE; omega
end Go.AM
namespace Go.AM
/-! the value of an expression -/
def reckV (k a b : Int) : Int := if k = 3 then a + b else if k = 4 then a - b else if k = 5 then a * b else if k = 6 then a.tdiv b else if k = 7 then (if a < b then 1 else 0) else if k = 8 then (if a = b then 1 else 0) else a * b
def gI (l : List Int) (i : Int) : Int := l.getD i.toNat 0
def evV (n : TNode) (vars out : List Int) : Int :=
  if n.kind = 2 then gI vars n.val else if n.kind = 10 then 1 - gI out n.left else if isTwoB n.kind then reckV n.kind (gI out n.left) (gI out n.right) else n.val
def evBad (n : TNode) (vars out : List Int) : Bool := (decide (n.kind = 6) && decide (gI out n.right = 0)) || !small (evV n vars out)
def evL (e : List TNode) (vars : List Int) : Nat → List Int
  | 0 => []
  | i + 1 => evL e vars i ++ [evV (nA e i) vars (evL e vars i)]
def evOk (e : List TNode) (vars : List Int) : Nat → Bool
  | 0 => true
  | i + 1 => evOk e vars i && !evBad (nA e i) vars (evL e vars i)
def evalB (e : List TNode) (vars : List Int) : Bool := evOk e vars e.length
def evalI (e : List TNode) (vars : List Int) : Int := lastI (evL e vars e.length)
theorem evL_len (e : List TNode) (vars : List Int) (i : Nat) : (evL e vars i).length = i := by
  induction i with
  | zero => rfl
  | succ i ih => simp [evL, ih]
theorem evL_get {e : List TNode} {vars : List Int} {i n : Nat} (h : i < n) : (evL e vars n).getD i 0 = evV (nA e i) vars (evL e vars i) := by
  induction n with
  | zero => omega
  | succ n ih =>
    simp only [evL]
    rcases Nat.lt_or_ge i n with h1 | h1
    · rw [getD_left (by rw [evL_len]; exact h1)]; exact ih h1
    · have : i = n := by omega
      subst this
      have := getD_last (evL e vars i) (evV (nA e i) vars (evL e vars i))
      rwa [evL_len] at this
theorem evOk_le {e : List TNode} {vars : List Int} {i n : Nat} (h : i ≤ n) (ho : evOk e vars n = true) : evOk e vars i = true := by
  induction n with
  | zero => have : i = 0 := by omega
            subst this; rfl
  | succ n ih =>
    rcases Nat.lt_or_ge n i with h1 | h1
    · have : i = n + 1 := by omega
      subst this; exact ho
    · simp only [evOk, Bool.and_eq_true] at ho
      exact ih h1 ho.1
theorem evOk_small {e : List TNode} {vars : List Int} {i n : Nat} (h : i < n) (ho : evOk e vars n = true) : small ((evL e vars n).getD i 0) = true := by
  have h1 := evOk_le (i := i + 1) h ho
  simp only [evOk, Bool.and_eq_true, evBad, Bool.not_eq_true', Bool.or_eq_false_iff] at h1
  rw [evL_get h]
  simpa using h1.2.2
/-! a chart -/
def setA (c : TChart) (k v : Int) : TChart := { c with acts := c.acts.set k.toNat v }
def setD (c : TChart) (k v : Int) : TChart := { c with dues := c.dues.set k.toNat v }
def setV (c : TChart) (k v : Int) : TChart := { c with vars := c.vars.set k.toNat v }
def endF (n : Nat) (st : Int) (c : TChart) : TChart := ⟨st, c.now, c.vars, List.replicate n 0, List.replicate n 0⟩
/-- a step and all below it -/
def undL (p : List TStep) (top i : Nat) : List Int := ((List.range i).filter fun k => decide (top ≤ k) && upB (pars p) k top).map fun (k : Nat) => (k : Int)
def idle1 (c : TChart) (k : Int) : TChart := setD (setA c k 0) k 0
def idleF (p : List TStep) (at_ : Nat) (c : TChart) : TChart := (undL p at_ p.length).foldl idle1 c
/-- the kid that a choice takes; -1: an error -/
def chF (p : List TStep) (vars : List Int) : List Int → Int
  | [] => -1
  | k :: r => if (nS p k.toNat).cond.length = 0 then k else if evalB (nS p k.toNat).cond vars = false then -1 else if evalI (nS p k.toNat).cond vars = 1 then k else chF p vars r
def goF (p : List TStep) : Nat → Bool → Nat → TChart → TChart
  | 0, _, _, c => c
  | f + 1, true, a, c =>
    if c.status ≠ 1 then c
    else
      let s := nS p a
      let c1 := setA c a 1
      let ks := kids p a
      if s.kind = 1 then goF p f true (headI ks).toNat c1
      else if s.kind = 4 then ks.foldl (fun c k => goF p f true k.toNat c) c1
      else if s.kind = 3 then (if chF p c1.vars ks < 0 then endF p.length 3 c1 else goF p f true (chF p c1.vars ks).toNat c1)
      else if s.kind = 8 then goF p f true (headI ks).toNat (setD c1 a (c1.now + s.arg))
      else if s.kind = 6 then setD c1 a (c1.now + s.arg)
      else if s.kind = 7 then (if evalB s.expr c1.vars = false then endF p.length 3 c1 else goF p f false a (setV c1 s.arg (evalI s.expr c1.vars)))
      else c1
  | f + 1, false, a, c =>
    let c1 := idleF p a c
    if a = 0 then endF p.length 2 c1
    else
      let q := (nS p a).par.toNat
      if (nS p q).kind = 1 ∧ 0 ≤ sib (pars p) a then goF p f true (sib (pars p) a).toNat c1
      else if (nS p q).kind = 4 then
        (if (kids p q).all (fun k => decide (actA (setA c1 a 2) k = 2)) then goF p f false q (setA c1 a 2) else setA c1 a 2)
      else goF p f false q c1
/-- a chart's slices are as long as they should be -/
structure WfC (p : List TStep) (c : TChart) : Prop where
  acts : c.acts.length = p.length
  dues : c.dues.length = p.length
  vars : c.vars.length = 4
  small : ∀ v ∈ c.vars, small v = true
  now : inR c.now 0 1000000 = true
theorem WfC.setA {p : List TStep} {c : TChart} (h : WfC p c) (k v : Int) : WfC p (setA c k v) := ⟨by simp [Go.AM.setA, h.acts], h.dues, h.vars, h.small, h.now⟩
theorem WfC.setD {p : List TStep} {c : TChart} (h : WfC p c) (k v : Int) : WfC p (setD c k v) := ⟨h.acts, by simp [Go.AM.setD, h.dues], h.vars, h.small, h.now⟩
theorem WfC.setV {p : List TStep} {c : TChart} (h : WfC p c) (k v : Int) (hv : Go.AM.small v = true) : WfC p (setV c k v) := ⟨h.acts, h.dues, by simp [Go.AM.setV, h.vars], fun u hu => by
  rcases List.mem_or_eq_of_mem_set hu with h1 | h1
  · exact h.small u h1
  · rw [h1]; exact hv, h.now⟩
theorem WfC.endF {p : List TStep} {c : TChart} (h : WfC p c) (st : Int) : WfC p (endF p.length st c) := ⟨by simp [Go.AM.endF], by simp [Go.AM.endF], h.vars, h.small, h.now⟩
theorem WfC.idles {p : List TStep} : ∀ (l : List Int) (c : TChart), WfC p c → WfC p (l.foldl idle1 c)
  | [], c, h => h
  | k :: r, c, h => WfC.idles r _ ((h.setA k 0).setD k 0)
theorem WfC.idle {p : List TStep} {c : TChart} (h : WfC p c) (a : Nat) : WfC p (idleF p a c) := WfC.idles _ c h
theorem evalI_small {e : List TNode} {vars : List Int} (hn : 0 < e.length) (h : evalB e vars = true) : small (evalI e vars) = true := by
  unfold evalI lastI
  rw [evL_len]
  exact evOk_small (by omega) h
theorem WfC.go {p : List TStep} (hex : ∀ a, a < p.length → (nS p a).kind = 7 → 0 < (nS p a).expr.length) : ∀ (f : Nat) (b : Bool) (a : Nat) (c : TChart), (∀ m, f = m → True) → WfC p c → WfC p (goF p f b a c) := by
  intro f
  induction f with
  | zero => intro b a c _ h; cases b <;> exact h
  | succ f ih =>
    intro b a c _ h
    have ih' : ∀ (b : Bool) (a : Nat) (c : TChart), WfC p c → WfC p (goF p f b a c) := fun b a c h => ih b a c (fun _ _ => True.intro) h
    cases b with
    | true =>
      simp only [goF]
      split
      · exact h
      · have h1 := h.setA (a : Int) 1
        split
        · exact ih' _ _ _ h1
        · split
          · have key : ∀ (l : List Int) (c : TChart), WfC p c → WfC p (l.foldl (fun c k => goF p f true k.toNat c) c) := by
              intro l
              induction l with
              | nil => intro c h; exact h
              | cons k r ihl => intro c h; exact ihl _ (ih' _ _ _ h)
            exact key _ _ h1
          · split
            · split
              · exact h1.endF 3
              · exact ih' _ _ _ h1
            · split
              · exact ih' _ _ _ (h1.setD _ _)
              · split
                · exact h1.setD _ _
                · split
                  · rename_i hk7
                    split
                    · exact h1.endF 3
                    · rename_i he
                      refine ih' _ _ _ (h1.setV _ _ (evalI_small ?_ (by simpa using he)))
                      rcases Nat.lt_or_ge a p.length with ha | ha
                      · exact hex a ha hk7
                      · exfalso
                        have : nS p a = default := by simp [nS, List.getD, List.getElem?_eq_none ha]
                        rw [this] at hk7; cases hk7
                  · exact h1
    | false =>
      simp only [goF]
      have h1 := h.idle a
      split
      · exact h1.endF 2
      · split
        · exact ih' _ _ _ h1
        · split
          · split
            · exact ih' _ _ _ (h1.setA _ _)
            · exact h1.setA _ _
          · exact ih' _ _ _ h1
end Go.AM
namespace Go.AM
theorem up_self {l : List Int} (hl : ParOk l) {a : Nat} (ha : a < l.length) : upB l a a = true := by rw [upB_eq hl (by omega) (by omega), if_pos rfl]
theorem up_par {l : List Int} (hl : ParOk l) {j x : Nat} (hj : j < l.length) (hne : j ≠ x) : upB l j x = upB l (l.getD j 0) x := by
  rw [upB_eq hl (by omega) (by omega), if_neg (by omega), Int.toNat_natCast]
theorem up_le {l : List Int} (hl : ParOk l) {j x : Nat} (hj : j < l.length) (h : upB l j x = true) : x ≤ j := by
  rcases Nat.lt_or_ge j x with h1 | h1
  · rw [upB_lt hl (j + 1) j (by omega) (by omega) (by omega)] at h; cases h
  · exact h1
/-- two on one way up: the later goes up to the elder -/
theorem up_cmp {l : List Int} (hl : ParOk l) : ∀ (m j : Nat), j ≤ m → j < l.length → ∀ x y : Nat, x ≤ y → upB l j x = true → upB l j y = true → upB l y x = true := by
  intro m
  induction m with
  | zero =>
    intro j hj hjl x y hxy hx hy
    have h1 := up_le hl hjl hy
    have : y = j := by omega
    subst this; exact hx
  | succ m ih =>
    intro j hj hjl x y hxy hx hy
    by_cases h : j = y
    · subst h; exact hx
    · have h1 := up_le hl hjl hy
      rw [up_par hl hjl h] at hy
      rw [up_par hl hjl (by omega)] at hx
      have hp := hl j hjl
      rcases Int.lt_or_le (l.getD j 0) 0 with h2 | h2
      · rw [upB_neg h2] at hx; cases hx
      · obtain ⟨q, hq⟩ : ∃ q : Nat, l.getD j 0 = q := ⟨_, (Int.toNat_of_nonneg h2).symm⟩
        rw [hq] at hx hy
        exact ih q (by omega) (by omega) x y hxy hx hy
/-- nobody between a step and where it goes on is beside it -/
theorem en_anc {l : List Int} (hl : PreOk l) : ∀ (m a : Nat), a ≤ m → a < l.length → ∀ b : Nat, upB l a b = true → en l a ≤ en l b := by
  intro m
  induction m with
  | zero =>
    intro a ha hal b hb
    have := up_le hl.1 hal hb
    have : b = a := by omega
    subst this; exact Nat.le_refl _
  | succ m ih =>
    intro a ha hal b hb
    by_cases h : a = b
    · subst h; exact Nat.le_refl _
    · rw [up_par hl.1 hal h] at hb
      have hp := hl.1 a hal
      rcases Int.lt_or_le (l.getD a 0) 0 with h3 | h3
      · rw [upB_neg h3] at hb; cases hb
      · obtain ⟨q, hq⟩ : ∃ q : Nat, l.getD a 0 = q := ⟨_, (Int.toNat_of_nonneg h3).symm⟩
        rw [hq] at hb
        exact Nat.le_trans (en_par hl hal hq) (ih q (by omega) (by omega) b hb)
/-- an elder on the way up from a has a child on it -/
theorem up_child {l : List Int} (hl : ParOk l) : ∀ (m a : Nat), a ≤ m → a < l.length → ∀ x : Nat, x < a → upB l a x = true → ∃ b : Nat, upB l a b = true ∧ l.getD b 0 = x ∧ b < l.length := by
  intro m
  induction m with
  | zero => intro a ha hal x hx _; omega
  | succ m ih =>
    intro a ha hal x hx hu
    rw [up_par hl hal (by omega)] at hu
    have hp := hl a hal
    rcases Int.lt_or_le (l.getD a 0) 0 with h3 | h3
    · rw [upB_neg h3] at hu; cases hu
    · obtain ⟨q, hq⟩ : ∃ q : Nat, l.getD a 0 = q := ⟨_, (Int.toNat_of_nonneg h3).symm⟩
      rw [hq] at hu
      rcases Nat.lt_or_ge x q with h4 | h4
      · obtain ⟨b, h5, h6, h7⟩ := ih q (by omega) (by omega) x h4 hu
        refine ⟨b, ?_, h6, h7⟩
        have hbq := up_le hl (show q < l.length by omega) h5
        rw [up_par hl hal (by omega), hq]; exact h5
      · have h5 := up_le hl (show q < l.length by omega) hu
        have : q = x := by omega
        subst this
        exact ⟨a, up_self hl hal, hq, hal⟩
theorem sib_le {l : List Int} {b k : Nat} (hbk : b < k) (hk : k < l.length) (he : l.getD k 0 = l.getD b 0) : ∃ s : Nat, sib l b = s ∧ s ≤ k := by
  rcases sib_ok l b with ⟨h1, h2⟩ | ⟨s, h1, h2, h3, h4, h5⟩
  · exact absurd he (h2 k hbk hk)
  · refine ⟨s, h1, ?_⟩
    rcases Nat.lt_or_ge k s with h6 | h6
    · exact absurd he (h5 k hbk h6)
    · exact h6
theorem up_between {l : List Int} (hl : PreOk l) {a : Nat} (ha : a < l.length) : ∀ (m k : Nat), k ≤ m → a ≤ k → k < en l a → k < l.length → upB l k a = true := by
  intro m
  induction m with
  | zero =>
    intro k hk h1 h2 h3
    have : k = a := by omega
    subst this; exact up_self hl.1 h3
  | succ m ih =>
    intro k hk h1 h2 h3
    rcases Nat.lt_or_ge a k with h4 | h4
    · have h5 := ih (k - 1) (by omega) (by omega) (by omega) (by omega)
      have h6 := hl.2 k (by omega) h3
      have hp := hl.1 k h3
      obtain ⟨q, hq⟩ : ∃ q : Nat, l.getD k 0 = q := ⟨_, (Int.toNat_of_nonneg h6.1).symm⟩
      have e1 : ((k - 1 : Nat) : Int) = (k : Int) - 1 := by omega
      have h7 : upB l ((k - 1 : Nat) : Int) q = true := by rw [e1, ← hq]; exact h6.2
      rcases Nat.lt_or_ge q a with h8 | h8
      · exfalso
        have h9 := up_cmp hl.1 (k - 1) (k - 1) (Nat.le_refl _) (by omega) q a (by omega) h7 h5
        obtain ⟨b, hb1, hb2, hb3⟩ := up_child hl.1 a a (Nat.le_refl _) ha q h8 h9
        have hba := up_le hl.1 ha hb1
        obtain ⟨s, hs1, hs2⟩ := sib_le (l := l) (b := b) (k := k) (by omega) h3 (by rw [hq, hb2])
        have h10 := en_anc hl a a (Nat.le_refl _) ha b hb1
        rw [en_sib hs1] at h10
        omega
      · have h9 := up_cmp hl.1 (k - 1) (k - 1) (Nat.le_refl _) (by omega) a q h8 h5 h7
        rw [up_par hl.1 h3 (by omega), hq]; exact h9
    · have : k = a := by omega
      subst this; exact up_self hl.1 h3
theorem up_iff {l : List Int} (hl : PreOk l) {a k : Nat} (ha : a < l.length) (hk : k < l.length) (hak : a ≤ k) : upB l k a = decide (k < en l a) := by
  rw [Bool.eq_iff_iff, decide_eq_true_eq]
  exact ⟨fun h => up_en hl a a (Nat.le_refl _) ha k hk h, fun h => up_between hl ha k k (Nat.le_refl _) hak h hk⟩
/-! depths -/
/-! the places of a step and all below it -/
/-! what follows a step in a sequence -/
theorem kids_pw (p : List TStep) (a : Int) : (kids p a).Pairwise (· < ·) := by
  unfold kids kidU
  rw [List.pairwise_map]
  refine List.Pairwise.imp (fun h => by omega) (List.Pairwise.filter _ List.pairwise_lt_range)
/-- a choice always takes a kid, if no condition fails -/
theorem chF_ok {p : List TStep} {vars : List Int} : ∀ (l : List Int), (∀ x, l.getLast? = some x → (nS p x.toNat).cond.length = 0) → l ≠ [] → ∀ k, chF p vars l = k → 0 ≤ k → k ∈ l := by
  intro l
  induction l with
  | nil => intro _ h; exact absurd rfl h
  | cons x r ih =>
    intro hl _ k hk h0
    unfold chF at hk
    split at hk
    · subst hk; exact List.mem_cons_self
    · split at hk
      · omega
      · split at hk
        · subst hk; exact List.mem_cons_self
        · cases r with
          | nil =>
            exact absurd (hl x rfl) (by assumption)
          | cons y r => exact List.mem_cons_of_mem _ (ih (fun z hz => hl z (by rw [List.getLast?_cons_cons]; exact hz)) (by simp) k hk h0)
end Go.AM
namespace Go.AM
def TGraphResult.gok (x : TGraphResult) : Prop := x.graph.gok

/-! bytes -/
@[go_sem ↓ high] theorem encB_B1 (s : List UInt8) : encB s = s.map B1 := rfl
theorem byteOfCell_B1 (b : UInt8) : byteOfCell [.int .u8 b.toNat] = some b := by
  have := b.toNat_lt
  simp [byteOfCell]; omega
theorem decB_B1 (s : List UInt8) : decB (s.map B1) = some s := decB_encB s
attribute [go_sem ↓ high] decB_B1 byteOfCell_B1
def b8 (n : Int) : UInt8 := UInt8.ofNat (n % 256).toNat
@[go_sem] theorem wrap_u8 (n : Int) : IntKind.wrap .u8 n = ((b8 n).toNat : Int) := by
  have h : (UInt8.ofNat (n % 256).toNat).toNat = (n % 256).toNat := by rw [UInt8.toNat_ofNat']; omega
  simp only [b8, h, IntKind.wrap, IntKind.bits, IntKind.signed]
  simp
  omega

/-! the digits of a mark -/
def digs : Nat → Int → List UInt8 → List UInt8
  | 0, _, acc => acc
  | n + 1, k, acc => if 0 < k then digs n (k / 10) (b8 (48 + k % 10) :: acc) else acc
def mt (k : Int) : List UInt8 := if k ≤ 0 then [109, 48] else 109 :: digs k.toNat k []
theorem digs_more : ∀ (n m : Nat) (k : Int) (acc : List UInt8), k.toNat ≤ n → k.toNat ≤ m → digs n k acc = digs m k acc := by
  intro n
  induction n with
  | zero =>
    intro m k acc h _
    have : ¬ 0 < k := by omega
    cases m with
    | zero => rfl
    | succ m => simp [digs, this]
  | succ n ih =>
    intro m k acc h h2
    cases m with
    | zero =>
      have : ¬ 0 < k := by omega
      simp [digs, this]
    | succ m =>
      simp only [digs]
      split
      · exact ih m _ _ (by omega) (by omega)
      · rfl
theorem digs_zero {n : Nat} {k : Int} {acc : List UInt8} (h : k ≤ 0) : digs n k acc = acc := by
  cases n with
  | zero => rfl
  | succ n => simp only [digs]; rw [if_neg (by omega)]
theorem digs_step {k : Int} {acc : List UInt8} (h : 0 < k) : digs k.toNat k acc = digs (k / 10).toNat (k / 10) (b8 (48 + k % 10) :: acc) := by
  obtain ⟨n, hn⟩ : ∃ n, k.toNat = n + 1 := ⟨k.toNat - 1, by omega⟩
  rw [hn]
  simp only [digs]
  rw [if_pos h]
  exact digs_more _ _ _ _ (by omega) (by omega)
theorem mt_big {k : Int} {n : Nat} (h : 0 < k) (h2 : k * 10 ^ n ≤ 4611686018427387904) : k ≤ 4611686018427387904 := by
  have h10 : (1 : Int) ≤ 10 ^ n := by have : (0 : Int) < 10 ^ n := Int.pow_pos (by omega); omega
  have := Int.mul_le_mul_of_nonneg_left h10 (show 0 ≤ k by omega)
  omega
theorem mt_step {k : Int} {n : Nat} (h : 0 < k) (h2 : k * 10 ^ n ≤ 4611686018427387904) : n ≤ 18 ∧ (k / 10) * 10 ^ (n + 1) ≤ 4611686018427387904 := by
  have h10 : (0 : Int) ≤ 10 ^ n := Int.pow_nonneg (by omega)
  refine ⟨?_, ?_⟩
  · rcases Nat.lt_or_ge 18 n with hn | hn
    · exfalso
      have e : (10 : Int) ^ n = 10 ^ 19 * 10 ^ (n - 19) := by rw [← Int.pow_add]; congr 1; omega
      have h1 : (1 : Int) ≤ 10 ^ (n - 19) := by have : (0 : Int) < 10 ^ (n - 19) := Int.pow_pos (by omega); omega
      have h3 : (10 : Int) ^ 19 * 1 ≤ 10 ^ 19 * 10 ^ (n - 19) := Int.mul_le_mul_of_nonneg_left h1 (by decide)
      have h4 : 1 * (10 : Int) ^ n ≤ k * 10 ^ n := Int.mul_le_mul_of_nonneg_right (by omega) h10
      have h5 : (10 : Int) ^ 19 * 1 = 10000000000000000000 := by decide
      omega
    · exact hn
  · have e : (k / 10) * 10 ^ (n + 1) = (k / 10 * 10) * 10 ^ n := by rw [Int.pow_succ]; rw [Int.mul_comm (10 ^ n) 10, ← Int.mul_assoc]
    rw [e]
    have : (k / 10 * 10) * 10 ^ n ≤ k * 10 ^ n := Int.mul_le_mul_of_nonneg_right (by omega) h10
    omega

/-! marks -/
def mkP {α : Type} (f : Int → α) (l : List α) (k : Int) (i : Nat) : List α := (List.range i).map (fun (j : Nat) => f (k + j)) ++ l.drop i
theorem mkP_len {α : Type} {f : Int → α} {l : List α} {k : Int} {i : Nat} (h : i ≤ l.length) : (mkP f l k i).length = l.length := by simp [mkP]; omega
theorem mkP_zero {α : Type} (f : Int → α) (l : List α) (k : Int) : mkP f l k 0 = l := by simp [mkP]
theorem mkP_set {α : Type} {f : Int → α} {l : List α} {k : Int} {i : Nat} (h : i < l.length) : (mkP f l k i).set i (f (k + i)) = mkP f l k (i + 1) := by
  unfold mkP
  rw [List.set_append, if_neg (by simp), List.range_succ, List.map_append]
  have e2 : i - ((List.range i).map fun (j : Nat) => f (k + j)).length = 0 := by simp
  rw [e2, List.drop_eq_getElem_cons h, List.set_cons_zero, List.append_assoc]
  rfl
theorem mkP_at {α : Type} {f : Int → α} {l : List α} {k : Int} {i : Nat} {x : α} (h : l[i]? = some x) : (mkP f l k i)[i]? = some x := by
  have hi := at_lt h
  unfold mkP
  rw [List.getElem?_append_right (by simp)]
  simp [h]
end Go.AM
namespace Go.AM
/-- the cells of a chart that is owned, and of a board -/
def crow (c : TChart) : List AV := [.int .i64 c.status, .int .i64 c.now, .osl 1 (c.vars.map I1), .osl 1 (c.acts.map I1), .osl 1 (c.dues.map I1)]
def brow (p : List TStep) (c : TChart) : List AV := .isl 6 (p.map TStep.ro) :: crow c
@[go_sem] theorem crow_eq (c : TChart) : crow c = [.int .i64 c.status, .int .i64 c.now, .osl 1 (c.vars.map I1), .osl 1 (c.acts.map I1), .osl 1 (c.dues.map I1)] := rfl
@[go_sem] theorem brow_eq (p : List TStep) (c : TChart) : brow p c = [.isl 6 (p.map TStep.ro), .int .i64 c.status, .int .i64 c.now, .osl 1 (c.vars.map I1), .osl 1 (c.acts.map I1), .osl 1 (c.dues.map I1)] := rfl
theorem tset {l : List Int} {i : Nat} {v : Int} : ∀ c ∈ (l.map I1).set i [AV.int .i64 v], ∀ x ∈ c, AV.tree x = true := by
  intro c hc x hx
  rcases List.mem_or_eq_of_mem_set hc with h | h
  · exact (I1_treeL l).2 True.intro c h x hx
  · subst h; rw [List.mem_singleton] at hx; subst hx; rfl
@[go_sem ↓ high] theorem tset_iff {l : List Int} {i : Nat} {v : Int} : (∀ c ∈ (l.map I1).set i [AV.int .i64 v], ∀ x ∈ c, AV.tree x = true) ↔ True := ⟨fun _ => True.intro, fun _ => tset⟩
@[go_sem] theorem rep_ids (n : Nat) (k : IntKind) (v : Int) : (List.replicate n [AV.int k v]).flatMap idsL = [] := by
  rw [List.flatMap_eq_nil_iff]; intro x hx; rw [List.eq_of_mem_replicate hx]; rfl
end Go.AM
namespace Go.AM
end Go.AM
namespace Go.AM
/-- an expression that may be reckoned -/
structure EGood (e : List TNode) : Prop where
  len : 1 ≤ e.length ∧ e.length ≤ 16
  parts : PartsOk e e.length
  ty : typU e e.length = false
theorem eGood {e : List TNode} {w : Int} (h0 : 0 < e.length) (h : typF e w = 0) : EGood e := by
  unfold typF at h
  rw [if_neg (by omega)] at h
  split at h
  · exact absurd h (by assumption)
  rename_i h1
  have h1 : typC e = 0 := by simpa using h1
  unfold typC at h1
  split at h1
  · exact absurd h1 (by assumption)
  rename_i h2
  have h2 : exprF e = 0 := by simpa using h2
  have ht : typU e e.length = false := by
    cases h3 : typU e e.length with
    | false => rfl
    | true => rw [h3] at h1; simp at h1
  unfold exprF at h2
  split at h2
  · cases h2
  rename_i h3
  have h4 := inR_iff.1 (show inR e.length 1 16 = true by simpa using h3)
  split at h2
  · exact absurd h2 (by assumption)
  rename_i h5
  exact ⟨by omega, sc_all (by simpa using h5), ht⟩
theorem ProcOk.cond {p : List TStep} (h : ProcOk p) {a : Nat} (ha : a < p.length) (h0 : 0 < (nS p a).cond.length) : EGood (nS p a).cond := by
  have h1 := h.ty a ha
  unfold tyF at h1
  split at h1
  · exact absurd h1 (by assumption)
  · rename_i h2
    exact eGood h0 (by simpa using h2)
theorem ProcOk.expr {p : List TStep} (h : ProcOk p) {a : Nat} (ha : a < p.length) (h7 : (nS p a).kind = 7) : EGood (nS p a).expr := by
  have h1 := h.ty a ha
  unfold tyF at h1
  split at h1
  · exact absurd h1 (by assumption)
  · refine eGood ?_ h1
    have h2 := h.one a ha
    unfold oneF stepF at h2
    rw [h7] at h2
    repeat' split at h2
    all_goals first | (cases h2; done) | contradiction | skip
    all_goals (unfold exprF at h2; split at h2; · cases h2)
    all_goals (rename_i h3; have h4 := inR_iff.1 (show inR (nS p a).expr.length 1 16 = true by simpa using h3); omega)
theorem ProcOk.arg {p : List TStep} (h : ProcOk p) {a : Nat} (ha : a < p.length) (h2 : (nS p a).kind ≠ 2) : lowA (nS p a).kind ≤ (nS p a).arg ∧ (nS p a).arg ≤ highA (nS p a).kind := by
  have h1 := h.one a ha
  unfold oneF stepF at h1
  rw [if_neg h2] at h1
  split at h1
  · cases h1
  · split at h1
    · exact absurd h1 (by assumption)
    · split at h1
      · cases h1
      · split at h1
        · cases h1
        · omega
theorem ProcOk.steps' {p : List TStep} (h : ProcOk p) : StepsOk p := ⟨h.len, h.one⟩
theorem ProcOk.pre {p : List TStep} (h : ProcOk p) : PreOk (pars p) := h.steps'.pre
theorem ProcOk.kid {p : List TStep} (h : ProcOk p) {a : Nat} {k : Int} (hk : k ∈ kids p (a : Int)) : ∃ m : Nat, k = m ∧ a < m ∧ m < p.length ∧ (nS p m).par = a ∧ mE (pars p) m < mE (pars p) a := by
  obtain ⟨m, rfl, h1, h2, h3⟩ := kids_mem.1 hk
  have h4 := h.parI h1 h2
  exact ⟨m, rfl, by omega, h2, h3, mE_kid (by omega) (by rw [pars_len]; exact h2)⟩
theorem ProcOk.last {p : List TStep} (h : ProcOk p) {a : Nat} (h3 : (nS p a).kind = 3) {k : Int} (hk : k ∈ kids p (a : Int)) : (nS p k.toNat).cond.length = 0 ↔ k = lastI (kids p (a : Int)) := by
  obtain ⟨m, rfl, h1, h2, h4, _⟩ := h.kid hk
  have h5 := h.shape m h2
  unfold shapeF at h5
  simp only at h5
  split at h5
  · cases h5
  split at h5
  · cases h5
  rename_i h6
  have h6 : decide (0 < (nS p m).cond.length) = wants p m := by simpa using h6
  unfold wants at h6
  rw [h4] at h6
  rw [Int.toNat_natCast] at h6 ⊢
  have h7 : decide (m ≠ 0) = true := by simp; omega
  rw [h7, h3] at h6
  simp only [Bool.true_and, decide_true, decide_eq_decide] at h6
  constructor
  · intro h8
    by_cases h9 : (m : Int) = lastI (kids p (a : Int))
    · exact h9
    · have := h6.2 h9; omega
  · intro h8
    rcases Nat.eq_zero_or_pos (nS p m).cond.length with h9 | h9
    · exact h9
    · exact absurd h8 (h6.1 h9)
theorem ProcOk.chF {p : List TStep} (h : ProcOk p) {a : Nat} (h3 : (nS p a).kind = 3) (vars : List Int) (h0 : 0 ≤ chF p vars (kids p (a : Int))) : chF p vars (kids p (a : Int)) ∈ kids p (a : Int) := by
  have hne : kids p (a : Int) ≠ [] := by
    intro e; rw [e] at h0; simp [Go.AM.chF] at h0
  refine chF_ok _ ?_ hne _ rfl h0
  intro x hx
  have hm : x ∈ kids p (a : Int) := List.mem_of_getLast? hx
  refine (h.last h3 hm).2 ?_
  have := last_at hne
  rw [List.getLast?_eq_getElem?, this] at hx
  exact (Option.some.inj hx).symm
theorem ProcOk.wf {p : List TStep} (h : ProcOk p) {f : Nat} {b : Bool} {a : Nat} {c : TChart} (hw : WfC p c) : WfC p (goF p f b a c) := WfC.go (fun a ha h7 => by have := (h.expr ha h7).len; omega) f b a c (fun _ _ => True.intro) hw
/-! the equations, one by one -/
end Go.AM
namespace Go.AM
@[go_sem high] theorem I1_compR : (fun x => List.map unown x) ∘ I1 = I1 := rfl
@[go_sem high] theorem TNode_compR : (fun x => List.map unown x) ∘ TNode.ro = TNode.ro := by funext x; simp [TNode_ro_un]
end Go.AM
namespace Go.AM

section
variable {P : Program} {st : St} {K : Exit → St → Prop}

end
end Go.AM

namespace Go.AM
def labRes (lab : Labs) : Labs := fun b => match lab b with
  | some (.res, _) => none
  | l => l
theorem labRes_res {lab : Labs} {b : Nat} {q : List (Nat × Nat)} (h : lab b = some (.res, q)) : labRes lab b = none := by simp [labRes, h]
theorem labRes_none {lab : Labs} {b : Nat} (h : lab b = none) : labRes lab b = none := by simp [labRes, h]
theorem labRes_still {lab : Labs} {b : Nat} (h : still (lab b)) : labRes lab b = lab b := by
  unfold labRes
  split
  · rename_i h2; rw [h2] at h; exact h.elim
  · rfl

/-- an answer that nobody writes into any more -/
theorem DC.frz {P : Program} {f : FuncId} {args : List AV} {res : AV} (h : DC P f args res []) : DC P f args (unown res) [] := by
  refine ⟨h.body, ?_⟩
  intro w lab vals hl hv hf
  refine (h.calls w lab vals hl hv hf).mono fun e w' he => ?_
  obtain ⟨v, lab', rfl, hT, _, hE, hfr⟩ := he
  refine ⟨v, labRes lab', rfl, .imm _ _ _ (hT.unown (fun b hb => labRes_none hb) (fun b q hb => labRes_res hb)), by simp, ?_, ?_⟩
  · refine ⟨hE.size, hE.os, hE.out, ?_, hE.blk⟩
    intro b hb hs
    obtain ⟨h1, h2⟩ := hE.kept b hb hs
    refine ⟨?_, h2⟩
    have : labRes lab' b = lab' b := labRes_still (by rw [h1]; exact hs)
    rw [this, h1]
  · intro b hb
    apply hfr
    intro hn
    exact hb (labRes_none hn)
end Go.AM

namespace Go.AM
end Go.AM
namespace Go.AM

def labFz (lab : Labs) (id : Nat) : Labs := fun b => match lab b with
  | some (.obj k, p) => if k = id then none else some (.obj k, p)
  | l => l
theorem labFz_hit {lab : Labs} {id b : Nat} {q : List (Nat × Nat)} (h : lab b = some (.obj id, q)) : labFz lab id b = none := by simp [labFz, h]
theorem labFz_none {lab : Labs} {id b : Nat} (h : lab b = none) : labFz lab id b = none := by simp [labFz, h]
theorem labFz_other {lab : Labs} {id k b : Nat} {q : List (Nat × Nat)} (h : lab b = some (.obj k, q)) (hk : k ≠ id) : labFz lab id b = some (.obj k, q) := by simp [labFz, h, hk]
theorem labFz_still {lab : Labs} {id b : Nat} (h : still (lab b)) : labFz lab id b = lab b := by
  unfold labFz
  split
  · rename_i h2; rw [h2] at h; exact h.elim
  · rfl
theorem labFz_live {lab : Labs} {id b : Nat} (h : labFz lab id b ≠ none) : lab b ≠ none := by
  intro e; exact h (labFz_none e)

section
variable {P : Program} {st : St} {K : Exit → St → Prop}

theorem RepL.freeze {w0 : World} {lab0 : Labs} {a : Act} {w : World} {lab : Labs} {loc : Locs} {s id es i len : Nat} {nd : Node} (hR : RepL w0 lab0 st a w lab loc) (h1 : st.obj id = some nd) (h2 : st.slot s = some (.sl id es i len))
    (hes : nd.es = es) (hb : i + len ≤ nd.l.length) (ht : ∀ c ∈ nd.l, ∀ x ∈ c, AV.tree x = true) :
    RepL w0 lab0 ⟨st.n, (s, .isl es (((nd.l.drop i).take len).map (·.map unown))) :: st.slots, (id, none) :: st.objs⟩ a w (labFz lab id) (fun k => if k = id then none else loc k) := by
  have hloc : ∀ k b base, (fun k => if k = id then none else loc k) k = some (b, base) → loc k = some (b, base) := by
    intro k b base h
    simp only at h
    split at h
    · cases h
    · exact h
  have hV : ∀ x v, V w lab loc x v → V w (labFz lab id) (fun k => if k = id then none else loc k) x v := fun x v hv =>
    hv.mono (fun b _ h => ⟨labFz_none h, rfl⟩) (Nat.le_refl _) fun k _ b base h => ⟨hloc k b base h, fun _ h => h⟩
  refine ⟨hR.size, hR.defers, ?_, ?_, ?_, fun b h => hR.fresh b (labFz_live h), ?_⟩
  · intro s' x hx
    simp only [St.slot, look] at hx
    split at hx
    · rename_i e; subst e
      cases hx
      obtain ⟨b, base, hl, ho⟩ := hR.objs id nd h1
      obtain ⟨c, cap, hv, k1, k2, k3⟩ := (hR.slots _ _ h2).inv_sl hl
      refine .imm _ _ ?_
      rw [hv]
      have hll : ((nd.l.drop i).take len).length = len := by simp; omega
      by_cases hz : len = 0
      · subst hz
        simp only [List.take_zero, List.map_nil]
        exact .esl _ _ _
      have hc : c = ⟨b, base + i * es, none⟩ := by rcases k2 with h | h; omega; exact h
      subst hc
      have hres := I.isl (w := w) (lab := labFz lab id) es (((nd.l.drop i).take len).map (·.map unown)) b (base + i * es) cap
        (fun i' j => (w.cell? ⟨b, base + i * es + i' * es + j, none⟩).getD undef) (labFz_hit ho.hlab) ho.blk.lt (by rw [List.length_map, hll]; exact k1)
        (by
          intro c hc
          obtain ⟨c', hc', rfl⟩ := List.mem_map.1 hc
          rw [List.length_map, ← hes]
          exact ho.es c' (List.mem_of_mem_drop (List.mem_of_mem_take hc')))
        (by
          intro c hc x hx
          obtain ⟨c', hc', rfl⟩ := List.mem_map.1 hc
          obtain ⟨y, hy, rfl⟩ := List.mem_map.1 hx
          exact unown_plain (ht c' (List.mem_of_mem_drop (List.mem_of_mem_take hc')) y hy))
        ?_ ?_
      · rw [List.length_map, hll] at hres; exact hres
      · intro i' j hi hj
        rw [List.length_map, hll] at hi
        have hi2 : i + i' < nd.l.length := by omega
        have hc : nd.l[i + i']? = some nd.l[i + i'] := List.getElem?_eq_getElem hi2
        have hcl := ho.es _ (List.mem_of_getElem? hc)
        obtain ⟨v, hv, _⟩ := ho.cells (i + i') _ j _ hc (List.getElem?_eq_getElem (by omega))
        rw [hes, Nat.add_mul, ← Nat.add_assoc] at hv
        rw [hv]; rfl
      · intro i' c j x hi hj
        simp only [List.getElem?_map, Option.map_eq_some_iff] at hi
        obtain ⟨c', hc', rfl⟩ := hi
        simp only [List.getElem?_map, Option.map_eq_some_iff] at hj
        obtain ⟨y, hy, rfl⟩ := hj
        have hc2 : nd.l[i + i']? = some c' := by
          rw [List.getElem?_take] at hc'
          split at hc'
          · rwa [List.getElem?_drop] at hc'
          · cases hc'
        obtain ⟨v, hv, hcv⟩ := ho.cells (i + i') c' j y hc2 hy
        rw [hes, Nat.add_mul, ← Nat.add_assoc] at hv
        simp only [hv, Option.getD_some]
        refine (Cell.tree hcv (ht c' (List.mem_of_getElem? hc2) y (List.mem_of_getElem? hy))).unown (fun b h => labFz_none h) ?_
        intro b' q hq
        exact labFz_hit (by rw [hq]; rfl)
    · exact hV _ _ (hR.slots s' x hx)
  · intro k nk hk
    simp only [St.obj, look] at hk
    split at hk
    · simp at hk
    · rename_i hne
      have hne' : k ≠ id := fun e => hne e
      obtain ⟨b, base, hl, ho⟩ := hR.objs k nk hk
      refine ⟨b, base, by rw [if_neg hne']; exact hl, labFz_other ho.hlab hne', ho.blk, ho.es, ?_⟩
      intro i2 c2 j2 z hi hj
      obtain ⟨v, hv, hcv⟩ := ho.cells i2 c2 j2 z hi hj
      refine ⟨v, hv, hcv.imp (hV _ _) fun hT => hT.move (fun b _ h => ⟨labFz_none h, rfl⟩) ?_ (Nat.le_refl _)⟩
      intro b' q _ hq
      exact ⟨by rw [labFz_other (k := k) (q := (Lab.app (.obj k, [(i2, j2)]) q).2) (by rw [hq]; rfl) hne']; rfl, rfl⟩
  · intro k hk
    simp only [St.obj, look] at hk
    split at hk
    · rename_i e; simp [e]
    · have := hR.dead k hk
      split
      · rfl
      · exact this
  · have e := hR.ext
    refine ⟨e.size, e.os, e.out, ?_, e.blk⟩
    intro b hb hs
    obtain ⟨k1, k2⟩ := e.kept b hb hs
    exact ⟨by rw [labFz_still (by rw [k1]; exact hs), k1], k2⟩

theorem AW.freeze {code : Code} (s id : Nat) {es i len : Nat} {nd : Node} {l' : List (List AV)} (h1 : st.obj id = some nd) (h2 : st.slot s = some (.sl id es i len)) (hes : nd.es = es) (hb : i + len ≤ nd.l.length) (ht : ∀ c ∈ nd.l, ∀ x ∈ c, AV.tree x = true)
    (hl : ((nd.l.drop i).take len).map (·.map unown) = l')
    (h : AW P code ⟨st.n, (s, .isl es l') :: st.slots, (id, none) :: st.objs⟩ K) : AW P code st K := by
  subst hl
  exact AW.ghost (fun _ _ _ _ ⟨_, _, hR⟩ => ⟨_, _, hR.freeze h1 h2 hes hb ht⟩) h
end
end Go.AM
namespace Go.AM
section
variable {P : Program} {st : St} {K : Exit → St → Prop}
end
end Go.AM
namespace Go.AM
theorem owc_cases (es : Nat) (l : List (List AV)) : (owc es l = .isl es [] ∧ l = []) ∨ (owc es l = .osl es l ∧ l ≠ []) := by
  cases l with
  | nil => exact Or.inl ⟨rfl, rfl⟩
  | cons x r => exact Or.inr ⟨rfl, by simp⟩
/-- a node's marks -/
def fN (k : Int) (x : Int) : List AV := [.int .i64 (k + 4 * x), .int .i64 (k + 4 * x + 1), .int .i64 (k + 4 * x + 2), .int .i64 (k + 4 * x + 3)]
theorem fN_eq (k : Int) (i : Nat) : fN k (0 + i) = [.int .i64 (k + 4 * (i : Int)), .int .i64 (k + 4 * (i : Int) + 1), .int .i64 (k + 4 * (i : Int) + 2), .int .i64 (k + 4 * (i : Int) + 3)] := by simp [fN]
def TStep.mn (x : TStep) : Nat := 4 + 4 * x.cond.length + 4 * x.expr.length
def mkS (l : List TStep) : Nat := (l.map TStep.mn).sum
theorem mkS_take {l : List TStep} {i : Nat} {x : TStep} (h : l[i]? = some x) : mkS (l.take (i + 1)) = mkS (l.take i) + x.mn := by
  unfold mkS; rw [List.map_take, List.map_take]; exact sum_take h
theorem mkS_le (l : List TStep) (i : Nat) : mkS (l.take i) ≤ mkS l := by
  unfold mkS; rw [List.map_take]; exact sum_le
theorem mkS_len (l : List TStep) : l.length ≤ mkS l := by
  unfold mkS
  induction l with
  | nil => simp
  | cons x l ih => simp only [List.map_cons, List.sum_cons, List.length_cons, TStep.mn] at *; omega
theorem mkS_sz (l : List TStep) : mkS l ≤ 4 * (l.length + (l.map TStep.sz).sum) := by
  unfold mkS
  induction l with
  | nil => simp
  | cons x l ih => simp only [List.map_cons, List.sum_cons, List.length_cons, TStep.mn, TStep.sz] at *; omega
end Go.AM
namespace Go.AM
theorem not_ids_set {l : List (List AV)} {i : Nat} {c : List AV} {n : Nat} (h : l.flatMap idsL = []) (hc : ¬ n ∈ idsL c) : (∀ x, x ∈ l.set i c → ¬ n ∈ idsL x) ↔ True := by
  have h' : ∀ x ∈ l, idsL x = [] := List.flatMap_eq_nil_iff.1 h
  refine ⟨fun _ => True.intro, fun _ x hx => ?_⟩
  cases List.mem_or_eq_of_mem_set hx with
  | inl hx => rw [h' x hx]; simp
  | inr e => rw [e]; exact hc
end Go.AM
namespace Go.AM
def nodeM (k : Int) : TNode := ⟨k, k + 1, k + 2, k + 3⟩
def mN (n : Nat) (k : Int) : List TNode := (List.range n).map fun (i : Nat) => nodeM (k + 4 * (i : Int))
theorem mN_len {n : Nat} {k : Int} : (mN n k).length = n := by simp [mN]
theorem mN_at {n : Nat} {k : Int} {i : Nat} (h : i < n) : (mN n k)[i]? = some (nodeM (k + 4 * (i : Int))) := by simp [mN, h]
theorem mkN_end {l : List TNode} {k : Int} : mkP (fN k) (l.map TNode.ro) 0 l.length = (mN l.length k).map TNode.ro := by
  unfold mkP mN
  rw [List.drop_eq_nil_of_le (by simp), List.append_nil, List.map_map]
  apply List.map_congr_left
  intro i _
  simp [fN, nodeM, TNode.ro]
def stepM (k : Int) (x : TStep) : TStep := ⟨k, k + 1, mt (k + 2), k + 3, mN x.cond.length (k + 4), mN x.expr.length (k + 4 + 4 * (x.cond.length : Int))⟩
def mSt (k : Int) (l : List TStep) : List TStep := l.mapIdx fun j x => stepM (k + (mkS (l.take j) : Int)) x
theorem mSt_len {k : Int} {l : List TStep} : (mSt k l).length = l.length := by simp [mSt]
theorem mSt_at {k : Int} {l : List TStep} {i : Nat} {x : TStep} (h : l[i]? = some x) : (mSt k l)[i]? = some (stepM (k + (mkS (l.take i) : Int)) x) := by simp [mSt, h]
def mix {α : Type} (a b : List α) (i : Nat) : List α := a.take i ++ b.drop i
theorem mix_len {α : Type} {a b : List α} {i : Nat} (h : a.length = b.length) (hi : i ≤ b.length) : (mix a b i).length = b.length := by simp [mix]; omega
theorem mix_at {α : Type} {a b : List α} {i : Nat} {x : α} (hl : a.length = b.length) (h : b[i]? = some x) : (mix a b i)[i]? = some x := by
  have hi := at_lt h
  unfold mix
  rw [List.getElem?_append_right (by simp; omega), List.getElem?_drop]
  rw [show i + (i - (a.take i).length) = i by simp; omega]
  exact h
theorem mix_set {α : Type} {a b : List α} {i : Nat} {y : α} (hl : a.length = b.length) (h : a[i]? = some y) : (mix a b i).set i y = mix a b (i + 1) := by
  have hi := at_lt h
  unfold mix
  rw [List.set_append, if_neg (by simp; omega), show i - (a.take i).length = 0 by simp; omega, List.drop_eq_getElem_cons (by omega), List.set_cons_zero, List.take_add_one, h]
  simp
theorem mix_zero {α : Type} (a b : List α) : mix a b 0 = b := by simp [mix]
theorem mix_end {α : Type} {a b : List α} {i : Nat} (hl : a.length = b.length) (h : b.length ≤ i) : mix a b i = a := by
  unfold mix; rw [List.take_of_length_le (by omega), List.drop_eq_nil_of_le h, List.append_nil]
theorem ocids (l : List TStep) : (l.map TStep.oc).flatMap idsL = [] := flatids (f := TStep.oc) (by intro x; simp [go_sem]) l
theorem ncases (l : List TNode) : (owc 4 (l.map TNode.ro) = .isl 4 [] ∧ (∀ K, owc 4 ((mN l.length K).map TNode.ro) = .isl 4 []) ∧ l.length = 0) ∨
    (owc 4 (l.map TNode.ro) = .osl 4 (l.map TNode.ro) ∧ (∀ K, owc 4 ((mN l.length K).map TNode.ro) = .osl 4 ((mN l.length K).map TNode.ro)) ∧ 0 < l.length) := by
  cases l with
  | nil => exact Or.inl ⟨rfl, fun _ => rfl, rfl⟩
  | cons x r =>
    refine Or.inr ⟨rfl, fun K => ?_, by simp⟩
    have : (mN (x :: r).length K).map TNode.ro ≠ [] := by intro h; have := congrArg List.length h; simp [mN] at this
    rcases owc_cases 4 ((mN (x :: r).length K).map TNode.ro) with ⟨_, h⟩ | ⟨h, _⟩
    · exact absurd h this
    · exact h
end Go.AM
namespace Go.AM
theorem app_here {es i : Nat} {a : List (List AV)} {c : List AV} (h : a.length = i) : (⟨es, a ++ [c]⟩ : Node).l[i]? = some c := by subst h; simp
/-- the first i steps, owned -/
def cpS (l : List TStep) (i : Nat) : List (List AV) := (l.take i).map TStep.oc
theorem cpS_ids (l : List TStep) (i : Nat) : (cpS l i).flatMap idsL = [] := ocids _
theorem cpS_no (l : List TStep) (i n : Nat) : (∀ x, x ∈ cpS l i → ¬ n ∈ idsL x) ↔ True := by
  have h := cpS_ids l i
  rw [List.flatMap_eq_nil_iff] at h
  exact ⟨fun _ => True.intro, fun _ x hx => by rw [h x hx]; simp⟩
theorem cpS_zero (l : List TStep) : cpS l 0 = [] := rfl
theorem ccases (l : List TNode) : (owc 4 (l.map TNode.ro) = .isl 4 [] ∧ l.length = 0) ∨ (owc 4 (l.map TNode.ro) = .osl 4 (l.map TNode.ro) ∧ 0 < l.length) := by
  cases l with
  | nil => exact Or.inl ⟨rfl, rfl⟩
  | cons x r => exact Or.inr ⟨rfl, by simp⟩
attribute [go_sem] cpS_ids cpS_no cpS_zero
end Go.AM
namespace Go.AM
/-- the first i processes, owned -/
def cpP (l : List TProc) (i : Nat) : List (List AV) := (l.take i).map fun p => [.osl 6 (p.steps.map TStep.oc)]
theorem cpP_ids (l : List TProc) (i : Nat) : (cpP l i).flatMap idsL = [] := flatids (by intro x; simp [go_sem]) _
theorem cpP_no (l : List TProc) (i n : Nat) : (∀ x, x ∈ cpP l i → ¬ n ∈ idsL x) ↔ True := by
  have h := cpP_ids l i
  rw [List.flatMap_eq_nil_iff] at h
  exact ⟨fun _ => True.intro, fun _ x hx => by rw [h x hx]; simp⟩
theorem cpP_zero (l : List TProc) : cpP l 0 = [] := rfl
attribute [go_sem] cpP_ids cpP_no cpP_zero
end Go.AM
namespace Go.AM

/-- a step with what is below it -/
inductive TB where
  | mk (s : TStep) (ks : List TB)
def TB.s : TB → TStep | .mk s _ => s
def TB.ks : TB → List TB | .mk _ ks => ks
instance : Inhabited TB := ⟨.mk default []⟩
@[go_sem] theorem TB.s_mk (s ks) : (TB.mk s ks).s = s := rfl
@[go_sem] theorem TB.ks_mk (s ks) : (TB.mk s ks).ks = ks := rfl
mutual
def TB.ro : TB → List AV
  | .mk s ks => [.int .i64 s.kind, .int .i64 s.par, .str s.name, .int .i64 s.arg, .isl 4 (s.cond.map TNode.ro), .isl 4 (s.expr.map TNode.ro), .isl 7 (TB.roL ks)]
def TB.roL : List TB → List (List AV)
  | [] => []
  | k :: ks => k.ro :: TB.roL ks
end
theorem TB.roL_eq (l : List TB) : TB.roL l = l.map TB.ro := by
  induction l with
  | nil => rfl
  | cons x l ih => simp only [TB.roL, List.map_cons, ih]
@[go_sem] theorem TB_ro_eq (x : TB) : x.ro = [.int .i64 x.s.kind, .int .i64 x.s.par, .str x.s.name, .int .i64 x.s.arg, .isl 4 (x.s.cond.map TNode.ro), .isl 4 (x.s.expr.map TNode.ro), .isl 7 (x.ks.map TB.ro)] := by
  cases x; simp only [TB.ro, TB.roL_eq, TB.s, TB.ks]
def rowT (x : TB) : List AV := [.int .i64 x.s.kind, .int .i64 x.s.par, .str x.s.name, .int .i64 x.s.arg, .isl 4 (x.s.cond.map TNode.ro), .isl 4 (x.s.expr.map TNode.ro), .isl 7 (x.ks.map TB.ro)]
@[go_sem] theorem rowT_eq (x : TB) : rowT x = [.int .i64 x.s.kind, .int .i64 x.s.par, .str x.s.name, .int .i64 x.s.arg, .isl 4 (x.s.cond.map TNode.ro), .isl 4 (x.s.expr.map TNode.ro), .isl 7 (x.ks.map TB.ro)] := rfl
theorem TB_ro_un (x : TB) : x.ro.map unown = x.ro := by rw [TB_ro_eq]; simp [go_sem]
@[go_sem high] theorem TB_ro_unL (l : List _) : unownLL (l.map TB.ro) = l.map TB.ro := unownLL_map TB_ro_un l
@[go_sem high] theorem TB_ro_unM (l : List _) : (l.map TB.ro).map (List.map unown) = l.map TB.ro := mapun TB_ro_un l
@[go_sem] theorem TB_ro_ids (x) : idsL (TB.ro x) = [] := by rw [TB_ro_eq]; simp [go_sem]
@[go_sem high] theorem TB_ro_idsL (l : List _) : (l.map TB.ro).flatMap idsL = [] := flatids TB_ro_ids l
theorem TB_ro_tree (a) : ∀ x ∈ TB.ro a, x.tree = true := by rw [TB_ro_eq]; simp [go_sem]
@[go_sem high] theorem TB_ro_treeL (l : List _) : (∀ c ∈ l.map TB.ro, ∀ x ∈ c, AV.tree x = true) ↔ True := maptree TB_ro_tree l

/-- the tree of a process from a step on -/
def growF (p : List TStep) : Nat → Nat → TB
  | 0, a => .mk (nS p a) []
  | f + 1, a => .mk (nS p a) ((kids p (a : Int)).map fun k => growF p f k.toNat)
theorem grow_succ (p : List TStep) (f a : Nat) : growF p (f + 1) a = .mk (nS p a) ((kids p (a : Int)).map fun k => growF p f k.toNat) := rfl

mutual
def TB.cnt : TB → Nat
  | .mk _ ks => 1 + TB.cntL ks
def TB.cntL : List TB → Nat
  | [] => 0
  | k :: ks => k.cnt + TB.cntL ks
end
theorem TB.cnt_eq (t : TB) : t.cnt = 1 + TB.cntL t.ks := by cases t; rfl
mutual
def TB.all (P : TStep → Prop) : TB → Prop
  | .mk s ks => P s ∧ TB.allL P ks
def TB.allL (P : TStep → Prop) : List TB → Prop
  | [] => True
  | k :: ks => k.all P ∧ TB.allL P ks
end
theorem TB.allL_iff {P : TStep → Prop} {l : List TB} : TB.allL P l ↔ ∀ k ∈ l, k.all P := by
  induction l with
  | nil => simp [TB.allL]
  | cons x l ih => simp [TB.allL, ih]
theorem TB.all_iff {P : TStep → Prop} {t : TB} : t.all P ↔ P t.s ∧ ∀ k ∈ t.ks, k.all P := by
  cases t; simp only [TB.all, TB.allL_iff, TB.s, TB.ks]

/-- what a kid that is made plain adds -/
def joinF (s : TStep) (l : List TB) : List TB := l.flatMap fun k => if s.kind = 1 ∧ k.s.kind = 1 then k.ks else [k]
def condB (s o : TStep) : TStep := if 0 < s.cond.length then { o with cond := s.cond } else o
def soleF (s : TStep) (l : List TB) : TB := match l with
  | [o] => if s.kind = 1 then .mk (condB s o.s) o.ks else .mk s l
  | _ => .mk s l
mutual
def plainT : TB → TB
  | .mk s ks => soleF s (joinF s (plainL ks))
def plainL : List TB → List TB
  | [] => []
  | k :: ks => plainT k :: plainL ks
end
mutual
def stepsT (n : Nat) (par : Int) : TB → List TStep
  | .mk s ks => { s with par := par } :: stepsL (n + 1) (n : Int) ks
def stepsL (n : Nat) (par : Int) : List TB → List TStep
  | [] => []
  | k :: ks => stepsT n par k ++ stepsL (n + k.cnt) par ks
end
theorem take_snoc {α : Type} {l : List α} {i : Nat} {x : α} (h : l[i]? = some x) : l.take (i + 1) = l.take i ++ [x] := by
  rw [List.take_add_one, h]; rfl
/-- kids lie behind each other -/
theorem en_next {l : List Int} (hl : PreOk l) {a s : Nat} (has : a < s) (hs : s < l.length) {q : Nat} (ha : l.getD a 0 = (q : Int)) (hp : l.getD s 0 = (q : Int)) : en l a ≤ s := by
  rcases Nat.lt_or_ge s (en l a) with h | h
  · exfalso
    have h1 : upB l s a = true := by rw [up_iff hl (by omega) hs (by omega)]; simpa using h
    have h2 := up_gone hl has hs (by rw [ha, hp]) s s (Nat.le_refl _) (Nat.le_refl _) hs a (Nat.le_refl _) has
    rw [h1] at h2; cases h2
  · exact h
theorem grow_cntL {p : List TStep} (hl : PreOk (pars p)) {q : Nat} (f e : Nat) (he : ∀ m : Nat, m < p.length → (pars p).getD m 0 = (q : Int) → en (pars p) m ≤ e)
    (hf : ∀ m : Nat, q < m → m < p.length → (growF p f m).cnt ≤ en (pars p) m - m) :
    ∀ (l : List Int) (b : Nat), (∀ k ∈ l, ∃ m : Nat, k = m ∧ b ≤ m ∧ q < m ∧ m < p.length ∧ (pars p).getD m 0 = (q : Int)) → l.Pairwise (· < ·) → b ≤ e → TB.cntL (l.map fun k => growF p f k.toNat) ≤ e - b := by
  intro l
  induction l with
  | nil => intro b _ _ _; simp [TB.cntL]
  | cons x l ih =>
    intro b h hp hb
    obtain ⟨m, rfl, h1, h2, h3, h4⟩ := h x List.mem_cons_self
    have hpl := pars_len p
    have h5 := he m h3 h4
    have h6 := hf m h2 h3
    have h7 := en_self hl (q := m) (by omega)
    have h8 := ih (en (pars p) m) (by
      intro k hk
      obtain ⟨m2, rfl, g1, g2, g3, g4⟩ := h k (List.mem_cons_of_mem _ hk)
      have g5 := (List.pairwise_cons.1 hp).1 _ hk
      exact ⟨m2, rfl, en_next hl (by omega) (by omega) h4 g4, g2, g3, g4⟩) (List.pairwise_cons.1 hp).2 h5
    simp only [List.map_cons, TB.cntL, Int.toNat_natCast]
    omega
theorem grow_cnt {p : List TStep} (hP : ProcOk p) : ∀ (f a : Nat), a < p.length → (growF p f a).cnt ≤ en (pars p) a - a := by
  intro f
  have hpl := pars_len p
  induction f with
  | zero =>
    intro a ha
    have := en_self hP.pre (q := a) (by omega)
    simp only [growF, TB.cnt, TB.cntL]; omega
  | succ f ih =>
    intro a ha
    have h0 := en_self hP.pre (q := a) (by omega)
    have h1 := grow_cntL (p := p) hP.pre (q := a) f (en (pars p) a) (fun m hm h => en_par hP.pre (by omega) h) (fun m _ hm => ih m hm) (kids p (a : Int)) (a + 1) (by
      intro k hk
      obtain ⟨m, rfl, h1, h2, h3, h4⟩ := hP.kid hk
      exact ⟨m, rfl, by omega, h1, h2, by rw [pars_get h2, h3]⟩) (kids_pw p a) (by omega)
    rw [grow_succ]
    simp only [TB.cnt]; omega
theorem grow_all {P : TStep → Prop} {p : List TStep} (hp : ∀ s ∈ p, P s) (hn : ∀ a, a < p.length → ∀ k ∈ kids p (a : Int), k.toNat < p.length) : ∀ (f a : Nat), a < p.length → (growF p f a).all P := by
  intro f
  have h0 : ∀ a, a < p.length → P (nS p a) := fun a ha => by
    obtain ⟨x, hx⟩ := at_some ha
    rw [nS_at hx]; exact hp x (List.mem_of_getElem? hx)
  induction f with
  | zero => intro a ha; exact TB.all_iff.2 ⟨h0 a ha, by intro k hk; cases hk⟩
  | succ f ih =>
    intro a ha
    refine TB.all_iff.2 ⟨h0 a ha, ?_⟩
    intro k hk
    obtain ⟨m, hm, rfl⟩ := List.mem_map.1 hk
    exact ih _ (hn a ha m hm)
/-- what a step of a process holds at most -/
def Sml (s : TStep) : Prop := s.name.length ≤ 8 ∧ s.cond.length ≤ 16 ∧ s.expr.length ≤ 16
theorem ProcOk.sml {p : List TStep} (h : ProcOk p) : ∀ s ∈ p, Sml s := by
  intro s hs
  obtain ⟨a, ha⟩ := List.mem_iff_getElem?.1 hs
  have hl := at_lt ha
  have hn := nS_at ha
  have h1 := h.ty a hl
  have h2 := h.one a hl
  rw [← hn]
  unfold tyF at h1
  refine ⟨?_, ?_, ?_⟩
  · unfold oneF stepF at h2
    by_cases hk : (nS p a).kind = 2
    · rw [if_pos hk] at h2
      repeat' split at h2
      all_goals first | (cases h2; done) | contradiction | skip
      unfold nameF at h2
      repeat' split at h2
      all_goals first | (cases h2; done) | omega
    · have h3 : alien (nS p a) = false := by
        cases h4 : alien (nS p a) with
        | false => rfl
        | true => rw [h4] at h2; simp at h2
      unfold alien at h3
      simp only [Bool.or_eq_false_iff, Bool.and_eq_false_iff] at h3
      have h5 := h3.1.1
      simp [hk] at h5
      simp [h5]
  · rcases Nat.eq_zero_or_pos (nS p a).cond.length with h0 | h0
    · omega
    · exact (h.cond hl h0).len.2
  · rcases Nat.eq_zero_or_pos (nS p a).expr.length with h0 | h0
    · omega
    · split at h1
      · exact absurd h1 (by assumption)
      · exact (eGood h0 h1).len.2
theorem grow_ok {p : List TStep} (h : ProcOk p) : (growF p p.length 0).cnt ≤ 24 ∧ (growF p p.length 0).all Sml := by
  have hl := h.len
  have hpl := pars_len p
  refine ⟨?_, grow_all (P := Sml) h.sml (fun a ha k hk => (kids_bd hk).2) _ _ (by omega)⟩
  have h1 := grow_cnt h p.length 0 (by omega)
  have h2 := en_le h.pre.1 0 0 (Nat.le_refl _) (show 0 < (pars p).length by omega)
  omega
end Go.AM
namespace Go.AM
section
variable {α : Type} (key : α → Int)
def Ord (l : List α) : Prop := l.Pairwise fun x y => key x ≤ key y
/-- those of one key -/
def ofK (k : Int) (l : List α) : List α := l.filter fun x => decide (key x = k)
variable {key}
theorem ofK_cons (k : Int) (x : α) (l : List α) : ofK key k (x :: l) = if key x = k then x :: ofK key k l else ofK key k l := by
  unfold ofK; rw [List.filter_cons]; by_cases h : key x = k <;> simp [h]
theorem ofK_append (k : Int) (l m : List α) : ofK key k (l ++ m) = ofK key k l ++ ofK key k m := List.filter_append _ _
theorem ofK_nil {l : List α} (h : ∀ k, ofK key k l = []) : l = [] := by
  cases l with
  | nil => rfl
  | cons x r => have := h (key x); rw [ofK_cons, if_pos rfl] at this; cases this
theorem ord_one : ∀ (l m : List α), Ord key l → Ord key m → (∀ k, ofK key k l = ofK key k m) → l = m
  | [], m, _, _, h => (ofK_nil fun k => (h k).symm).symm
  | x :: r, [], _, _, h => ofK_nil fun k => h k
  | x :: r, y :: s, h1, h2, h => by
    have h1' := List.pairwise_cons.1 h1
    have h2' := List.pairwise_cons.1 h2
    have hxy : key x = key y := by
      have a1 : key x ≤ key y := by
        have hy := h (key y)
        have hm : y ∈ ofK key (key y) (x :: r) := by rw [hy, ofK_cons, if_pos rfl]; exact List.mem_cons_self
        have hm2 := (List.mem_filter.1 hm).1
        rcases List.mem_cons.1 hm2 with e | e
        · rw [e]; exact Int.le_refl _
        · exact h1'.1 y e
      have a2 : key y ≤ key x := by
        have hx := h (key x)
        have hm : x ∈ ofK key (key x) (y :: s) := by rw [← hx, ofK_cons, if_pos rfl]; exact List.mem_cons_self
        have hm2 := (List.mem_filter.1 hm).1
        rcases List.mem_cons.1 hm2 with e | e
        · rw [e]; exact Int.le_refl _
        · exact h2'.1 x e
      omega
    have hh := h (key x)
    rw [ofK_cons, ofK_cons, if_pos rfl, if_pos hxy.symm] at hh
    obtain ⟨rfl, _⟩ := List.cons.inj hh
    rw [ord_one r s h1'.2 h2'.2 fun k => by
      have := h k
      rw [ofK_cons, ofK_cons] at this
      split at this
      · exact (List.cons.inj this).2
      · exact this]
variable (key)
/-- put in behind all that are not greater -/
def putK (l : List α) (x : α) : List α := l.takeWhile (fun y => decide (key y ≤ key x)) ++ x :: l.dropWhile (fun y => decide (key y ≤ key x))
variable {key}
theorem ord_app {l m : List α} : Ord key (l ++ m) ↔ Ord key l ∧ Ord key m ∧ ∀ x ∈ l, ∀ y ∈ m, key x ≤ key y := List.pairwise_append
theorem drop_gt {x : α} : ∀ (l : List α), Ord key l → ∀ y ∈ l.dropWhile (fun y => decide (key y ≤ key x)), key x < key y
  | [], _, y, hy => by cases hy
  | z :: r, h, y, hy => by
    have h' := List.pairwise_cons.1 h
    rw [List.dropWhile_cons] at hy
    split at hy
    · exact drop_gt r h'.2 y hy
    · rename_i hz
      have hz : ¬ key z ≤ key x := by simpa using hz
      rcases List.mem_cons.1 hy with e | e
      · rw [e]; omega
      · have := h'.1 y e; omega
theorem take_le {x : α} : ∀ (l : List α), ∀ y ∈ l.takeWhile (fun y => decide (key y ≤ key x)), key y ≤ key x
  | [], y, hy => by cases hy
  | z :: r, y, hy => by
    rw [List.takeWhile_cons] at hy
    split at hy
    · rename_i hz
      rcases List.mem_cons.1 hy with e | e
      · rw [e]; simpa using hz
      · exact take_le r y e
    · cases hy
theorem put_ord {l : List α} (h : Ord key l) (x : α) : Ord key (putK key l x) := by
  have hs : Ord key (l.takeWhile (fun y => decide (key y ≤ key x)) ++ l.dropWhile (fun y => decide (key y ≤ key x))) := by rw [List.takeWhile_append_dropWhile]; exact h
  obtain ⟨h1, h2, h3⟩ := ord_app.1 hs
  unfold putK
  refine ord_app.2 ⟨h1, List.pairwise_cons.2 ⟨fun y hy => ?_, h2⟩, fun a ha b hb => ?_⟩
  · have := drop_gt l h y hy; omega
  · rcases List.mem_cons.1 hb with e | e
    · rw [e]; exact take_le l a ha
    · exact h3 a ha b e
theorem put_of {l : List α} (h : Ord key l) (x : α) (k : Int) : ofK key k (putK key l x) = ofK key k l ++ if key x = k then [x] else [] := by
  have hs : ofK key k l = ofK key k (l.takeWhile (fun y => decide (key y ≤ key x))) ++ ofK key k (l.dropWhile (fun y => decide (key y ≤ key x))) := by rw [← ofK_append, List.takeWhile_append_dropWhile]
  unfold putK
  rw [ofK_append, ofK_cons, hs]
  split
  · rename_i hk
    have hd : ofK key k (l.dropWhile (fun y => decide (key y ≤ key x))) = [] := by
      unfold ofK
      rw [List.filter_eq_nil_iff]
      intro y hy
      have := drop_gt l h y hy
      simp; omega
    rw [hd]; simp
  · simp
/-- put in one by one: the stable order of the whole -/
theorem puts_ord : ∀ (l acc : List α), Ord key acc → Ord key (l.foldl (putK key) acc) ∧ ∀ k, ofK key k (l.foldl (putK key) acc) = ofK key k acc ++ ofK key k l
  | [], acc, h => ⟨h, fun k => by simp [ofK]⟩
  | x :: r, acc, h => by
    obtain ⟨h1, h2⟩ := puts_ord r (putK key acc x) (put_ord h x)
    refine ⟨h1, fun k => ?_⟩
    rw [List.foldl_cons, h2, put_of h, ofK_cons]
    split <;> simp
/-- whatever is ordered and keeps the order of equals is that -/
theorem stable_puts {l m : List α} (h : Ord key m) (hk : ∀ k, ofK key k m = ofK key k l) : m = l.foldl (putK key) [] := by
  obtain ⟨h1, h2⟩ := puts_ord (key := key) l [] List.Pairwise.nil
  exact ord_one m _ h h1 fun k => by rw [hk, h2]; rfl
/-- two blocks change places: all of the first are greater -/
theorem rot_of {a b : List α} (h : ∀ x ∈ a, ∀ y ∈ b, key y < key x) (k : Int) : ofK key k (b ++ a) = ofK key k (a ++ b) := by
  rw [ofK_append, ofK_append]
  by_cases h1 : ofK key k a = []
  · rw [h1]; simp
  · have h2 : ofK key k b = [] := by
      unfold ofK at h1 ⊢
      rw [List.filter_eq_nil_iff]
      intro y hy
      simp only [decide_eq_true_eq]
      intro hk
      apply h1
      rw [List.filter_eq_nil_iff]
      intro x hx
      have := h x hx y hy
      simp; omega
    rw [h2]; simp
theorem rot_in {p a b q : List α} (h : ∀ x ∈ a, ∀ y ∈ b, key y < key x) (k : Int) : ofK key k (p ++ (b ++ a) ++ q) = ofK key k (p ++ (a ++ b) ++ q) := by
  rw [ofK_append, ofK_append, ofK_append (l := p ++ (a ++ b)), ofK_append (l := p), rot_of h]
end
end Go.AM
namespace Go.AM
/-- of an answer only how long it is -/
theorem DC.lns {P : Program} {f : FuncId} {args : List AV} {es : Nat} {l : List (List AV)} {muts : List (Nat × AV)} (h : DC P f args (.isl es l) muts) : DC P f args (.lns l.length) muts := by
  refine ⟨h.body, ?_⟩
  intro w lab vals hlen hv hf
  refine (h.calls w lab vals hlen hv hf).mono fun e w' he => ?_
  obtain ⟨v, lab', rfl, hT, hM, hE, hfr⟩ := he
  refine ⟨v, lab', rfl, ?_, hM, hE, hfr⟩
  cases hT with
  | imm _ _ _ hI =>
    cases hI with
    | nsl => exact .imm _ _ _ (.lns _ _ _)
    | esl => exact .imm _ _ _ (.lns _ _ _)
    | isl => exact .imm _ _ _ (.lns _ _ _)
end Go.AM
namespace Go.AM
/-- told otherwise, so that Q -/
def Gh (s : St) (Q : St → Prop) : Prop := ∃ s', (∀ w0 lab0 a w, Rep w0 lab0 s a w → Rep w0 lab0 s' a w) ∧ Q s'
theorem Gh.done {s : St} {Q : St → Prop} (h : Q s) : Gh s Q := ⟨s, fun _ _ _ _ h => h, h⟩
theorem Gh.ghost {s s' : St} {Q : St → Prop} (hr : ∀ w0 lab0 a w, Rep w0 lab0 s a w → Rep w0 lab0 s' a w) (h : Gh s' Q) : Gh s Q := by
  obtain ⟨s2, h1, h2⟩ := h
  exact ⟨s2, fun w0 lab0 a w h => h1 w0 lab0 a w (hr w0 lab0 a w h), h2⟩
theorem Gh.fold {st : St} {Q : St → Prop} (id i j id' : Nat) {es n : Nat} {nd : Node} {c : List AV} {l : List (List AV)} (h1 : st.obj id = some nd) (h2 : nd.l[i]? = some c)
    (h4 : st.obj id' = some ⟨es, l⟩) (h3 : c[j]? = some (.sl id' es 0 n)) (hn : n = l.length) (h5 : id ≠ id') (h6 : ∀ c ∈ l, ∀ x ∈ c, AV.tree x = true)
    (h : Gh ⟨st.n, st.slots, (id', none) :: (id, some ⟨nd.es, nd.l.set i (c.set j (.osl es l))⟩) :: st.objs⟩ Q) : Gh st Q :=
  Gh.ghost (fun _ _ _ _ hR => hR.fold h1 h2 (by rw [h3, hn]) h4 h5 h6) h
theorem AW.ghostK {P : Program} {c : Code} {st : St} {A : Exit → Prop} {Q : St → Prop} (h : AW P c st fun e s => A e ∧ Gh s Q) : AW P c st fun e s => A e ∧ Q s := by
  refine ⟨fun w0 lab0 a w hR => wp_mono (h.go w0 lab0 a w hR) ?_⟩
  rintro e a' w' ⟨⟨s, ⟨h1, s2, h2, h3⟩, h4⟩, h5⟩
  exact ⟨⟨s2, ⟨h1, h3⟩, h2 _ _ _ _ h4⟩, h5⟩
theorem DC.introG {P : Program} {ti : TI} (hT : TOk P ti) {f : FuncId} {fn : Func} {c : Code} {args xs0 : List AV} {po : PlanO} {res : AV} {muts : List (Nat × AV)} (hfn : P.funcs[f]? = some fn) (hb : fn.body = some c) (hname : (fn.name == "runtime.NumGoroutine") = false)
    {rs : List ResultVar} (hrs : fn.results.toList = rs) {n : Nat} (hn' : fn.ntmps = n) (hn : (decide (args.length ≤ n)) = true) (h0 : argsIn 0 args = some (xs0, po)) (hc : (apart po && decide (po.map (·.2.1)).Nodup && po.all (fun e => !decide (e.1.1 = .tmp))) = true)
    (hm : (muts.all fun q => noW q.1 c && decide (q.1 < 900) && decide (q.1 < args.length)) = true) (ow : List Nat)
    (h : AW P c ⟨n, enumFrom 0 xs0, po.map fun e => (e.2.1, some e.2.2)⟩ fun e s => (e = .normal ∨ e = .ret) ∧ Gh s fun s => (muts.all fun q => match s.slot q.1 with | some x => !isFn x | none => true) = true ∧ finOk ti rs ow muts s res) : DC P f args res muts :=
  DC.intro hT hfn hb hname hrs hn' hn h0 hc hm ow (AW.ghostK h)
end Go.AM
namespace Go.AM
section
variable {P : Program} {st : St} {K : Exit → St → Prop}
end
end Go.AM
namespace Go.AM

/-- a row of two numbers and a value that nobody looks at -/
structure VF where
  src : Int
  to : Int
  v : Value
def VF.row (x : VF) : List AV := [.int .i64 x.src, .int .i64 x.to, .val x.v]
@[go_sem] theorem VF_row_eq (x : VF) : x.row = [.int .i64 x.src, .int .i64 x.to, .val x.v] := rfl
theorem VF_row_un (x : VF) : x.row.map unown = x.row := by simp [VF.row, go_sem, unown]
@[go_sem high] theorem VF_row_unL (l : List _) : unownLL (l.map VF.row) = l.map VF.row := unownLL_map VF_row_un l
@[go_sem high] theorem VF_row_unM (l : List _) : (l.map VF.row).map (List.map unown) = l.map VF.row := mapun VF_row_un l
@[go_sem] theorem VF_row_ids (x) : idsL (VF.row x) = [] := by simp [VF.row, go_sem, AV.ids]
@[go_sem high] theorem VF_row_idsL (l : List _) : (l.map VF.row).flatMap idsL = [] := flatids VF_row_ids l
theorem VF_row_tree (a) : ∀ x ∈ VF.row a, x.tree = true := by simp [VF.row, go_sem]
@[go_sem high] theorem VF_row_treeL (l : List _) : (∀ c ∈ l.map VF.row, ∀ x ∈ c, AV.tree x = true) ↔ True := maptree VF_row_tree l

/-- what lies below an argument is nobody's -/
def labOpT (lab : Labs) : Labs := fun b => match lab b with
  | some (.arg 0, _ :: _) => some (.tmp, [])
  | l => l
theorem labOpT_none {lab : Labs} {b : Nat} (h : lab b = none) : labOpT lab b = none := by simp [labOpT, h]
theorem labOpT_in {lab : Labs} {b : Nat} {p : Nat × Nat} {q : List (Nat × Nat)} (h : lab b = some (.arg 0, p :: q)) : labOpT lab b = some (.tmp, []) := by simp [labOpT, h]
theorem labOpT_out {lab : Labs} {b : Nat} (h : ∀ p q, lab b ≠ some (.arg 0, p :: q)) : labOpT lab b = lab b := by
  unfold labOpT
  split
  · rename_i p q e; exact absurd e (h p q)
  · rfl
/-- .. and is at its new place behind -/
def labOpB (lab lab' : Labs) (g : Nat → Nat) (n : Nat) : Labs := fun b => if b < n then (match lab b with
  | some (.arg 0, (i, j) :: q) => some (.arg 0, (g i, j) :: q)
  | _ => lab' b) else lab' b
theorem labOpB_in {lab lab' : Labs} {g : Nat → Nat} {n b i j : Nat} {q : List (Nat × Nat)} (hb : b < n) (h : lab b = some (.arg 0, (i, j) :: q)) : labOpB lab lab' g n b = some (.arg 0, (g i, j) :: q) := by simp [labOpB, h, hb]
theorem labOpB_out {lab lab' : Labs} {g : Nat → Nat} {n b : Nat} (h : ∀ p q, lab b ≠ some (.arg 0, p :: q)) : labOpB lab lab' g n b = lab' b := by
  unfold labOpB
  split
  · split
    · rename_i i j q e; exact absurd e (h _ _)
    · rfl
  · rfl
theorem labOpB_ge {lab lab' : Labs} {g : Nat → Nat} {n b : Nat} (h : ¬ b < n) : labOpB lab lab' g n b = lab' b := by simp [labOpB, h]

/-- the rows of l are only moved: whatever the third cells are, they come back with their numbers -/
theorem DC.unseen {P : Program} {f : FuncId} {rest : List AV} {α : Type} (fr ft : α → Int) (fc : α → AV) (hfc : ∀ x, (fc x).tree = true) (l : List α) (σ : List Nat) (hσ : σ.Nodup) (hσl : ∀ i ∈ σ, i < l.length)
    (hv : ∀ x w lab p v, T w lab p (fc x) v → ∃ a n cap, v = .slice a n cap)
    (h : ∀ vs : List Value, vs.length = l.length → (∀ v ∈ vs, ∃ a n cap, v = .slice a n cap) →
      DC P f (.osl 3 ((List.range l.length).map fun i => [.int .i64 ((l.map fr).getD i 0), .int .i64 ((l.map ft).getD i 0), .val (vs.getD i default)]) :: rest) (.tup [])
        [(0, .osl 3 (σ.map fun i => [.int .i64 ((l.map fr).getD i 0), .int .i64 ((l.map ft).getD i 0), .val (vs.getD i default)]))]) :
    DC P f (.osl 3 (l.map fun x => [.int .i64 (fr x), .int .i64 (ft x), fc x]) :: rest) (.tup []) [(0, .osl 3 (σ.map fun i => [.int .i64 ((l.map fr).getD i 0), .int .i64 ((l.map ft).getD i 0), (l.map fc).getD i .nils]))] := by
  have hb := (h (List.replicate l.length (.slice none 0 0)) (by simp) (by intro v hv; rw [(List.mem_replicate.1 hv).2]; exact ⟨_, _, _, rfl⟩)).body
  refine ⟨hb, ?_⟩
  intro w lab vals hl hvs hfr
  obtain ⟨v0, vr, rfl⟩ : ∃ v0 vr, vals = v0 :: vr := by
    cases vals with
    | nil => simp at hl
    | cons a b => exact ⟨a, b, rfl⟩
  have h0 := hvs 0 _ _ rfl rfl
  -- the values of the third cells
  obtain ⟨b, off, cap, cv, hb0, hk0, hc0, hcv, hr0, hv0⟩ : ∃ b off cap, ∃ cv : Nat → Nat → Value, lab b = some (.arg 0, []) ∧ Blk w b (off + cap * 3) ∧ l.length ≤ cap ∧ (∀ i j, i < l.length → j < 3 → w.cell? ⟨b, off + i * 3 + j, none⟩ = some (cv i j)) ∧
      (∀ i j x, i < l.length → (l.map fun x => [AV.int .i64 (fr x), .int .i64 (ft x), fc x])[i]?.bind (·[j]?) = some x → T w lab (.arg 0, [(i, j)]) x (cv i j)) ∧ v0 = .slice (some ⟨b, off, none⟩) l.length cap := by
    generalize hL : (l.map fun x => [AV.int .i64 (fr x), .int .i64 (ft x), fc x]) = L at h0
    have hLl : L.length = l.length := by rw [← hL, List.length_map]
    cases h0 with
    | imm _ _ _ hI => cases hI
    | osl _ _ _ b off cap cv hb hk hc hes hp hv hr =>
      refine ⟨b, off, cap, cv, hb, hk, by omega, fun i j hi hj => hv i j (by omega) hj, ?_, by rw [hLl]⟩
      intro i j x hi hx
      cases hc : L[i]? with
      | none => rw [hc] at hx; cases hx
      | some c => rw [hc] at hx; exact hr i c j x hc hx
  let vs : List Value := (List.range l.length).map fun i => cv i 2
  have hvsl : vs.length = l.length := by simp [vs]
  have hvsg : ∀ i, i < l.length → vs.getD i default = cv i 2 := by
    intro i hi
    simp [vs, List.getD_eq_getElem?_getD, List.getElem?_range hi]
  have hfcT : ∀ i (hi : i < l.length), T w lab (.arg 0, [(i, 2)]) (fc l[i]) (cv i 2) := by
    intro i hi
    exact hr0 i 2 _ hi (by simp [List.getElem?_eq_getElem hi])
  have hsl : ∀ i, i < l.length → ∃ a n cap, cv i 2 = .slice a n cap := fun i hi => hv _ _ _ _ _ (hfcT i hi)
  have hD := h vs hvsl (by
    intro v hv
    simp only [vs, List.mem_map, List.mem_range] at hv
    obtain ⟨i, hi, rfl⟩ := hv
    exact hsl i hi)
  have hdown : ∀ b p q, lab b = some (.arg 0, p :: q) → b < w.heap.size := fun b p q e => hfr b (by rw [e]; simp)
  have hcall := hD.calls w (labOpT lab) (v0 :: vr) (by simpa using hl) (by
    intro k x v hx hvv
    cases k with
    | zero =>
      simp only [List.getElem?_cons_zero, Option.some.injEq] at hx hvv
      subst hx; subst hvv
      have e := T.osl (w := w) (lab := labOpT lab) (.arg 0, []) 3 ((List.range l.length).map fun i => [.int .i64 ((l.map fr).getD i 0), .int .i64 ((l.map ft).getD i 0), .val (vs.getD i default)]) b off cap cv
        (by rw [labOpT_out (by intro p q e; rw [hb0] at e; cases e), hb0]) hk0 (by simpa using hc0)
        (by intro c hc; obtain ⟨i, _, rfl⟩ := List.mem_map.1 hc; rfl) (by intro c hc x hx; obtain ⟨i, _, rfl⟩ := List.mem_map.1 hc; simp at hx; rcases hx with rfl | rfl | rfl <;> rfl)
        (by intro i j hi hj; exact hcv i j (by simpa using hi) hj)
        (by
          intro i c j x hi hj
          rw [List.getElem?_map] at hi
          have hil : i < l.length := by
            rcases Nat.lt_or_ge i l.length with h | h
            · exact h
            · rw [List.getElem?_eq_none (by simpa using h)] at hi; cases hi
          rw [List.getElem?_range hil] at hi
          cases hi
          have g : ∀ {β : Type} (g : α → β) (d : β), (l.map g).getD i d = g l[i] := by intro β g d; simp [List.getD_eq_getElem?_getD, List.getElem?_eq_getElem hil]
          have old := fun j x h => hr0 i j x hil h
          match j with
          | 0 =>
            cases hj
            have := old 0 (.int .i64 (fr l[i])) (by simp [List.getElem?_eq_getElem hil])
            rw [g]
            generalize cv i 0 = u at this ⊢
            cases this with
            | imm _ _ _ hI => cases hI; exact .imm _ _ _ (.int _ _)
          | 1 =>
            cases hj
            have := old 1 (.int .i64 (ft l[i])) (by simp [List.getElem?_eq_getElem hil])
            rw [g]
            generalize cv i 1 = u at this ⊢
            cases this with
            | imm _ _ _ hI => cases hI; exact .imm _ _ _ (.int _ _)
          | 2 =>
            cases hj
            rw [hvsg i hil]
            obtain ⟨a, n, cp, e⟩ := hsl i hil
            rw [e]
            exact .imm _ _ _ (.val _ _ _)
          | j + 3 => simp at hj)
      rw [hv0]
      simp only [List.length_map, List.length_range] at e
      exact e
    | succ k =>
      have := hvs (k + 1) x v (by simpa using hx) (by simpa using hvv)
      refine this.move (fun b _ h => ⟨labOpT_none h, rfl⟩) ?_ (Nat.le_refl _)
      intro b q _ e
      refine ⟨?_, rfl⟩
      rw [labOpT_out (by intro p q2 e2; rw [e2] at e; simp [Lab.app] at e), e])
    (by
      intro b hb
      apply hfr
      intro e; exact hb (labOpT_none e))
  refine hcall.mono fun e w' he => ?_
  obtain ⟨v, lab1, rfl, hT, hm, hE, hfr1⟩ := he
  -- where each row is now
  let g : Nat → Nat := fun i => σ.idxOf i
  have hkept : ∀ b p q, lab b = some (.arg 0, p :: q) → lab1 b = some (.tmp, []) ∧ w'.heap[b]? = w.heap[b]? := by
    intro b p q e
    have := hE.kept b (hdown b p q e) (by rw [labOpT_in e]; trivial)
    rw [labOpT_in e] at this; exact this
  have hout : ∀ b, lab1 b ≠ some (.tmp, []) → ∀ p q, lab b ≠ some (.arg 0, p :: q) := by
    intro b hb p q e; exact hb (hkept b p q e).1
  have hnone : ∀ b, b < w.heap.size → lab b = none → labOpB lab lab1 g w.heap.size b = none ∧ w'.heap[b]? = w.heap[b]? := by
    intro b hb e
    have := hE.kept b hb (by rw [labOpT_none e]; trivial)
    refine ⟨?_, this.2⟩
    rw [labOpB_out (by intro p q e2; rw [e] at e2; cases e2), this.1, labOpT_none e]
  refine ⟨v, labOpB lab lab1 g w.heap.size, rfl, ?_, ?_, ?_, ?_⟩
  · cases hT with
    | imm _ _ _ hI => cases hI with
      | tup _ vs hlen hx => exact .imm _ _ _ (.tup [] vs hlen (by intro j x y hx; simp at hx))
    | tup _ _ vs hlen hx => exact .tup _ [] vs hlen (by intro j x y hx; simp at hx)
  · intro p hp v hv
    simp only [List.mem_singleton] at hp
    subst hp
    simp only [List.getElem?_cons_zero, Option.some.injEq] at hv
    subst hv
    have h1 := hm _ (List.mem_singleton.2 rfl) v0 rfl
    simp only at h1
    generalize hL : (σ.map fun i => [AV.int .i64 ((l.map fr).getD i 0), .int .i64 ((l.map ft).getD i 0), .val (vs.getD i default)]) = L at h1
    have hLl : L.length = σ.length := by rw [← hL, List.length_map]
    have hLi : ∀ i (hi : i < σ.length), L[i]? = some [AV.int .i64 ((l.map fr).getD σ[i] 0), .int .i64 ((l.map ft).getD σ[i] 0), .val (vs.getD σ[i] default)] := by
      intro i hi; rw [← hL, List.getElem?_map, List.getElem?_eq_getElem hi]; rfl
    generalize hv0' : v0 = v0' at h1
    cases h1 with
    | imm _ _ _ hI => cases hI
    | osl _ _ _ b' off' cap' cv' hb' hk' hc' hes' hp' hv' hr' =>
      have e := T.osl (w := w') (lab := labOpB lab lab1 g w.heap.size) (.arg 0, []) 3 (σ.map fun i => [.int .i64 ((l.map fr).getD i 0), .int .i64 ((l.map ft).getD i 0), (l.map fc).getD i .nils]) b' off' cap' cv'
        (by rw [labOpB_out (hout b' (by rw [hb']; simp)), hb']) hk' (by rw [List.length_map]; omega)
        (by intro c hc; obtain ⟨i, _, rfl⟩ := List.mem_map.1 hc; rfl)
        (by
          intro c hc x hx
          obtain ⟨i, hi, rfl⟩ := List.mem_map.1 hc
          have hil := hσl i hi
          simp at hx
          rcases hx with rfl | rfl | rfl
          · rfl
          · rfl
          · simp [List.getElem?_eq_getElem hil, hfc])
        (by intro i j hi hj; exact hv' i j (by rw [hLl]; simpa using hi) hj)
        (by
          intro i c j x hi hj
          have hil : i < σ.length := by
            rcases Nat.lt_or_ge i σ.length with h | h
            · exact h
            · rw [List.getElem?_eq_none (by simpa using h)] at hi; cases hi
          rw [List.getElem?_map, List.getElem?_eq_getElem hil] at hi
          cases hi
          have hsi := hσl _ (List.getElem_mem hil)
          match j with
          | 0 =>
            cases hj
            have := hr' i _ 0 _ (hLi i hil) rfl
            generalize cv' i 0 = u at this ⊢
            cases this with
            | imm _ _ _ hI => cases hI; exact .imm _ _ _ (.int _ _)
          | 1 =>
            cases hj
            have := hr' i _ 1 _ (hLi i hil) rfl
            generalize cv' i 1 = u at this ⊢
            cases this with
            | imm _ _ _ hI => cases hI; exact .imm _ _ _ (.int _ _)
          | 2 =>
            cases hj
            have h2 := hr' i _ 2 _ (hLi i hil) rfl
            rw [hvsg _ hsi] at h2
            have h3 : cv' i 2 = cv σ[i] 2 := by
              generalize cv' i 2 = u at h2
              generalize cv σ[i] 2 = u2 at h2
              cases h2 with
              | imm _ _ _ hI => cases hI; rfl
            rw [h3]
            have h4 := hfcT _ hsi
            have e5 : (l.map fc).getD σ[i] .nils = fc l[σ[i]] := by simp [List.getD_eq_getElem?_getD, List.getElem?_eq_getElem hsi]
            rw [e5]
            refine h4.move hnone ?_ hE.size
            intro b2 q hb2 e2
            have e3 : lab b2 = some (.arg 0, (σ[i], 2) :: q) := by rw [e2]; rfl
            refine ⟨?_, (hkept b2 _ q e3).2⟩
            rw [labOpB_in hb2 e3]
            have : g σ[i] = i := hσ.idxOf_getElem i hil
            rw [this]; rfl
          | j + 3 => simp at hj)
      rw [hLl]
      simpa using e
  · refine ⟨hE.size, hE.os, hE.out, ?_, hE.blk⟩
    intro b2 hb2 hst
    have hno : ∀ p q, lab b2 ≠ some (.arg 0, p :: q) := by intro p q e; rw [e] at hst; exact hst
    have := hE.kept b2 hb2 (by rw [labOpT_out hno]; exact hst)
    exact ⟨by rw [labOpB_out hno, this.1, labOpT_out hno], this.2⟩
  · intro b2 hb2
    by_cases hin : b2 < w.heap.size
    · exact Nat.lt_of_lt_of_le hin hE.size
    · rw [labOpB_ge hin] at hb2; exact hfr1 b2 hb2
end Go.AM
namespace Go.AM
/-! an argument of which more is told -/
def cmpI (a b : Int) : Int := if a < b then -1 else if b < a then 1 else 0
end Go.AM
