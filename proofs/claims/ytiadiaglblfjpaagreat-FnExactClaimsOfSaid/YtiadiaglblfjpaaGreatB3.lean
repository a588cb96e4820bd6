/- Joined texts: Enc Am23 Pu Ty Rd T1 T2 Pv S1 Px Py Pz En2 Pe Pf Pg Ph Pi Pw Am24 Am25 Am26 Po Pp Pr Pt2 Pt3 Pt4 Pt5. -/
import Derived.Test.YtiadiaglblfjpaaGreatB1
import Derived.Test.YtiadiaglblfjpaaGreatB2
import Derived.ChangeArms
import Derived.WideKeyArgs
import Derived.Test.YtiadiaglblfjpaaGreatProg
set_option linter.unusedVariables false
set_option linter.unusedSimpArgs false
namespace Go.AM

def I1 (n : Int) : List AV := [.int .i64 n]
def B1 (b : UInt8) : List AV := [.int .u8 b.toNat]
def S1 (s : List UInt8) : List AV := [.str s]
@[go_sem] theorem I1_eq (n : Int) : I1 n = [.int .i64 n] := rfl
@[go_sem] theorem B1_eq (n : UInt8) : B1 n = [.int .u8 n.toNat] := rfl
@[go_sem] theorem S1_eq (n : List UInt8) : S1 n = [.str n] := rfl
/-- an owned slice, or an empty one -/
def owc (es : Nat) (l : List (List AV)) : AV := match l with
  | [] => .isl es []
  | x :: r => .osl es (x :: r)
@[go_sem high] theorem owc_nil (es : Nat) : owc es [] = .isl es [] := rfl
@[go_sem high] theorem owc_cons (es : Nat) (x : List AV) (r : List (List AV)) : owc es (x :: r) = .osl es (x :: r) := rfl
@[go_sem high] theorem owc_tree (es : Nat) (l : List (List AV)) : (owc es l).tree = true := by cases l <;> rfl
@[go_sem high] theorem owc_ids (es : Nat) (l : List (List AV)) : (owc es l).ids = [] := by cases l <;> simp [owc, AV.ids]
@[go_sem high] theorem owc_unown (es : Nat) (l : List (List AV)) : unown (owc es l) = .isl es (unownLL l) := by cases l <;> simp [owc, unown, unownLL]
@[go_sem high] theorem owc_ownd (es : Nat) (l : List (List AV)) : (owc es l).ownd = owndLL l := by cases l <;> simp [owc, AV.ownd, owndLL]
@[go_sem high] theorem owc_le (es : Nat) (l : List (List AV)) : leA0 (.osl es l) (owc es l) := by cases l <;> simp [owc, leA0]
@[go_sem high] theorem owc_le' (es : Nat) (l m : List (List AV)) : leA0 (.osl es l) (owc es m) ↔ l = m := by cases m <;> simp [owc, leA0]
@[go_sem high] theorem owc_lenil (es : Nat) (m : List (List AV)) : leA0 .nils (owc es m) ↔ m = [] := by cases m <;> simp [owc, leA0]
@[go_sem high] theorem owc_lezsl (es : Nat) (m : List (List AV)) : leA0 .zsl (owc es m) ↔ m = [] := by cases m <;> simp [owc, leA0]
@[go_sem high] theorem owc_leisl (es : Nat) (m : List (List AV)) : leA0 (.isl es []) (owc es m) ↔ m = [] := by cases m <;> simp [owc, leA0]
@[go_sem high] theorem owc_leowc (es : Nat) (l : List (List AV)) : leA0 (owc es l) (owc es l) := by cases l <;> simp [owc, leA0]
theorem unownLL_map {α : Type} {f g : α → List AV} (h : ∀ x, (f x).map unown = g x) (l : List α) : unownLL (l.map f) = l.map g := by
  rw [unownLL_eq]; simp [h]
theorem mapun {α : Type} {f g : α → List AV} (h : ∀ x, (f x).map unown = g x) (l : List α) : (l.map f).map (List.map unown) = l.map g := by simp [h]
theorem owndLL_map {α : Type} {f : α → List AV} (h : ∀ x, owndL (f x) = true) (l : List α) : owndLL (l.map f) = true := by rw [owndLL_eq, List.all_map]; exact List.all_eq_true.2 fun x _ => by simpa [owndL_eq] using h x
theorem flatids {α : Type} {f : α → List AV} (h : ∀ x, idsL (f x) = []) (l : List α) : (l.map f).flatMap idsL = [] := by simp [h]
@[go_sem] theorem flat_set {l : List (List AV)} {i : Nat} {c : List AV} (h : l.flatMap idsL = []) (hc : idsL c = []) : (l.set i c).flatMap idsL = [] := by
  simp only [List.flatMap_eq_nil_iff] at h ⊢
  intro x hx
  rcases List.mem_or_eq_of_mem_set hx with hx | rfl
  · exact h x hx
  · exact hc
theorem maptree {α : Type} {f : α → List AV} (h : ∀ a, ∀ x ∈ f a, x.tree = true) (l : List α) : (∀ c ∈ l.map f, ∀ x ∈ c, AV.tree x = true) ↔ True := by simpa using fun a _ => h a
@[go_sem] theorem take_len_map {α β : Type} (f : α → β) (l : List α) : List.take l.length (l.map f) = l.map f := List.take_of_length_le (by simp)
@[go_sem] theorem I1_un (x : Int) : (I1 x).map unown = I1 x := rfl
@[go_sem] theorem B1_un (x : UInt8) : (B1 x).map unown = B1 x := rfl
@[go_sem] theorem S1_un (x : List UInt8) : (S1 x).map unown = S1 x := rfl

@[go_sem high] theorem I1_unL (l : List _) : unownLL (l.map I1) = l.map I1 := unownLL_map I1_un l
@[go_sem high] theorem I1_unM (l : List _) : (l.map I1).map (List.map unown) = l.map I1 := mapun I1_un l
@[go_sem] theorem I1_ownd (x) : owndL (I1 x) = true := by simp [I1, go_sem]
@[go_sem high] theorem I1_owndL (l : List _) : owndLL (l.map I1) = true := owndLL_map I1_ownd l
@[go_sem] theorem I1_ids (x) : idsL (I1 x) = [] := by simp [I1, go_sem]
@[go_sem high] theorem I1_idsL (l : List _) : (l.map I1).flatMap idsL = [] := flatids I1_ids l
theorem I1_tree (a) : ∀ x ∈ I1 a, x.tree = true := by simp [I1, go_sem]
@[go_sem high] theorem I1_treeL (l : List _) : (∀ c ∈ l.map I1, ∀ x ∈ c, AV.tree x = true) ↔ True := maptree I1_tree l
@[go_sem high] theorem B1_unL (l : List _) : unownLL (l.map B1) = l.map B1 := unownLL_map B1_un l
@[go_sem high] theorem B1_unM (l : List _) : (l.map B1).map (List.map unown) = l.map B1 := mapun B1_un l
@[go_sem] theorem B1_ownd (x) : owndL (B1 x) = true := by simp [B1, go_sem]
@[go_sem high] theorem B1_owndL (l : List _) : owndLL (l.map B1) = true := owndLL_map B1_ownd l
@[go_sem] theorem B1_ids (x) : idsL (B1 x) = [] := by simp [B1, go_sem]
@[go_sem high] theorem B1_idsL (l : List _) : (l.map B1).flatMap idsL = [] := flatids B1_ids l
theorem B1_tree (a) : ∀ x ∈ B1 a, x.tree = true := by simp [B1, go_sem]
@[go_sem high] theorem B1_treeL (l : List _) : (∀ c ∈ l.map B1, ∀ x ∈ c, AV.tree x = true) ↔ True := maptree B1_tree l
@[go_sem high] theorem S1_unL (l : List _) : unownLL (l.map S1) = l.map S1 := unownLL_map S1_un l
@[go_sem high] theorem S1_unM (l : List _) : (l.map S1).map (List.map unown) = l.map S1 := mapun S1_un l
@[go_sem] theorem S1_ownd (x) : owndL (S1 x) = true := by simp [S1, go_sem]
@[go_sem high] theorem S1_owndL (l : List _) : owndLL (l.map S1) = true := owndLL_map S1_ownd l
@[go_sem] theorem S1_ids (x) : idsL (S1 x) = [] := by simp [S1, go_sem]
@[go_sem high] theorem S1_idsL (l : List _) : (l.map S1).flatMap idsL = [] := flatids S1_ids l
theorem S1_tree (a) : ∀ x ∈ S1 a, x.tree = true := by simp [S1, go_sem]
@[go_sem high] theorem S1_treeL (l : List _) : (∀ c ∈ l.map S1, ∀ x ∈ c, AV.tree x = true) ↔ True := maptree S1_tree l

/-- impl.Node -/
structure TNode where
  kind : Int
  val : Int
  left : Int
  right : Int
  deriving DecidableEq
def TNode.ro (x : TNode) : List AV := [.int .i64 x.kind, .int .i64 x.val, .int .i64 x.left, .int .i64 x.right]
@[go_sem] theorem TNode_ro_eq (x : TNode) : x.ro = [.int .i64 x.kind, .int .i64 x.val, .int .i64 x.left, .int .i64 x.right] := rfl
theorem TNode_ro_un (x : TNode) : x.ro.map unown = x.ro := by simp [TNode.ro, go_sem]
@[go_sem high] theorem TNode_ro_unL (l : List _) : unownLL (l.map TNode.ro) = l.map TNode.ro := unownLL_map TNode_ro_un l
@[go_sem high] theorem TNode_ro_unM (l : List _) : (l.map TNode.ro).map (List.map unown) = l.map TNode.ro := mapun TNode_ro_un l
@[go_sem] theorem TNode_ro_ownd (x) : owndL (TNode.ro x) = true := by simp [TNode.ro, go_sem]
@[go_sem high] theorem TNode_ro_owndL (l : List _) : owndLL (l.map TNode.ro) = true := owndLL_map TNode_ro_ownd l
@[go_sem] theorem TNode_ro_ids (x) : idsL (TNode.ro x) = [] := by simp [TNode.ro, go_sem]
@[go_sem high] theorem TNode_ro_idsL (l : List _) : (l.map TNode.ro).flatMap idsL = [] := flatids TNode_ro_ids l
theorem TNode_ro_tree (a) : ∀ x ∈ TNode.ro a, x.tree = true := by simp [TNode.ro, go_sem]
@[go_sem high] theorem TNode_ro_treeL (l : List _) : (∀ c ∈ l.map TNode.ro, ∀ x ∈ c, AV.tree x = true) ↔ True := maptree TNode_ro_tree l

/-- impl.Step -/
structure TStep where
  kind : Int
  par : Int
  name : List UInt8
  arg : Int
  cond : List TNode
  expr : List TNode
  deriving DecidableEq
def TStep.ro (x : TStep) : List AV := [.int .i64 x.kind, .int .i64 x.par, .str x.name, .int .i64 x.arg, .isl 4 (x.cond.map TNode.ro), .isl 4 (x.expr.map TNode.ro)]
@[go_sem] theorem TStep_ro_eq (x : TStep) : x.ro = [.int .i64 x.kind, .int .i64 x.par, .str x.name, .int .i64 x.arg, .isl 4 (x.cond.map TNode.ro), .isl 4 (x.expr.map TNode.ro)] := rfl
def TStep.oc (x : TStep) : List AV := [.int .i64 x.kind, .int .i64 x.par, .str x.name, .int .i64 x.arg, owc 4 (x.cond.map TNode.ro), owc 4 (x.expr.map TNode.ro)]
theorem TStep_oc_un (x : TStep) : x.oc.map unown = x.ro := by simp [TStep.oc, TStep.ro, go_sem]
@[go_sem] theorem TStep_oc_eq (x : TStep) : x.oc = [.int .i64 x.kind, .int .i64 x.par, .str x.name, .int .i64 x.arg, owc 4 (x.cond.map TNode.ro), owc 4 (x.expr.map TNode.ro)] := rfl
@[go_sem high] theorem TStep_oc_unL (l : List _) : unownLL (l.map TStep.oc) = l.map TStep.ro := unownLL_map TStep_oc_un l
@[go_sem high] theorem TStep_oc_unM (l : List _) : (l.map TStep.oc).map (List.map unown) = l.map TStep.ro := mapun TStep_oc_un l
@[go_sem] theorem TStep_oc_ownd (x) : owndL (TStep.oc x) = true := by simp [TStep.oc, go_sem]
@[go_sem high] theorem TStep_oc_owndL (l : List _) : owndLL (l.map TStep.oc) = true := owndLL_map TStep_oc_ownd l
@[go_sem] theorem TStep_oc_ids (x) : idsL (TStep.oc x) = [] := by simp [TStep.oc, go_sem]
@[go_sem high] theorem TStep_oc_idsL (l : List _) : (l.map TStep.oc).flatMap idsL = [] := flatids TStep_oc_ids l
theorem TStep_oc_tree (a) : ∀ x ∈ TStep.oc a, x.tree = true := by simp [TStep.oc, go_sem]
@[go_sem high] theorem TStep_oc_treeL (l : List _) : (∀ c ∈ l.map TStep.oc, ∀ x ∈ c, AV.tree x = true) ↔ True := maptree TStep_oc_tree l
def TStep.sz (x : TStep) : Nat := x.name.length + x.cond.length + x.expr.length

/-- impl.Chart -/
structure TChart where
  status : Int
  now : Int
  vars : List Int
  acts : List Int
  dues : List Int
  deriving DecidableEq
def TChart.ro (x : TChart) : List AV := [.int .i64 x.status, .int .i64 x.now, .isl 1 (x.vars.map I1), .isl 1 (x.acts.map I1), .isl 1 (x.dues.map I1)]
@[go_sem] theorem TChart_ro_eq (x : TChart) : x.ro = [.int .i64 x.status, .int .i64 x.now, .isl 1 (x.vars.map I1), .isl 1 (x.acts.map I1), .isl 1 (x.dues.map I1)] := rfl
def TChart.oc (x : TChart) : List AV := [.int .i64 x.status, .int .i64 x.now, owc 1 (x.vars.map I1), owc 1 (x.acts.map I1), owc 1 (x.dues.map I1)]
theorem TChart_oc_un (x : TChart) : x.oc.map unown = x.ro := by simp [TChart.oc, TChart.ro, go_sem]
@[go_sem] theorem TChart_oc_eq (x : TChart) : x.oc = [.int .i64 x.status, .int .i64 x.now, owc 1 (x.vars.map I1), owc 1 (x.acts.map I1), owc 1 (x.dues.map I1)] := rfl
@[go_sem high] theorem TChart_oc_unL (l : List _) : unownLL (l.map TChart.oc) = l.map TChart.ro := unownLL_map TChart_oc_un l
@[go_sem high] theorem TChart_oc_unM (l : List _) : (l.map TChart.oc).map (List.map unown) = l.map TChart.ro := mapun TChart_oc_un l
@[go_sem] theorem TChart_oc_ownd (x) : owndL (TChart.oc x) = true := by simp [TChart.oc, go_sem]
@[go_sem high] theorem TChart_oc_owndL (l : List _) : owndLL (l.map TChart.oc) = true := owndLL_map TChart_oc_ownd l
@[go_sem] theorem TChart_oc_ids (x) : idsL (TChart.oc x) = [] := by simp [TChart.oc, go_sem]
@[go_sem high] theorem TChart_oc_idsL (l : List _) : (l.map TChart.oc).flatMap idsL = [] := flatids TChart_oc_ids l
theorem TChart_oc_tree (a) : ∀ x ∈ TChart.oc a, x.tree = true := by simp [TChart.oc, go_sem]
@[go_sem high] theorem TChart_oc_treeL (l : List _) : (∀ c ∈ l.map TChart.oc, ∀ x ∈ c, AV.tree x = true) ↔ True := maptree TChart_oc_tree l
def TChart.sz (x : TChart) : Nat := x.vars.length + x.acts.length + x.dues.length

/-- impl.Proc -/
structure TProc where
  steps : List TStep
  deriving DecidableEq
def TProc.ro (x : TProc) : List AV := [.isl 6 (x.steps.map TStep.ro)]
@[go_sem] theorem TProc_ro_eq (x : TProc) : x.ro = [.isl 6 (x.steps.map TStep.ro)] := rfl
def TProc.oc (x : TProc) : List AV := [owc 6 (x.steps.map TStep.oc)]
theorem TProc_oc_un (x : TProc) : x.oc.map unown = x.ro := by simp [TProc.oc, TProc.ro, go_sem]
@[go_sem] theorem TProc_oc_eq (x : TProc) : x.oc = [owc 6 (x.steps.map TStep.oc)] := rfl
@[go_sem high] theorem TProc_oc_unL (l : List _) : unownLL (l.map TProc.oc) = l.map TProc.ro := unownLL_map TProc_oc_un l
@[go_sem high] theorem TProc_oc_unM (l : List _) : (l.map TProc.oc).map (List.map unown) = l.map TProc.ro := mapun TProc_oc_un l
@[go_sem] theorem TProc_oc_ownd (x) : owndL (TProc.oc x) = true := by simp [TProc.oc, go_sem]
@[go_sem high] theorem TProc_oc_owndL (l : List _) : owndLL (l.map TProc.oc) = true := owndLL_map TProc_oc_ownd l
@[go_sem] theorem TProc_oc_ids (x) : idsL (TProc.oc x) = [] := by simp [TProc.oc, go_sem]
@[go_sem high] theorem TProc_oc_idsL (l : List _) : (l.map TProc.oc).flatMap idsL = [] := flatids TProc_oc_ids l
theorem TProc_oc_tree (a) : ∀ x ∈ TProc.oc a, x.tree = true := by simp [TProc.oc, go_sem]
@[go_sem high] theorem TProc_oc_treeL (l : List _) : (∀ c ∈ l.map TProc.oc, ∀ x ∈ c, AV.tree x = true) ↔ True := maptree TProc_oc_tree l
def TProc.sz (x : TProc) : Nat := (x.steps.length + (x.steps.map TStep.sz).sum)

/-- impl.Inst -/
structure TInst where
  proc : Int
  chart : TChart
  deriving DecidableEq
def TInst.ro (x : TInst) : List AV := [.int .i64 x.proc, .int .i64 x.chart.status, .int .i64 x.chart.now, .isl 1 (x.chart.vars.map I1), .isl 1 (x.chart.acts.map I1), .isl 1 (x.chart.dues.map I1)]
@[go_sem] theorem TInst_ro_eq (x : TInst) : x.ro = [.int .i64 x.proc, .int .i64 x.chart.status, .int .i64 x.chart.now, .isl 1 (x.chart.vars.map I1), .isl 1 (x.chart.acts.map I1), .isl 1 (x.chart.dues.map I1)] := rfl
def TInst.oc (x : TInst) : List AV := [.int .i64 x.proc, .int .i64 x.chart.status, .int .i64 x.chart.now, owc 1 (x.chart.vars.map I1), owc 1 (x.chart.acts.map I1), owc 1 (x.chart.dues.map I1)]
theorem TInst_oc_un (x : TInst) : x.oc.map unown = x.ro := by simp [TInst.oc, TInst.ro, go_sem]
@[go_sem] theorem TInst_oc_eq (x : TInst) : x.oc = [.int .i64 x.proc, .int .i64 x.chart.status, .int .i64 x.chart.now, owc 1 (x.chart.vars.map I1), owc 1 (x.chart.acts.map I1), owc 1 (x.chart.dues.map I1)] := rfl
@[go_sem high] theorem TInst_oc_unL (l : List _) : unownLL (l.map TInst.oc) = l.map TInst.ro := unownLL_map TInst_oc_un l
@[go_sem high] theorem TInst_oc_unM (l : List _) : (l.map TInst.oc).map (List.map unown) = l.map TInst.ro := mapun TInst_oc_un l
@[go_sem] theorem TInst_oc_ownd (x) : owndL (TInst.oc x) = true := by simp [TInst.oc, go_sem]
@[go_sem high] theorem TInst_oc_owndL (l : List _) : owndLL (l.map TInst.oc) = true := owndLL_map TInst_oc_ownd l
@[go_sem] theorem TInst_oc_ids (x) : idsL (TInst.oc x) = [] := by simp [TInst.oc, go_sem]
@[go_sem high] theorem TInst_oc_idsL (l : List _) : (l.map TInst.oc).flatMap idsL = [] := flatids TInst_oc_ids l
theorem TInst_oc_tree (a) : ∀ x ∈ TInst.oc a, x.tree = true := by simp [TInst.oc, go_sem]
@[go_sem high] theorem TInst_oc_treeL (l : List _) : (∀ c ∈ l.map TInst.oc, ∀ x ∈ c, AV.tree x = true) ↔ True := maptree TInst_oc_tree l
def TInst.sz (x : TInst) : Nat := x.chart.sz

/-- impl.Engine -/
structure TEngine where
  procs : List TProc
  insts : List TInst
  now : Int
  deriving DecidableEq
def TEngine.ro (x : TEngine) : List AV := [.isl 1 (x.procs.map TProc.ro), .isl 6 (x.insts.map TInst.ro), .int .i64 x.now]
@[go_sem] theorem TEngine_ro_eq (x : TEngine) : x.ro = [.isl 1 (x.procs.map TProc.ro), .isl 6 (x.insts.map TInst.ro), .int .i64 x.now] := rfl
def TEngine.oc (x : TEngine) : List AV := [owc 1 (x.procs.map TProc.oc), owc 6 (x.insts.map TInst.oc), .int .i64 x.now]
theorem TEngine_oc_un (x : TEngine) : x.oc.map unown = x.ro := by simp [TEngine.oc, TEngine.ro, go_sem]
@[go_sem] theorem TEngine_oc_eq (x : TEngine) : x.oc = [owc 1 (x.procs.map TProc.oc), owc 6 (x.insts.map TInst.oc), .int .i64 x.now] := rfl
@[go_sem high] theorem TEngine_oc_unL (l : List _) : unownLL (l.map TEngine.oc) = l.map TEngine.ro := unownLL_map TEngine_oc_un l
@[go_sem high] theorem TEngine_oc_unM (l : List _) : (l.map TEngine.oc).map (List.map unown) = l.map TEngine.ro := mapun TEngine_oc_un l
@[go_sem] theorem TEngine_oc_ownd (x) : owndL (TEngine.oc x) = true := by simp [TEngine.oc, go_sem]
@[go_sem high] theorem TEngine_oc_owndL (l : List _) : owndLL (l.map TEngine.oc) = true := owndLL_map TEngine_oc_ownd l
@[go_sem] theorem TEngine_oc_ids (x) : idsL (TEngine.oc x) = [] := by simp [TEngine.oc, go_sem]
@[go_sem high] theorem TEngine_oc_idsL (l : List _) : (l.map TEngine.oc).flatMap idsL = [] := flatids TEngine_oc_ids l
theorem TEngine_oc_tree (a) : ∀ x ∈ TEngine.oc a, x.tree = true := by simp [TEngine.oc, go_sem]
@[go_sem high] theorem TEngine_oc_treeL (l : List _) : (∀ c ∈ l.map TEngine.oc, ∀ x ∈ c, AV.tree x = true) ↔ True := maptree TEngine_oc_tree l
def TEngine.sz (x : TEngine) : Nat := (x.procs.length + (x.procs.map TProc.sz).sum) + (x.insts.length + (x.insts.map TInst.sz).sum)

/-- impl.Claim -/
structure TClaim where
  inst : Int
  step : Int
  user : Int
  deriving DecidableEq
def TClaim.ro (x : TClaim) : List AV := [.int .i64 x.inst, .int .i64 x.step, .int .i64 x.user]
@[go_sem] theorem TClaim_ro_eq (x : TClaim) : x.ro = [.int .i64 x.inst, .int .i64 x.step, .int .i64 x.user] := rfl
theorem TClaim_ro_un (x : TClaim) : x.ro.map unown = x.ro := by simp [TClaim.ro, go_sem]
@[go_sem high] theorem TClaim_ro_unL (l : List _) : unownLL (l.map TClaim.ro) = l.map TClaim.ro := unownLL_map TClaim_ro_un l
@[go_sem high] theorem TClaim_ro_unM (l : List _) : (l.map TClaim.ro).map (List.map unown) = l.map TClaim.ro := mapun TClaim_ro_un l
@[go_sem] theorem TClaim_ro_ownd (x) : owndL (TClaim.ro x) = true := by simp [TClaim.ro, go_sem]
@[go_sem high] theorem TClaim_ro_owndL (l : List _) : owndLL (l.map TClaim.ro) = true := owndLL_map TClaim_ro_ownd l
@[go_sem] theorem TClaim_ro_ids (x) : idsL (TClaim.ro x) = [] := by simp [TClaim.ro, go_sem]
@[go_sem high] theorem TClaim_ro_idsL (l : List _) : (l.map TClaim.ro).flatMap idsL = [] := flatids TClaim_ro_ids l
theorem TClaim_ro_tree (a) : ∀ x ∈ TClaim.ro a, x.tree = true := by simp [TClaim.ro, go_sem]
@[go_sem high] theorem TClaim_ro_treeL (l : List _) : (∀ c ∈ l.map TClaim.ro, ∀ x ∈ c, AV.tree x = true) ↔ True := maptree TClaim_ro_tree l

/-- impl.Desk -/
structure TDesk where
  engine : TEngine
  claims : List TClaim
  deriving DecidableEq
def TDesk.ro (x : TDesk) : List AV := [.isl 1 (x.engine.procs.map TProc.ro), .isl 6 (x.engine.insts.map TInst.ro), .int .i64 x.engine.now, .isl 3 (x.claims.map TClaim.ro)]
@[go_sem] theorem TDesk_ro_eq (x : TDesk) : x.ro = [.isl 1 (x.engine.procs.map TProc.ro), .isl 6 (x.engine.insts.map TInst.ro), .int .i64 x.engine.now, .isl 3 (x.claims.map TClaim.ro)] := rfl
def TDesk.oc (x : TDesk) : List AV := [owc 1 (x.engine.procs.map TProc.oc), owc 6 (x.engine.insts.map TInst.oc), .int .i64 x.engine.now, owc 3 (x.claims.map TClaim.ro)]
theorem TDesk_oc_un (x : TDesk) : x.oc.map unown = x.ro := by simp [TDesk.oc, TDesk.ro, go_sem]
@[go_sem] theorem TDesk_oc_eq (x : TDesk) : x.oc = [owc 1 (x.engine.procs.map TProc.oc), owc 6 (x.engine.insts.map TInst.oc), .int .i64 x.engine.now, owc 3 (x.claims.map TClaim.ro)] := rfl
@[go_sem high] theorem TDesk_oc_unL (l : List _) : unownLL (l.map TDesk.oc) = l.map TDesk.ro := unownLL_map TDesk_oc_un l
@[go_sem high] theorem TDesk_oc_unM (l : List _) : (l.map TDesk.oc).map (List.map unown) = l.map TDesk.ro := mapun TDesk_oc_un l
@[go_sem] theorem TDesk_oc_ownd (x) : owndL (TDesk.oc x) = true := by simp [TDesk.oc, go_sem]
@[go_sem high] theorem TDesk_oc_owndL (l : List _) : owndLL (l.map TDesk.oc) = true := owndLL_map TDesk_oc_ownd l
@[go_sem] theorem TDesk_oc_ids (x) : idsL (TDesk.oc x) = [] := by simp [TDesk.oc, go_sem]
@[go_sem high] theorem TDesk_oc_idsL (l : List _) : (l.map TDesk.oc).flatMap idsL = [] := flatids TDesk_oc_ids l
theorem TDesk_oc_tree (a) : ∀ x ∈ TDesk.oc a, x.tree = true := by simp [TDesk.oc, go_sem]
@[go_sem high] theorem TDesk_oc_treeL (l : List _) : (∀ c ∈ l.map TDesk.oc, ∀ x ∈ c, AV.tree x = true) ↔ True := maptree TDesk_oc_tree l
def TDesk.sz (x : TDesk) : Nat := x.engine.sz + x.claims.length

/-- impl.OfferResult -/
structure TOfferResult where
  code : Int
  claims : List TClaim
  deriving DecidableEq
def TOfferResult.ro (x : TOfferResult) : List AV := [.int .i64 x.code, .isl 3 (x.claims.map TClaim.ro)]
@[go_sem] theorem TOfferResult_ro_eq (x : TOfferResult) : x.ro = [.int .i64 x.code, .isl 3 (x.claims.map TClaim.ro)] := rfl
def TOfferResult.oc (x : TOfferResult) : List AV := [.int .i64 x.code, owc 3 (x.claims.map TClaim.ro)]
theorem TOfferResult_oc_un (x : TOfferResult) : x.oc.map unown = x.ro := by simp [TOfferResult.oc, TOfferResult.ro, go_sem]
@[go_sem] theorem TOfferResult_oc_eq (x : TOfferResult) : x.oc = [.int .i64 x.code, owc 3 (x.claims.map TClaim.ro)] := rfl
@[go_sem high] theorem TOfferResult_oc_unL (l : List _) : unownLL (l.map TOfferResult.oc) = l.map TOfferResult.ro := unownLL_map TOfferResult_oc_un l
@[go_sem high] theorem TOfferResult_oc_unM (l : List _) : (l.map TOfferResult.oc).map (List.map unown) = l.map TOfferResult.ro := mapun TOfferResult_oc_un l
@[go_sem] theorem TOfferResult_oc_ownd (x) : owndL (TOfferResult.oc x) = true := by simp [TOfferResult.oc, go_sem]
@[go_sem high] theorem TOfferResult_oc_owndL (l : List _) : owndLL (l.map TOfferResult.oc) = true := owndLL_map TOfferResult_oc_ownd l
@[go_sem] theorem TOfferResult_oc_ids (x) : idsL (TOfferResult.oc x) = [] := by simp [TOfferResult.oc, go_sem]
@[go_sem high] theorem TOfferResult_oc_idsL (l : List _) : (l.map TOfferResult.oc).flatMap idsL = [] := flatids TOfferResult_oc_ids l
theorem TOfferResult_oc_tree (a) : ∀ x ∈ TOfferResult.oc a, x.tree = true := by simp [TOfferResult.oc, go_sem]
@[go_sem high] theorem TOfferResult_oc_treeL (l : List _) : (∀ c ∈ l.map TOfferResult.oc, ∀ x ∈ c, AV.tree x = true) ↔ True := maptree TOfferResult_oc_tree l
def TOfferResult.sz (x : TOfferResult) : Nat := x.claims.length

end Go.AM
namespace Go.AM
open Go.ChangeShapes Go.WideShapes Go.RowKit

/-- cells that read as abstract values -/
def RdC (w : World) (cs : List Value) (ys : List AV) : Prop :=
  ys.length = cs.length ∧ (∀ (j : Nat) y v, ys[j]? = some y → cs[j]? = some v → I w (fun _ => none) y v) ∧ ∀ y ∈ ys, AV.plain y = true

theorem RdC.nil {w : World} {cs : List Value} (h : cs = []) : RdC w cs [] := by subst h; exact ⟨rfl, by intro j y v h; simp at h, by simp⟩

theorem RdC.one {w : World} {v : Value} {y : AV} (h : I w (fun _ => none) y v) (hp : y.plain = true) : RdC w [v] [y] := by
  refine ⟨rfl, ?_, by simpa using hp⟩
  intro j y' v' hy hv
  cases j with
  | zero => simp at hy hv; subst hy; subst hv; exact h
  | succ j => simp at hy

theorem RdC.cons {w : World} {cs : List Value} {o s : Nat} {ys zs : List AV} (h1 : RdC w ((cs.drop o).take s) ys) (h2 : RdC w (cs.drop (o + s)) zs) : RdC w (cs.drop o) (ys ++ zs) := by
  have e : cs.drop o = (cs.drop o).take s ++ cs.drop (o + s) := by rw [← List.drop_drop, List.take_append_drop]
  rw [e]
  obtain ⟨a1, a2, a3⟩ := h1
  obtain ⟨b1, b2, b3⟩ := h2
  refine ⟨by rw [List.length_append, List.length_append, a1, b1], ?_, ?_⟩
  · intro j y v hy hv
    rw [List.getElem?_append] at hy hv
    rw [a1] at hy
    split at hy
    · rename_i h; rw [if_pos h] at hv; exact a2 j y v hy hv
    · rename_i h; rw [if_neg h] at hv; exact b2 _ y v hy hv
  · intro y hy
    rcases List.mem_append.1 hy with hy | hy
    · exact a3 y hy
    · exact b3 y hy

/-- a type's data, read -/
structure Rd (P : Program) (t : TypeId) (α : Type) (f : α → List AV) (ok : α → Prop) (n : Nat) : Prop where
  size : P.cellsOf t = n
  read : ∀ {H : Type} (enc : TypeId × Value → H) (w : World) (base : Nat) (spare : Nat → Bool) (held : Bool) (fuel : Nat) (cs : List Value) (x : DataW H × List MemPlace),
    DataW.trod enc P w base spare held fuel t cs = some x → ∃ a : α, ok a ∧ RdC w cs (f a) ∧ cs.length = n

theorem cellsOf_of {P : Program} {ti : TI} (hT : TOk P ti) {t : Nat} {i : TInfo} (h : ti t = some i) : P.cellsOf t = i.size := by
  obtain ⟨info, h1, h2, _⟩ := (hT t i h).info
  simp [Program.cellsOf, h1, h2]

section
variable {P : Program} {t : TypeId}

theorem trod_int' {k : IntKind} {H : Type} {enc : TypeId × Value → H} {w : World} {base : Nat} {spare : Nat → Bool} {held : Bool} {fuel : Nat} {cs : List Value} {x : DataW H × List MemPlace} (ht : P.underlying t = some (.int k))
    (h : DataW.trod enc P w base spare held fuel t cs = some x) : ∃ n, cs = [.int k n] ∧ (Lit.int k n).wf = true := by
  cases fuel with
  | zero => simp [DataW.trod] at h
  | succ m =>
    unfold DataW.trod at h
    rw [ht] at h
    split at h <;> simp_all

theorem Rd.int (hs : P.cellsOf t = 1) (ht : P.underlying t = some (.int .i64)) : Rd P t Int I1 (fun n => -9223372036854775808 ≤ n ∧ n ≤ 9223372036854775807) 1 := by
  refine ⟨hs, ?_⟩
  intro H enc w base spare held fuel cs x h
  obtain ⟨n, rfl, hw⟩ := trod_int' ht h
  refine ⟨n, ?_, .one (.int _ _) rfl, rfl⟩
  simp [Lit.wf, IntKind.min, IntKind.max, IntKind.bits, IntKind.signed] at hw
  first | exact hw | omega

theorem trod_str' {H : Type} {enc : TypeId × Value → H} {w : World} {base : Nat} {spare : Nat → Bool} {held : Bool} {fuel : Nat} {cs : List Value} {x : DataW H × List MemPlace} (ht : P.underlying t = some .string)
    (h : DataW.trod enc P w base spare held fuel t cs = some x) : ∃ s, cs = [.string s] ∧ s.size ≤ maxLen := by
  cases fuel with
  | zero => simp [DataW.trod] at h
  | succ m =>
    unfold DataW.trod at h
    rw [ht] at h
    split at h <;> simp_all

theorem Rd.str (hs : P.cellsOf t = 1) (ht : P.underlying t = some .string) : Rd P t (List UInt8) S1 (fun s => s.length ≤ 9223372036854775807) 1 := by
  refine ⟨hs, ?_⟩
  intro H enc w base spare held fuel cs x h
  obtain ⟨s, rfl, hw⟩ := trod_str' ht h
  refine ⟨s.data.toList, ?_, .one (I.ofString s) rfl, rfl⟩
  unfold maxLen at hw
  exact hw

theorem cell_spot {w : World} {a : Addr} {v : Value} (h : w.cell? a = some v) : a.spot = none ∧ a.block < w.heap.size := by
  unfold World.cell? at h
  split at h
  · rename_i hb
    refine ⟨?_, ?_⟩
    · split at h
      · cases h
      · rename_i hs; simpa using hs
    rcases Nat.lt_or_ge a.block w.heap.size with h1 | h1
    · exact h1
    · simp [Array.getElem?_eq_none h1] at hb
  · cases h

theorem mapM_get {α β : Type} {f : α → Option β} : ∀ {l : List α} {r : List β}, l.mapM f = some r → r.length = l.length ∧ ∀ (i : Nat) a, l[i]? = some a → f a = r[i]? := by
  intro l
  induction l with
  | nil => intro r h; simp at h; subst h; exact ⟨rfl, by intro i a h; simp at h⟩
  | cons x l ih =>
    intro r h
    simp only [List.mapM_cons, Option.bind_eq_bind] at h
    cases hx : f x with
    | none => simp [hx] at h
    | some y =>
      cases hl : l.mapM f with
      | none => simp [hx, hl] at h
      | some ys =>
        simp [hx, hl] at h
        subst h
        obtain ⟨h1, h2⟩ := ih hl
        refine ⟨by simp [h1], ?_⟩
        intro i a hi
        cases i with
        | zero => simp at hi; subst hi; simp [hx]
        | succ i => simpa using h2 i a (by simpa using hi)

theorem Rd.slice {e : TypeId} {α : Type} {f : α → List AV} {ok : α → Prop} {n : Nat} (he : Rd P e α f ok n) (hn : 0 < n) (hs : P.cellsOf t = 1) (ht : P.underlying t = some (.slice e)) :
    Rd P t (List α) (fun l => [.isl n (l.map f)]) (fun l => l.length ≤ 9223372036854775807 ∧ ∀ a ∈ l, ok a) 1 := by
  refine ⟨hs, ?_⟩
  intro H enc w base spare held fuel cs x h
  rcases DataW.trod_slice ht h with ⟨rfl, _⟩ | ⟨a, len, cap, elems, rest, m, rfl, rfl, _, hb, hlc, hcap, hel, hget, _⟩
  · exact ⟨[], ⟨Nat.zero_le _, by simp⟩, .one (.nsl _) rfl, rfl⟩
  · rw [he.size] at hget
    have hrow : ∀ i, i < len → ∃ (b : α) (vs : List Value), ok b ∧ RdC w vs (f b) ∧ vs.length = n ∧ ∀ j, j < n → w.cell? ((a.add (i * n)).add j) = vs[j]? := by
      intro i hi
      have h1 := hget i hi
      have h2 : ∃ y, elems[i]? = some y := ⟨elems[i]'(by omega), List.getElem?_eq_getElem _⟩
      obtain ⟨y, hy⟩ := h2
      rw [hy, Option.bind_eq_some_iff] at h1
      obtain ⟨vs, h3, h4⟩ := h1
      obtain ⟨b, h5, h6, h7⟩ := he.read enc w base spare held m vs y h4
      refine ⟨b, vs, h5, h6, h7, ?_⟩
      unfold World.cells? at h3
      split at h3
      · obtain ⟨_, h8⟩ := mapM_get h3
        intro j hj
        exact h8 j j (by simp [hj])
      · cases h3
    by_cases hz : len = 0
    · subst hz
      exact ⟨[], ⟨Nat.zero_le _, by simp⟩, .one (.esl _ _ _) rfl, rfl⟩
    obtain ⟨b0, vs0, hb0⟩ := hrow 0 (by omega)
    obtain ⟨g, gv, hg⟩ : ∃ (g : Nat → α) (gv : Nat → List Value), ∀ i, i < len → ok (g i) ∧ RdC w (gv i) (f (g i)) ∧ (gv i).length = n ∧ ∀ j, j < n → w.cell? ((a.add (i * n)).add j) = (gv i)[j]? := by
      refine ⟨fun i => if h : i < len then (hrow i h).choose else b0, fun i => if h : i < len then (hrow i h).choose_spec.choose else vs0, ?_⟩
      intro i hi
      simp only [dif_pos hi]
      exact (hrow i hi).choose_spec.choose_spec
    have hsp : a.spot = none ∧ a.block < w.heap.size := by
      obtain ⟨_, _, h3, h4⟩ := hg 0 (by omega)
      have h5 := h4 0 hn
      have h6 : ∃ v, (gv 0)[0]? = some v := ⟨(gv 0)[0]'(by omega), List.getElem?_eq_getElem _⟩
      obtain ⟨v, h6⟩ := h6
      rw [h6] at h5
      have h7 := cell_spot h5
      simpa [Addr.add] using h7
    obtain ⟨ab, ao, asp⟩ := a
    obtain ⟨hsp1, hsp2⟩ := hsp
    simp only at hsp1 hsp2
    subst hsp1
    simp only [addr_add] at hg
    have hmap : ∀ i, i < len → ((List.range len).map g)[i]? = some (g i) := by intro i hi; simp [hi]
    refine ⟨(List.range len).map g, ⟨by simp; unfold maxLen at hcap; omega, ?_⟩, .one ?_ rfl, rfl⟩
    · intro b hb
      obtain ⟨i, hi, rfl⟩ := List.mem_map.1 hb
      exact (hg i (by simpa using hi)).1
    · have := I.isl (w := w) (lab := fun _ => none) n (((List.range len).map g).map f) ab ao cap (fun i j => (gv i).getD j undef) rfl hsp2 (by simpa using hlc) ?_ ?_ ?_ ?_
      · simpa using this
      · intro c hc
        obtain ⟨b, hb, rfl⟩ := List.mem_map.1 hc
        obtain ⟨i, hi, rfl⟩ := List.mem_map.1 hb
        obtain ⟨_, h2, h3, _⟩ := hg i (by simpa using hi)
        rw [h2.1, h3]
      · intro c hc y hy
        obtain ⟨b, hb, rfl⟩ := List.mem_map.1 hc
        obtain ⟨i, hi, rfl⟩ := List.mem_map.1 hb
        exact (hg i (by simpa using hi)).2.1.2.2 y hy
      · intro i j hi hj
        have hi : i < len := by simpa using hi
        obtain ⟨_, h2, h3, h4⟩ := hg i hi
        rw [h4 j hj]
        simp [List.getD, h3, hj]
      · intro i c j y hi hj
        have hi' : i < len := by have := (List.getElem?_eq_some_iff.1 hi).1; simpa using this
        obtain ⟨_, h2, h3, h4⟩ := hg i hi'
        rw [List.getElem?_map, hmap i hi'] at hi
        cases hi
        have hj' : j < (gv i).length := by rw [← h2.1]; exact (List.getElem?_eq_some_iff.1 hj).1
        have := h2.2.1 j y (gv i)[j] hj (List.getElem?_eq_getElem hj')
        simpa [List.getD, hj'] using this

/-- an argument, read -/
theorem Rd.arg {α : Type} {f : α → List AV} {ok : α → Prop} {n : Nat} (h : Rd P t α f ok n) {w : World} {H : Type} {enc : TypeId × Value → H} {base : Nat} {spare : Nat → Bool} {held : Bool} {v : Value} {d : DataW H} {ps : List MemPlace}
    (hd : DataW.Trod enc P w base spare held t v d ps) : ∃ a, ok a ∧ RdC w v.cells.toList (f a) := by
  obtain ⟨fuel, hd⟩ := hd
  obtain ⟨a, h1, h2, _⟩ := h.read enc w base spare held fuel _ _ hd
  exact ⟨a, h1, h2⟩

theorem RdC.agg {w : World} {cs : Array Value} {ys : List AV} (h : RdC w cs.toList ys) : I w (fun _ => none) (.agg ys) (.agg cs) := by
  have := I.agg (w := w) (lab := fun _ => none) ys cs.toList h.1 h.2.1
  simpa using this

theorem cells_agg {w : World} {base : Nat} {fs : Array Field} {v : Value} (ht : P.underlying t = some (.struct fs)) (hv : Value.okWide P w .any base t v) : ∃ cs, v = .agg cs := by
  unfold Value.okWide at hv
  rw [ht] at hv
  obtain ⟨cs, h, _⟩ := hv
  exact ⟨cs, h⟩

/-- an argument of a struct's type -/
theorem Rd.argS {α : Type} {f : α → List AV} {ok : α → Prop} {n : Nat} (h : Rd P t α f ok n) {fs : Array Field} (ht : P.underlying t = some (.struct fs)) {w : World} {H : Type} {enc : TypeId × Value → H} {base base' : Nat} {spare : Nat → Bool} {held : Bool} {v : Value} {d : DataW H} {ps : List MemPlace}
    (hv : Value.okWide P w .any base' t v) (hd : DataW.Trod enc P w base spare held t v d ps) : ∃ a, ok a ∧ I w (fun _ => none) (.agg (f a)) v := by
  obtain ⟨cs, rfl⟩ := cells_agg ht hv
  obtain ⟨a, h1, h2⟩ := h.arg hd
  exact ⟨a, h1, h2.agg⟩

theorem cells_int {w : World} {base : Nat} {k : IntKind} {v : Value} (ht : P.underlying t = some (.int k)) (hv : Value.okWide P w .any base t v) : v.cells.toList = [v] := by
  unfold Value.okWide at hv
  rw [ht] at hv
  unfold Cell.okWide at hv
  rw [ht] at hv
  cases v with
  | agg cs => simp [Cell.ok, ht] at hv
  | _ => rfl

/-- an argument of one cell -/
theorem Rd.arg1 {α : Type} {f : α → List AV} {ok : α → Prop} {n : Nat} (h : Rd P t α f ok n) {g : α → AV} (hg : ∀ a, f a = [g a]) {w : World} {H : Type} {enc : TypeId × Value → H} {base : Nat} {spare : Nat → Bool} {held : Bool} {v : Value} {d : DataW H} {ps : List MemPlace}
    (hv : v.cells.toList = [v]) (hd : DataW.Trod enc P w base spare held t v d ps) : ∃ a, ok a ∧ I w (fun _ => none) (g a) v := by
  obtain ⟨a, h1, h2⟩ := h.arg hd
  rw [hv, hg] at h2
  exact ⟨a, h1, h2.2.1 0 _ _ rfl rfl⟩

/-- an argument reads behind the call as it did -/
theorem Kept.trod {H : Type} {enc : TypeId × Value → H} (hl : laidOutB P = true) (hr : P.readableRec t = true) (hrow : t < P.types.size) {W W' : World} {v : Value} {d : DataW H} {ps : List MemPlace} (hk : Kept W W')
    (h : DataW.Trod enc P W 0 (fun _ => true) true t v d ps) (hlt : ∀ x ∈ ps, x.block < W.heap.size) {sp : Nat → Bool} (hs : ∀ p ∈ ps, sp p.block = true) : DataW.Trod enc P W' 0 sp true t v d ps := by
  refine WideElems.Trod_stays hl hr hrow h (fun x hx => ?_) hs
  cases x with
  | cell b o => exact World.cell?_of_block (w := W) (hk.heap b (hlt _ hx))
  | map b => exact hk.heap b (hlt _ hx)
end
end Go.AM
namespace Go.AM

theorem wrap64 {n : Int} (h1 : -9223372036854775808 ≤ n) (h2 : n ≤ 9223372036854775807) : IntKind.wrap .i64 n = n := by
  simp [IntKind.wrap, IntKind.bits, IntKind.signed]
  omega
theorem wrapi {i n : Nat} (h : i < n) (hn : n ≤ 9223372036854775807) : IntKind.wrap .i64 ((i : Int) + 1) = (i : Int) + 1 := wrap64 (by omega) (by omega)

/-! sizes -/
def subz (z : Int) (n : Nat) : Int := if z < n then -1 else z - n
theorem subz_neg {z : Int} {n : Nat} : subz z n < 0 ↔ z < n := by unfold subz; split <;> omega
theorem subz_nn {z : Int} {n : Nat} : 0 ≤ subz z n ↔ n ≤ z := by unfold subz; split <;> omega
theorem subz_ok {z : Int} {n : Nat} (h : n ≤ z) : subz z n = z - n := by unfold subz; split <;> omega
theorem subz_no {z : Int} {n : Nat} (h : z < n) : subz z n = -1 := by unfold subz; rw [if_pos h]
theorem sum_take {α : Type} {l : List α} {i : Nat} {x : α} {f : α → Nat} (h : l[i]? = some x) : ((l.map f).take (i + 1)).sum = ((l.map f).take i).sum + f x := by
  rw [List.take_add_one, List.getElem?_map, h]; simp
theorem sum_le {α : Type} {f : α → Nat} {l : List α} {i : Nat} : ((l.map f).take i).sum ≤ (l.map f).sum := by
  conv => rhs; rw [← List.take_append_drop i (l.map f), List.sum_append]
  omega
theorem sum_mem {α : Type} {f : α → Nat} {l : List α} {x : α} (h : x ∈ l) : f x ≤ (l.map f).sum := by
  induction l with
  | nil => cases h
  | cons y l ih =>
    simp only [List.map_cons, List.sum_cons]
    rcases List.mem_cons.1 h with rfl | h
    · omega
    · have := ih h; omega
theorem at_some {α : Type} {l : List α} {i : Nat} (h : i < l.length) : ∃ x, l[i]? = some x := ⟨l[i], List.getElem?_eq_getElem h⟩
theorem at_lt {α : Type} {l : List α} {i : Nat} {x : α} (h : l[i]? = some x) : i < l.length := (List.getElem?_eq_some_iff.1 h).1

/-! equal slices -/
theorem eq_ne_len {α : Type} [DecidableEq α] {a b : List α} (h : ¬ a.length = b.length) : decide (a = b) = false := by
  rw [decide_eq_false_iff_not]; rintro rfl; exact h rfl
theorem eq_ne_at {α : Type} [DecidableEq α] {a b : List α} {i : Nat} {x y : α} (hx : a[i]? = some x) (hy : b[i]? = some y) (h : ¬ x = y) : decide (a = b) = false := by
  rw [decide_eq_false_iff_not]; rintro rfl; rw [hx] at hy; cases hy; exact h rfl
theorem eq_end {α : Type} [DecidableEq α] {a b : List α} {i : Nat} (hl : a.length = b.length) (h : a.take i = b.take i) (hi : a.length ≤ i) : decide (a = b) = true := by
  rw [decide_eq_true_eq]; rwa [List.take_of_length_le hi, List.take_of_length_le (by omega)] at h
theorem take_step {α : Type} {a b : List α} {i : Nat} {x y : α} (hx : a[i]? = some x) (hy : b[i]? = some y) (e : x = y) (h : a.take i = b.take i) : a.take (i + 1) = b.take (i + 1) := by
  rw [List.take_add_one, List.take_add_one, h, hx, hy, e]

/-! slices that are filled -/
def fill {α : Type} (f : α → List AV) (z : List AV) (l : List α) (i : Nat) : List (List AV) := (l.take i).map f ++ List.replicate (l.length - i) z
theorem fill_len {α : Type} {f : α → List AV} {z : List AV} {l : List α} {i : Nat} (h : i ≤ l.length) : (fill f z l i).length = l.length := by simp [fill]; omega
theorem fill_at {α : Type} {f : α → List AV} {z : List AV} {l : List α} {i : Nat} (h : i < l.length) : (fill f z l i)[i]? = some z := by
  unfold fill
  rw [List.getElem?_append_right (by simp; omega), List.getElem?_replicate, if_pos (by simp; omega)]
theorem fill_set {α : Type} {f : α → List AV} {z : List AV} {l : List α} {i : Nat} {x : α} (h : l[i]? = some x) : (fill f z l i).set i (f x) = fill f z l (i + 1) := by
  obtain ⟨hi, hx⟩ := List.getElem?_eq_some_iff.1 h
  unfold fill
  have e : l.length - i = (l.length - (i + 1)) + 1 := by omega
  rw [e, List.replicate_succ, List.set_append, if_neg (by simp; omega), List.take_add_one, h]
  have e2 : i - ((l.take i).map f).length = 0 := by simp; omega
  rw [e2]
  simp
theorem fill_zero {α : Type} (f : α → List AV) (z : List AV) (l : List α) : fill f z l 0 = List.replicate l.length z := by simp [fill]
theorem fill_end {α : Type} {f : α → List AV} {z : List AV} {l : List α} {i : Nat} (h : l.length ≤ i) : fill f z l i = l.map f := by
  unfold fill; rw [List.take_of_length_le h, show l.length - i = 0 by omega]; simp
theorem fill_ids {α : Type} {f : α → List AV} {z : List AV} {l : List α} {i : Nat} (hf : ∀ x, idsL (f x) = []) (hz : idsL z = []) : (fill f z l i).flatMap idsL = [] := by
  unfold fill
  rw [List.flatMap_append, flatids hf]
  simp [hz]

def TStep.gok (x : TStep) : Prop := x.name.length ≤ 9223372036854775807 ∧ x.cond.length ≤ 9223372036854775807 ∧ x.expr.length ≤ 9223372036854775807
def TChart.gok (x : TChart) : Prop := x.vars.length ≤ 9223372036854775807 ∧ x.acts.length ≤ 9223372036854775807 ∧ x.dues.length ≤ 9223372036854775807
def TProc.gok (x : TProc) : Prop := (x.steps.length ≤ 9223372036854775807 ∧ ∀ e ∈ x.steps, e.gok)
def TInst.gok (x : TInst) : Prop := x.chart.gok
def TEngine.gok (x : TEngine) : Prop := (x.procs.length ≤ 9223372036854775807 ∧ ∀ e ∈ x.procs, e.gok) ∧ (x.insts.length ≤ 9223372036854775807 ∧ ∀ e ∈ x.insts, e.gok)
def TDesk.gok (x : TDesk) : Prop := x.engine.gok ∧ x.claims.length ≤ 9223372036854775807
end Go.AM
namespace Go.AM
open Go.Proofs

def i2 : TInfo := ⟨(.int .i64), 1, 8, some [.int .i64 0], false⟩
theorem tyok2 : TOk1 Tryz.prog 2 i2 := tok1 Tryz.typeInfo2 rfl rfl (tz1 _ rfl rfl rfl rfl) Tryz.underlying2 (fun h => absurd h (by decide))
def i3 : TInfo := ⟨(.int .i64), 1, 8, some [.int .i64 0], false⟩
theorem tyok3 : TOk1 Tryz.prog 3 i3 := tok1 Tryz.typeInfo3 rfl rfl (tz1 _ rfl rfl rfl rfl) Tryz.underlying3 (fun h => absurd h (by decide))
def i4 : TInfo := ⟨.bool, 1, 1, some [.bool false], false⟩
theorem tyok4 : TOk1 Tryz.prog 4 i4 := tok1 Tryz.typeInfo4 rfl rfl (tz1 _ rfl rfl rfl rfl) Tryz.underlying4 (fun h => absurd h (by decide))
def i5 : TInfo := ⟨(.int .u8), 1, 1, some [.int .u8 0], false⟩
theorem tyok5 : TOk1 Tryz.prog 5 i5 := tok1 Tryz.typeInfo5 rfl rfl (tz1 _ rfl rfl rfl rfl) Tryz.underlying5 (fun h => absurd h (by decide))
def i9 : TInfo := ⟨.str, 1, 16, some [.str []], false⟩
theorem tyok9 : TOk1 Tryz.prog 9 i9 := tok1 Tryz.typeInfo9 rfl rfl (tz1 _ rfl rfl rfl rfl) Tryz.underlying9 (fun h => absurd h (by decide))
def i21 : TInfo := ⟨(.int .i32), 1, 4, some [.int .i32 0], false⟩
theorem tyok21 : TOk1 Tryz.prog 21 i21 := tok1 Tryz.typeInfo21 rfl rfl (tz1 _ rfl rfl rfl rfl) Tryz.underlying21 (fun h => absurd h (by decide))
def i22 : TInfo := ⟨(.slice 89), 1, 24, some [.nils], false⟩
theorem tyok22 : TOk1 Tryz.prog 22 i22 := tok1 Tryz.typeInfo22 rfl rfl (tz1 _ rfl rfl rfl rfl) Tryz.underlying22 (fun h => absurd h (by decide))
def i23 : TInfo := ⟨(.slice 94), 1, 24, some [.nils], false⟩
theorem tyok23 : TOk1 Tryz.prog 23 i23 := tok1 Tryz.typeInfo23 rfl rfl (tz1 _ rfl rfl rfl rfl) Tryz.underlying23 (fun h => absurd h (by decide))
def i25 : TInfo := ⟨(.struct [(0, 22), (1, 23), (2, 2)]), 3, 56, some [.nils, .nils, .int .i64 0], false⟩
theorem tyok25 : TOk1 Tryz.prog 25 i25 := tok1 Tryz.typeInfo25 rfl rfl (tz1 _ rfl rfl rfl rfl) (kstruct Tryz.underlying25 rfl) (fun h => absurd h (by decide))
def i26 : TInfo := ⟨(.slice 75), 1, 24, some [.nils], false⟩
theorem tyok26 : TOk1 Tryz.prog 26 i26 := tok1 Tryz.typeInfo26 rfl rfl (tz1 _ rfl rfl rfl rfl) Tryz.underlying26 (fun h => absurd h (by decide))
def i28 : TInfo := ⟨(.struct [(0, 25), (3, 26)]), 4, 80, some [.nils, .nils, .int .i64 0, .nils], false⟩
theorem tyok28 : TOk1 Tryz.prog 28 i28 := tok1 Tryz.typeInfo28 rfl rfl (tz1 _ rfl rfl rfl rfl) (kstruct Tryz.underlying28 rfl) (fun h => absurd h (by decide))
def i30 : TInfo := ⟨(.slice 52), 1, 24, some [.nils], false⟩
theorem tyok30 : TOk1 Tryz.prog 30 i30 := tok1 Tryz.typeInfo30 rfl rfl (tz1 _ rfl rfl rfl rfl) Tryz.underlying30 (fun h => absurd h (by decide))
def i32 : TInfo := ⟨(.struct [(0, 2), (1, 30)]), 2, 32, some [.int .i64 0, .nils], false⟩
theorem tyok32 : TOk1 Tryz.prog 32 i32 := tok1 Tryz.typeInfo32 rfl rfl (tz1 _ rfl rfl rfl rfl) (kstruct Tryz.underlying32 rfl) (fun h => absurd h (by decide))
def i34 : TInfo := ⟨(.slice 103), 1, 24, some [.nils], false⟩
theorem tyok34 : TOk1 Tryz.prog 34 i34 := tok1 Tryz.typeInfo34 rfl rfl (tz1 _ rfl rfl rfl rfl) Tryz.underlying34 (fun h => absurd h (by decide))
def i35 : TInfo := ⟨(.slice 99), 1, 24, some [.nils], false⟩
theorem tyok35 : TOk1 Tryz.prog 35 i35 := tok1 Tryz.typeInfo35 rfl rfl (tz1 _ rfl rfl rfl rfl) Tryz.underlying35 (fun h => absurd h (by decide))
def i37 : TInfo := ⟨(.struct [(0, 34), (1, 35), (2, 2)]), 3, 56, some [.nils, .nils, .int .i64 0], false⟩
theorem tyok37 : TOk1 Tryz.prog 37 i37 := tok1 Tryz.typeInfo37 rfl rfl (tz1 _ rfl rfl rfl rfl) (kstruct Tryz.underlying37 rfl) (fun h => absurd h (by decide))
def i39 : TInfo := ⟨(.struct [(0, 37), (3, 30)]), 4, 80, some [.nils, .nils, .int .i64 0, .nils], false⟩
theorem tyok39 : TOk1 Tryz.prog 39 i39 := tok1 Tryz.typeInfo39 rfl rfl (tz1 _ rfl rfl rfl rfl) (kstruct Tryz.underlying39 rfl) (fun h => absurd h (by decide))
def i49 : TInfo := ⟨(.pointer 39), 1, 8, some [.nilp], false⟩
theorem tyok49 : TOk1 Tryz.prog 49 i49 := tok1 Tryz.typeInfo49 rfl rfl (tz1 _ rfl rfl rfl rfl) Tryz.underlying49 (fun h => absurd h (by decide))
def i52 : TInfo := ⟨(.struct [(0, 2), (1, 2), (2, 2)]), 3, 24, some [.int .i64 0, .int .i64 0, .int .i64 0], true⟩
theorem tyok52 : TOk1 Tryz.prog 52 i52 := tok1 Tryz.typeInfo52 rfl rfl (tz1 _ rfl rfl rfl rfl) (kstruct Tryz.underlying52 rfl) (fun _ => flatEq (fs := [{ name := "Inst", type := 2, offset := 0, embedded := false, tag := "", pkgPath := "", byteOffset := 0 }, { name := "Step", type := 2, offset := 1, embedded := false, tag := "", pkgPath := "", byteOffset := 8 }, { name := "User", type := 2, offset := 2, embedded := false, tag := "", pkgPath := "", byteOffset := 16 }]) (by kernel_rfl) (by kernel_rfl) (by kernel_rfl) (by kernel_rfl) rfl (by intro j f h; match j, h with | 0, h => (cases h; exact ⟨rfl, by decide, Tryz.underlying2⟩) | 1, h => (cases h; exact ⟨rfl, by decide, Tryz.underlying2⟩) | 2, h => (cases h; exact ⟨rfl, by decide, Tryz.underlying2⟩) | (n + 3), h => simp at h))
def i68 : TInfo := ⟨(.pointer 37), 1, 8, some [.nilp], false⟩
theorem tyok68 : TOk1 Tryz.prog 68 i68 := tok1 Tryz.typeInfo68 rfl rfl (tz1 _ rfl rfl rfl rfl) Tryz.underlying68 (fun h => absurd h (by decide))
def i75 : TInfo := ⟨(.struct [(0, 2), (1, 2), (2, 2)]), 3, 24, some [.int .i64 0, .int .i64 0, .int .i64 0], true⟩
theorem tyok75 : TOk1 Tryz.prog 75 i75 := tok1 Tryz.typeInfo75 rfl rfl (tz1 _ rfl rfl rfl rfl) (kstruct Tryz.underlying75 rfl) (fun _ => flatEq (fs := [{ name := "Inst", type := 2, offset := 0, embedded := false, tag := "", pkgPath := "", byteOffset := 0 }, { name := "Step", type := 2, offset := 1, embedded := false, tag := "", pkgPath := "", byteOffset := 8 }, { name := "User", type := 2, offset := 2, embedded := false, tag := "", pkgPath := "", byteOffset := 16 }]) (by kernel_rfl) (by kernel_rfl) (by kernel_rfl) (by kernel_rfl) rfl (by intro j f h; match j, h with | 0, h => (cases h; exact ⟨rfl, by decide, Tryz.underlying2⟩) | 1, h => (cases h; exact ⟨rfl, by decide, Tryz.underlying2⟩) | 2, h => (cases h; exact ⟨rfl, by decide, Tryz.underlying2⟩) | (n + 3), h => simp at h))
def i76 : TInfo := ⟨(.slice 2), 1, 24, some [.nils], false⟩
theorem tyok76 : TOk1 Tryz.prog 76 i76 := tok1 Tryz.typeInfo76 rfl rfl (tz1 _ rfl rfl rfl rfl) Tryz.underlying76 (fun h => absurd h (by decide))
def i87 : TInfo := ⟨(.slice 139), 1, 24, some [.nils], false⟩
theorem tyok87 : TOk1 Tryz.prog 87 i87 := tok1 Tryz.typeInfo87 rfl rfl (tz1 _ rfl rfl rfl rfl) Tryz.underlying87 (fun h => absurd h (by decide))
def i89 : TInfo := ⟨(.struct [(0, 87)]), 1, 24, some [.nils], false⟩
theorem tyok89 : TOk1 Tryz.prog 89 i89 := tok1 Tryz.typeInfo89 rfl rfl (tz1 _ rfl rfl rfl rfl) (kstruct Tryz.underlying89 rfl) (fun h => absurd h (by decide))
def i92 : TInfo := ⟨(.struct [(0, 2), (1, 2), (2, 76), (3, 76), (4, 76)]), 5, 88, some [.int .i64 0, .int .i64 0, .nils, .nils, .nils], false⟩
theorem tyok92 : TOk1 Tryz.prog 92 i92 := tok1 Tryz.typeInfo92 rfl rfl (tz1 _ rfl rfl rfl rfl) (kstruct Tryz.underlying92 rfl) (fun h => absurd h (by decide))
def i94 : TInfo := ⟨(.struct [(0, 2), (1, 92)]), 6, 96, some [.int .i64 0, .int .i64 0, .int .i64 0, .nils, .nils, .nils], false⟩
theorem tyok94 : TOk1 Tryz.prog 94 i94 := tok1 Tryz.typeInfo94 rfl rfl (tz1 _ rfl rfl rfl rfl) (kstruct Tryz.underlying94 rfl) (fun h => absurd h (by decide))
def i96 : TInfo := ⟨(.pointer 99), 1, 8, some [.nilp], false⟩
theorem tyok96 : TOk1 Tryz.prog 96 i96 := tok1 Tryz.typeInfo96 rfl rfl (tz1 _ rfl rfl rfl rfl) Tryz.underlying96 (fun h => absurd h (by decide))
def i97 : TInfo := ⟨(.struct [(0, 2), (1, 2), (2, 76), (3, 76), (4, 76)]), 5, 88, some [.int .i64 0, .int .i64 0, .nils, .nils, .nils], false⟩
theorem tyok97 : TOk1 Tryz.prog 97 i97 := tok1 Tryz.typeInfo97 rfl rfl (tz1 _ rfl rfl rfl rfl) (kstruct Tryz.underlying97 rfl) (fun h => absurd h (by decide))
def i99 : TInfo := ⟨(.struct [(0, 2), (1, 97)]), 6, 96, some [.int .i64 0, .int .i64 0, .int .i64 0, .nils, .nils, .nils], false⟩
theorem tyok99 : TOk1 Tryz.prog 99 i99 := tok1 Tryz.typeInfo99 rfl rfl (tz1 _ rfl rfl rfl rfl) (kstruct Tryz.underlying99 rfl) (fun h => absurd h (by decide))
def i101 : TInfo := ⟨(.slice 107), 1, 24, some [.nils], false⟩
theorem tyok101 : TOk1 Tryz.prog 101 i101 := tok1 Tryz.typeInfo101 rfl rfl (tz1 _ rfl rfl rfl rfl) Tryz.underlying101 (fun h => absurd h (by decide))
def i103 : TInfo := ⟨(.struct [(0, 101)]), 1, 24, some [.nils], false⟩
theorem tyok103 : TOk1 Tryz.prog 103 i103 := tok1 Tryz.typeInfo103 rfl rfl (tz1 _ rfl rfl rfl rfl) (kstruct Tryz.underlying103 rfl) (fun h => absurd h (by decide))
def i104 : TInfo := ⟨(.pointer 97), 1, 8, some [.nilp], false⟩
theorem tyok104 : TOk1 Tryz.prog 104 i104 := tok1 Tryz.typeInfo104 rfl rfl (tz1 _ rfl rfl rfl rfl) Tryz.underlying104 (fun h => absurd h (by decide))
def i105 : TInfo := ⟨(.slice 155), 1, 24, some [.nils], false⟩
theorem tyok105 : TOk1 Tryz.prog 105 i105 := tok1 Tryz.typeInfo105 rfl rfl (tz1 _ rfl rfl rfl rfl) Tryz.underlying105 (fun h => absurd h (by decide))
def i107 : TInfo := ⟨(.struct [(0, 2), (1, 2), (2, 9), (3, 2), (4, 105), (5, 105)]), 6, 88, some [.int .i64 0, .int .i64 0, .str [], .int .i64 0, .nils, .nils], false⟩
theorem tyok107 : TOk1 Tryz.prog 107 i107 := tok1 Tryz.typeInfo107 rfl rfl (tz1 _ rfl rfl rfl rfl) (kstruct Tryz.underlying107 rfl) (fun h => absurd h (by decide))
def i127 : TInfo := ⟨(.pointer 129), 1, 8, some [.nilp], false⟩
theorem tyok127 : TOk1 Tryz.prog 127 i127 := tok1 Tryz.typeInfo127 rfl rfl (tz1 _ rfl rfl rfl rfl) Tryz.underlying127 (fun h => absurd h (by decide))
def i129 : TInfo := ⟨(.struct [(0, 101), (1, 97)]), 6, 112, some [.nils, .int .i64 0, .int .i64 0, .nils, .nils, .nils], false⟩
theorem tyok129 : TOk1 Tryz.prog 129 i129 := tok1 Tryz.typeInfo129 rfl rfl (tz1 _ rfl rfl rfl rfl) (kstruct Tryz.underlying129 rfl) (fun h => absurd h (by decide))
def i131 : TInfo := ⟨(.slice 3), 1, 24, some [.nils], false⟩
theorem tyok131 : TOk1 Tryz.prog 131 i131 := tok1 Tryz.typeInfo131 rfl rfl (tz1 _ rfl rfl rfl rfl) Tryz.underlying131 (fun h => absurd h (by decide))
def i137 : TInfo := ⟨(.slice 181), 1, 24, some [.nils], false⟩
theorem tyok137 : TOk1 Tryz.prog 137 i137 := tok1 Tryz.typeInfo137 rfl rfl (tz1 _ rfl rfl rfl rfl) Tryz.underlying137 (fun h => absurd h (by decide))
def i139 : TInfo := ⟨(.struct [(0, 2), (1, 2), (2, 9), (3, 2), (4, 137), (5, 137)]), 6, 88, some [.int .i64 0, .int .i64 0, .str [], .int .i64 0, .nils, .nils], false⟩
theorem tyok139 : TOk1 Tryz.prog 139 i139 := tok1 Tryz.typeInfo139 rfl rfl (tz1 _ rfl rfl rfl rfl) (kstruct Tryz.underlying139 rfl) (fun h => absurd h (by decide))
def i145 : TInfo := ⟨(.pointer 147), 1, 8, some [.nilp], false⟩
theorem tyok145 : TOk1 Tryz.prog 145 i145 := tok1 Tryz.typeInfo145 rfl rfl (tz1 _ rfl rfl rfl rfl) Tryz.underlying145 (fun h => absurd h (by decide))
def i147 : TInfo := ⟨(.struct [(0, 76), (1, 76)]), 2, 48, some [.nils, .nils], false⟩
theorem tyok147 : TOk1 Tryz.prog 147 i147 := tok1 Tryz.typeInfo147 rfl rfl (tz1 _ rfl rfl rfl rfl) (kstruct Tryz.underlying147 rfl) (fun h => absurd h (by decide))
def i153 : TInfo := ⟨(.slice 5), 1, 24, some [.nils], false⟩
theorem tyok153 : TOk1 Tryz.prog 153 i153 := tok1 Tryz.typeInfo153 rfl rfl (tz1 _ rfl rfl rfl rfl) Tryz.underlying153 (fun h => absurd h (by decide))
def i155 : TInfo := ⟨(.struct [(0, 2), (1, 2), (2, 2), (3, 2)]), 4, 32, some [.int .i64 0, .int .i64 0, .int .i64 0, .int .i64 0], true⟩
theorem tyok155 : TOk1 Tryz.prog 155 i155 := tok1 Tryz.typeInfo155 rfl rfl (tz1 _ rfl rfl rfl rfl) (kstruct Tryz.underlying155 rfl) (fun _ => flatEq (fs := [{ name := "Kind", type := 2, offset := 0, embedded := false, tag := "", pkgPath := "", byteOffset := 0 }, { name := "Value", type := 2, offset := 1, embedded := false, tag := "", pkgPath := "", byteOffset := 8 }, { name := "Left", type := 2, offset := 2, embedded := false, tag := "", pkgPath := "", byteOffset := 16 }, { name := "Right", type := 2, offset := 3, embedded := false, tag := "", pkgPath := "", byteOffset := 24 }]) (by kernel_rfl) (by kernel_rfl) (by kernel_rfl) (by kernel_rfl) rfl (by intro j f h; match j, h with | 0, h => (cases h; exact ⟨rfl, by decide, Tryz.underlying2⟩) | 1, h => (cases h; exact ⟨rfl, by decide, Tryz.underlying2⟩) | 2, h => (cases h; exact ⟨rfl, by decide, Tryz.underlying2⟩) | 3, h => (cases h; exact ⟨rfl, by decide, Tryz.underlying2⟩) | (n + 4), h => simp at h))
def i157 : TInfo := ⟨(.pointer 107), 1, 8, some [.nilp], false⟩
theorem tyok157 : TOk1 Tryz.prog 157 i157 := tok1 Tryz.typeInfo157 rfl rfl (tz1 _ rfl rfl rfl rfl) Tryz.underlying157 (fun h => absurd h (by decide))
def i170 : TInfo := ⟨(.struct [(0, 2), (1, 2)]), 2, 16, some [.int .i64 0, .int .i64 0], true⟩
theorem tyok170 : TOk1 Tryz.prog 170 i170 := tok1 Tryz.typeInfo170 rfl rfl (tz1 _ rfl rfl rfl rfl) (kstruct Tryz.underlying170 rfl) (fun _ => flatEq (fs := [{ name := "Code", type := 2, offset := 0, embedded := false, tag := "", pkgPath := "", byteOffset := 0 }, { name := "Value", type := 2, offset := 1, embedded := false, tag := "", pkgPath := "", byteOffset := 8 }]) (by kernel_rfl) (by kernel_rfl) (by kernel_rfl) (by kernel_rfl) rfl (by intro j f h; match j, h with | 0, h => (cases h; exact ⟨rfl, by decide, Tryz.underlying2⟩) | 1, h => (cases h; exact ⟨rfl, by decide, Tryz.underlying2⟩) | (n + 2), h => simp at h))
def i176 : TInfo := ⟨(.pointer 155), 1, 8, some [.nilp], false⟩
theorem tyok176 : TOk1 Tryz.prog 176 i176 := tok1 Tryz.typeInfo176 rfl rfl (tz1 _ rfl rfl rfl rfl) Tryz.underlying176 (fun h => absurd h (by decide))
def i181 : TInfo := ⟨(.struct [(0, 2), (1, 2), (2, 2), (3, 2)]), 4, 32, some [.int .i64 0, .int .i64 0, .int .i64 0, .int .i64 0], true⟩
theorem tyok181 : TOk1 Tryz.prog 181 i181 := tok1 Tryz.typeInfo181 rfl rfl (tz1 _ rfl rfl rfl rfl) (kstruct Tryz.underlying181 rfl) (fun _ => flatEq (fs := [{ name := "Kind", type := 2, offset := 0, embedded := false, tag := "", pkgPath := "", byteOffset := 0 }, { name := "Value", type := 2, offset := 1, embedded := false, tag := "", pkgPath := "", byteOffset := 8 }, { name := "Left", type := 2, offset := 2, embedded := false, tag := "", pkgPath := "", byteOffset := 16 }, { name := "Right", type := 2, offset := 3, embedded := false, tag := "", pkgPath := "", byteOffset := 24 }]) (by kernel_rfl) (by kernel_rfl) (by kernel_rfl) (by kernel_rfl) rfl (by intro j f h; match j, h with | 0, h => (cases h; exact ⟨rfl, by decide, Tryz.underlying2⟩) | 1, h => (cases h; exact ⟨rfl, by decide, Tryz.underlying2⟩) | 2, h => (cases h; exact ⟨rfl, by decide, Tryz.underlying2⟩) | 3, h => (cases h; exact ⟨rfl, by decide, Tryz.underlying2⟩) | (n + 4), h => simp at h))
def i193 : TInfo := ⟨(.int .u32), 1, 4, some [.int .u32 0], false⟩
theorem tyok193 : TOk1 Tryz.prog 193 i193 := tok1 Tryz.typeInfo193 rfl rfl (tz1 _ rfl rfl rfl rfl) Tryz.underlying193 (fun h => absurd h (by decide))
def i197 : TInfo := ⟨(.pointer 5), 1, 8, some [.nilp], false⟩
theorem tyok197 : TOk1 Tryz.prog 197 i197 := tok1 Tryz.typeInfo197 rfl rfl (tz1 _ rfl rfl rfl rfl) Tryz.underlying197 (fun h => absurd h (by decide))
def ti : TI := tiAdd 2 i2 (tiAdd 3 i3 (tiAdd 4 i4 (tiAdd 5 i5 (tiAdd 9 i9 (tiAdd 21 i21 (tiAdd 22 i22 (tiAdd 23 i23 (tiAdd 25 i25 (tiAdd 26 i26 (tiAdd 28 i28 (tiAdd 30 i30 (tiAdd 32 i32 (tiAdd 34 i34 (tiAdd 35 i35 (tiAdd 37 i37 (tiAdd 39 i39 (tiAdd 49 i49 (tiAdd 52 i52 (tiAdd 68 i68 (tiAdd 75 i75 (tiAdd 76 i76 (tiAdd 87 i87 (tiAdd 89 i89 (tiAdd 92 i92 (tiAdd 94 i94 (tiAdd 96 i96 (tiAdd 97 i97 (tiAdd 99 i99 (tiAdd 101 i101 (tiAdd 103 i103 (tiAdd 104 i104 (tiAdd 105 i105 (tiAdd 107 i107 (tiAdd 127 i127 (tiAdd 129 i129 (tiAdd 131 i131 (tiAdd 137 i137 (tiAdd 139 i139 (tiAdd 145 i145 (tiAdd 147 i147 (tiAdd 153 i153 (tiAdd 155 i155 (tiAdd 157 i157 (tiAdd 170 i170 (tiAdd 176 i176 (tiAdd 181 i181 (tiAdd 193 i193 (tiAdd 197 i197 (fun _ => none)))))))))))))))))))))))))))))))))))))))))))))))))
theorem tiOk : TOk Tryz.prog ti := tok_add tyok2 (tok_add tyok3 (tok_add tyok4 (tok_add tyok5 (tok_add tyok9 (tok_add tyok21 (tok_add tyok22 (tok_add tyok23 (tok_add tyok25 (tok_add tyok26 (tok_add tyok28 (tok_add tyok30 (tok_add tyok32 (tok_add tyok34 (tok_add tyok35 (tok_add tyok37 (tok_add tyok39 (tok_add tyok49 (tok_add tyok52 (tok_add tyok68 (tok_add tyok75 (tok_add tyok76 (tok_add tyok87 (tok_add tyok89 (tok_add tyok92 (tok_add tyok94 (tok_add tyok96 (tok_add tyok97 (tok_add tyok99 (tok_add tyok101 (tok_add tyok103 (tok_add tyok104 (tok_add tyok105 (tok_add tyok107 (tok_add tyok127 (tok_add tyok129 (tok_add tyok131 (tok_add tyok137 (tok_add tyok139 (tok_add tyok145 (tok_add tyok147 (tok_add tyok153 (tok_add tyok155 (tok_add tyok157 (tok_add tyok170 (tok_add tyok176 (tok_add tyok181 (tok_add tyok193 (tok_add tyok197 (tok_nil)))))))))))))))))))))))))))))))))))))))))))))))))
@[go_sem] theorem ti_2 : ti 2 = some ⟨(.int .i64), 1, 8, some [.int .i64 0], false⟩ := rfl
@[go_sem] theorem ti_3 : ti 3 = some ⟨(.int .i64), 1, 8, some [.int .i64 0], false⟩ := rfl
@[go_sem] theorem ti_4 : ti 4 = some ⟨.bool, 1, 1, some [.bool false], false⟩ := rfl
@[go_sem] theorem ti_5 : ti 5 = some ⟨(.int .u8), 1, 1, some [.int .u8 0], false⟩ := rfl
@[go_sem] theorem ti_9 : ti 9 = some ⟨.str, 1, 16, some [.str []], false⟩ := rfl
@[go_sem] theorem ti_21 : ti 21 = some ⟨(.int .i32), 1, 4, some [.int .i32 0], false⟩ := rfl
@[go_sem] theorem ti_22 : ti 22 = some ⟨(.slice 89), 1, 24, some [.nils], false⟩ := rfl
@[go_sem] theorem ti_23 : ti 23 = some ⟨(.slice 94), 1, 24, some [.nils], false⟩ := rfl
@[go_sem] theorem ti_25 : ti 25 = some ⟨(.struct [(0, 22), (1, 23), (2, 2)]), 3, 56, some [.nils, .nils, .int .i64 0], false⟩ := rfl
@[go_sem] theorem ti_26 : ti 26 = some ⟨(.slice 75), 1, 24, some [.nils], false⟩ := rfl
@[go_sem] theorem ti_28 : ti 28 = some ⟨(.struct [(0, 25), (3, 26)]), 4, 80, some [.nils, .nils, .int .i64 0, .nils], false⟩ := rfl
@[go_sem] theorem ti_30 : ti 30 = some ⟨(.slice 52), 1, 24, some [.nils], false⟩ := rfl
@[go_sem] theorem ti_32 : ti 32 = some ⟨(.struct [(0, 2), (1, 30)]), 2, 32, some [.int .i64 0, .nils], false⟩ := rfl
@[go_sem] theorem ti_34 : ti 34 = some ⟨(.slice 103), 1, 24, some [.nils], false⟩ := rfl
@[go_sem] theorem ti_35 : ti 35 = some ⟨(.slice 99), 1, 24, some [.nils], false⟩ := rfl
@[go_sem] theorem ti_37 : ti 37 = some ⟨(.struct [(0, 34), (1, 35), (2, 2)]), 3, 56, some [.nils, .nils, .int .i64 0], false⟩ := rfl
@[go_sem] theorem ti_39 : ti 39 = some ⟨(.struct [(0, 37), (3, 30)]), 4, 80, some [.nils, .nils, .int .i64 0, .nils], false⟩ := rfl
@[go_sem] theorem ti_49 : ti 49 = some ⟨(.pointer 39), 1, 8, some [.nilp], false⟩ := rfl
@[go_sem] theorem ti_52 : ti 52 = some ⟨(.struct [(0, 2), (1, 2), (2, 2)]), 3, 24, some [.int .i64 0, .int .i64 0, .int .i64 0], true⟩ := rfl
@[go_sem] theorem ti_68 : ti 68 = some ⟨(.pointer 37), 1, 8, some [.nilp], false⟩ := rfl
@[go_sem] theorem ti_75 : ti 75 = some ⟨(.struct [(0, 2), (1, 2), (2, 2)]), 3, 24, some [.int .i64 0, .int .i64 0, .int .i64 0], true⟩ := rfl
@[go_sem] theorem ti_76 : ti 76 = some ⟨(.slice 2), 1, 24, some [.nils], false⟩ := rfl
@[go_sem] theorem ti_87 : ti 87 = some ⟨(.slice 139), 1, 24, some [.nils], false⟩ := rfl
@[go_sem] theorem ti_89 : ti 89 = some ⟨(.struct [(0, 87)]), 1, 24, some [.nils], false⟩ := rfl
@[go_sem] theorem ti_92 : ti 92 = some ⟨(.struct [(0, 2), (1, 2), (2, 76), (3, 76), (4, 76)]), 5, 88, some [.int .i64 0, .int .i64 0, .nils, .nils, .nils], false⟩ := rfl
@[go_sem] theorem ti_94 : ti 94 = some ⟨(.struct [(0, 2), (1, 92)]), 6, 96, some [.int .i64 0, .int .i64 0, .int .i64 0, .nils, .nils, .nils], false⟩ := rfl
@[go_sem] theorem ti_96 : ti 96 = some ⟨(.pointer 99), 1, 8, some [.nilp], false⟩ := rfl
@[go_sem] theorem ti_97 : ti 97 = some ⟨(.struct [(0, 2), (1, 2), (2, 76), (3, 76), (4, 76)]), 5, 88, some [.int .i64 0, .int .i64 0, .nils, .nils, .nils], false⟩ := rfl
@[go_sem] theorem ti_99 : ti 99 = some ⟨(.struct [(0, 2), (1, 97)]), 6, 96, some [.int .i64 0, .int .i64 0, .int .i64 0, .nils, .nils, .nils], false⟩ := rfl
@[go_sem] theorem ti_101 : ti 101 = some ⟨(.slice 107), 1, 24, some [.nils], false⟩ := rfl
@[go_sem] theorem ti_103 : ti 103 = some ⟨(.struct [(0, 101)]), 1, 24, some [.nils], false⟩ := rfl
@[go_sem] theorem ti_104 : ti 104 = some ⟨(.pointer 97), 1, 8, some [.nilp], false⟩ := rfl
@[go_sem] theorem ti_105 : ti 105 = some ⟨(.slice 155), 1, 24, some [.nils], false⟩ := rfl
@[go_sem] theorem ti_107 : ti 107 = some ⟨(.struct [(0, 2), (1, 2), (2, 9), (3, 2), (4, 105), (5, 105)]), 6, 88, some [.int .i64 0, .int .i64 0, .str [], .int .i64 0, .nils, .nils], false⟩ := rfl
@[go_sem] theorem ti_127 : ti 127 = some ⟨(.pointer 129), 1, 8, some [.nilp], false⟩ := rfl
@[go_sem] theorem ti_129 : ti 129 = some ⟨(.struct [(0, 101), (1, 97)]), 6, 112, some [.nils, .int .i64 0, .int .i64 0, .nils, .nils, .nils], false⟩ := rfl
@[go_sem] theorem ti_131 : ti 131 = some ⟨(.slice 3), 1, 24, some [.nils], false⟩ := rfl
@[go_sem] theorem ti_137 : ti 137 = some ⟨(.slice 181), 1, 24, some [.nils], false⟩ := rfl
@[go_sem] theorem ti_139 : ti 139 = some ⟨(.struct [(0, 2), (1, 2), (2, 9), (3, 2), (4, 137), (5, 137)]), 6, 88, some [.int .i64 0, .int .i64 0, .str [], .int .i64 0, .nils, .nils], false⟩ := rfl
@[go_sem] theorem ti_145 : ti 145 = some ⟨(.pointer 147), 1, 8, some [.nilp], false⟩ := rfl
@[go_sem] theorem ti_147 : ti 147 = some ⟨(.struct [(0, 76), (1, 76)]), 2, 48, some [.nils, .nils], false⟩ := rfl
@[go_sem] theorem ti_153 : ti 153 = some ⟨(.slice 5), 1, 24, some [.nils], false⟩ := rfl
@[go_sem] theorem ti_155 : ti 155 = some ⟨(.struct [(0, 2), (1, 2), (2, 2), (3, 2)]), 4, 32, some [.int .i64 0, .int .i64 0, .int .i64 0, .int .i64 0], true⟩ := rfl
@[go_sem] theorem ti_157 : ti 157 = some ⟨(.pointer 107), 1, 8, some [.nilp], false⟩ := rfl
@[go_sem] theorem ti_170 : ti 170 = some ⟨(.struct [(0, 2), (1, 2)]), 2, 16, some [.int .i64 0, .int .i64 0], true⟩ := rfl
@[go_sem] theorem ti_176 : ti 176 = some ⟨(.pointer 155), 1, 8, some [.nilp], false⟩ := rfl
@[go_sem] theorem ti_181 : ti 181 = some ⟨(.struct [(0, 2), (1, 2), (2, 2), (3, 2)]), 4, 32, some [.int .i64 0, .int .i64 0, .int .i64 0, .int .i64 0], true⟩ := rfl
@[go_sem] theorem ti_193 : ti 193 = some ⟨(.int .u32), 1, 4, some [.int .u32 0], false⟩ := rfl
@[go_sem] theorem ti_197 : ti 197 = some ⟨(.pointer 5), 1, 8, some [.nilp], false⟩ := rfl

section
variable {st : St} {K : Exit → St → Prop} {id : Nat} {ops : Array Oper} {draw : Bool} {y : Code} {K' : Exit → St → Prop}
theorem rg (ks : List Nat) (h : ∀ k : St → Prop, (∀ s, AW Tryz.prog y s K → k s) → opsGo Tryz.prog ti (fun _ => []) ops 0 ops.toList st (fun es s => Chk draw ops es ∧ k (s.keep ks)) .mk) : AW Tryz.prog (.seq (.region id ops draw) y) st K := AW.reg tiOk _ ks h
theorem rgN (ks : List Nat) (hK : ∀ s, AW Tryz.prog y s K' → K .normal s) (h : ∀ k : St → Prop, (∀ s, AW Tryz.prog y s K' → k s) → opsGo Tryz.prog ti (fun _ => []) ops 0 ops.toList st (fun es s => Chk draw ops es ∧ k (s.keep ks)) .mk) : AW Tryz.prog (.region id ops draw) st K := AW.regN tiOk _ ks hK h
theorem rgN0 (ks : List Nat) (hK : ∀ s, AW Tryz.prog y s K' → K .normal s) (h : ∀ k : St → Prop, (∀ s, AW Tryz.prog y s K' → k s) → opsGo Tryz.prog ti (fun _ => []) ops 0 ops.toList st (fun es s => Chk draw ops es ∧ k (s.keep0 ks)) .mk) : AW Tryz.prog (.region id ops draw) st K := AW.regN0 tiOk _ ks hK h
theorem rgK (h : ∀ k : St → Prop, (∀ s, K .normal s → k s) → opsGo Tryz.prog ti (fun _ => []) ops 0 ops.toList st (fun es s => Chk draw ops es ∧ k s) .mk) : AW Tryz.prog (.region id ops draw) st K := AW.regK tiOk _ h
theorem rgA (ks : List Nat) {st' : St} (h : AW Tryz.prog y st' K) (h2 : ∀ k : St → Prop, k st' → opsGo Tryz.prog ti (fun _ => []) ops 0 ops.toList st (fun es s => Chk draw ops es ∧ k (s.keep ks)) .mk := by (intro k hk; simp -dsimp (maxSteps := 2000000) [go_sem, -decide_eq_true_eq, -decide_eq_false_iff_not]; repeat' first | apply And.intro | exact hk | intro hg | omega | exact True.intro)) : AW Tryz.prog (.seq (.region id ops draw) y) st K := AW.reg tiOk _ ks fun k hk => h2 k (hk _ h)
theorem rgNA (ks : List Nat) {st' : St} (hK : ∀ s, AW Tryz.prog y s K' → K .normal s) (h : AW Tryz.prog y st' K') (h2 : ∀ k : St → Prop, k st' → opsGo Tryz.prog ti (fun _ => []) ops 0 ops.toList st (fun es s => Chk draw ops es ∧ k (s.keep ks)) .mk := by (intro k hk; simp -dsimp (maxSteps := 2000000) [go_sem, -decide_eq_true_eq, -decide_eq_false_iff_not]; repeat' first | apply And.intro | exact hk | intro hg | omega | exact True.intro)) : AW Tryz.prog (.region id ops draw) st K := AW.regN tiOk _ ks hK fun k hk => h2 k (hk _ h)
theorem rgKA {st' : St} (h : K .normal st') (h2 : ∀ k : St → Prop, k st' → opsGo Tryz.prog ti (fun _ => []) ops 0 ops.toList st (fun es s => Chk draw ops es ∧ k s) .mk := by (intro k hk; simp -dsimp (maxSteps := 2000000) [go_sem, -decide_eq_true_eq, -decide_eq_false_iff_not]; repeat' first | apply And.intro | exact hk | intro hg | omega | exact True.intro)) : AW Tryz.prog (.region id ops draw) st K := AW.regK tiOk _ fun k hk => h2 k (hk _ h)
theorem rt {rs : List ResultVar} {ow : List Nat} {muts : List (Nat × AV)} {res : AV} (h : (muts.all fun q => match st.slot q.1 with | some x => !isFn x | none => true) = true ∧ finOk ti rs ow muts st res)
    (hk : (muts.all fun q => match st.slot q.1 with | some x => !isFn x | none => true) = true ∧ finOk ti rs ow muts st res → K .ret st := by exact fun h => And.intro (.inr rfl) h) : AW Tryz.prog .ret st K := AW.retF h hk
end
end Go.AM
namespace Go.AM
open Go.Proofs
open Go.ChangeShapes Go.WideShapes Go.RowKit

abbrev rd_2 := Rd.int (t := 2) (cellsOf_of tiOk ti_2) Tryz.underlying2
abbrev rd_9 := Rd.str (t := 9) (cellsOf_of tiOk ti_9) Tryz.underlying9
theorem rd_181 : Rd Tryz.prog 181 TNode TNode.ro (fun _ => True) 4 := by
  refine ⟨cellsOf_of tiOk ti_181, ?_⟩
  intro H enc w base spare held fuel cs x h
  obtain ⟨xs, n, rfl, rfl, hl, hn, hf⟩ := DataW.trod_struct Tryz.underlying181 h
  have hl : cs.length = 4 := by rw [hl]; exact cellsOf_of tiOk ti_181
  have e0 : DataW.trod enc Tryz.prog w base spare held n 2 ((cs.drop 0).take (Tryz.prog.cellsOf 2)) = xs[0]? := hf 0 _ rfl
  obtain ⟨y0, hy0⟩ : ∃ y, xs[0]? = some y := ⟨xs[0]'(by rw [hn]; decide), List.getElem?_eq_getElem _⟩
  rw [hy0, rd_2.size] at e0
  obtain ⟨a0, o0, r0, _⟩ := rd_2.read enc w base spare held n _ _ e0
  have e1 : DataW.trod enc Tryz.prog w base spare held n 2 ((cs.drop 1).take (Tryz.prog.cellsOf 2)) = xs[1]? := hf 1 _ rfl
  obtain ⟨y1, hy1⟩ : ∃ y, xs[1]? = some y := ⟨xs[1]'(by rw [hn]; decide), List.getElem?_eq_getElem _⟩
  rw [hy1, rd_2.size] at e1
  obtain ⟨a1, o1, r1, _⟩ := rd_2.read enc w base spare held n _ _ e1
  have e2 : DataW.trod enc Tryz.prog w base spare held n 2 ((cs.drop 2).take (Tryz.prog.cellsOf 2)) = xs[2]? := hf 2 _ rfl
  obtain ⟨y2, hy2⟩ : ∃ y, xs[2]? = some y := ⟨xs[2]'(by rw [hn]; decide), List.getElem?_eq_getElem _⟩
  rw [hy2, rd_2.size] at e2
  obtain ⟨a2, o2, r2, _⟩ := rd_2.read enc w base spare held n _ _ e2
  have e3 : DataW.trod enc Tryz.prog w base spare held n 2 ((cs.drop 3).take (Tryz.prog.cellsOf 2)) = xs[3]? := hf 3 _ rfl
  obtain ⟨y3, hy3⟩ : ∃ y, xs[3]? = some y := ⟨xs[3]'(by rw [hn]; decide), List.getElem?_eq_getElem _⟩
  rw [hy3, rd_2.size] at e3
  obtain ⟨a3, o3, r3, _⟩ := rd_2.read enc w base spare held n _ _ e3
  refine ⟨⟨a0, a1, a2, a3⟩, trivial, ?_, hl⟩
  exact RdC.cons (o := 0) (s := 1) r0 (RdC.cons (o := 1) (s := 1) r1 (RdC.cons (o := 2) (s := 1) r2 (RdC.cons (o := 3) (s := 1) r3 (RdC.nil (List.drop_eq_nil_of_le (show cs.length ≤ 4 by omega))))))
abbrev rd_137 := Rd.slice (t := 137) rd_181 (by decide) (cellsOf_of tiOk ti_137) Tryz.underlying137
theorem rd_139 : Rd Tryz.prog 139 TStep TStep.ro TStep.gok 6 := by
  refine ⟨cellsOf_of tiOk ti_139, ?_⟩
  intro H enc w base spare held fuel cs x h
  obtain ⟨xs, n, rfl, rfl, hl, hn, hf⟩ := DataW.trod_struct Tryz.underlying139 h
  have hl : cs.length = 6 := by rw [hl]; exact cellsOf_of tiOk ti_139
  have e0 : DataW.trod enc Tryz.prog w base spare held n 2 ((cs.drop 0).take (Tryz.prog.cellsOf 2)) = xs[0]? := hf 0 _ rfl
  obtain ⟨y0, hy0⟩ : ∃ y, xs[0]? = some y := ⟨xs[0]'(by rw [hn]; decide), List.getElem?_eq_getElem _⟩
  rw [hy0, rd_2.size] at e0
  obtain ⟨a0, o0, r0, _⟩ := rd_2.read enc w base spare held n _ _ e0
  have e1 : DataW.trod enc Tryz.prog w base spare held n 2 ((cs.drop 1).take (Tryz.prog.cellsOf 2)) = xs[1]? := hf 1 _ rfl
  obtain ⟨y1, hy1⟩ : ∃ y, xs[1]? = some y := ⟨xs[1]'(by rw [hn]; decide), List.getElem?_eq_getElem _⟩
  rw [hy1, rd_2.size] at e1
  obtain ⟨a1, o1, r1, _⟩ := rd_2.read enc w base spare held n _ _ e1
  have e2 : DataW.trod enc Tryz.prog w base spare held n 9 ((cs.drop 2).take (Tryz.prog.cellsOf 9)) = xs[2]? := hf 2 _ rfl
  obtain ⟨y2, hy2⟩ : ∃ y, xs[2]? = some y := ⟨xs[2]'(by rw [hn]; decide), List.getElem?_eq_getElem _⟩
  rw [hy2, rd_9.size] at e2
  obtain ⟨a2, o2, r2, _⟩ := rd_9.read enc w base spare held n _ _ e2
  have e3 : DataW.trod enc Tryz.prog w base spare held n 2 ((cs.drop 3).take (Tryz.prog.cellsOf 2)) = xs[3]? := hf 3 _ rfl
  obtain ⟨y3, hy3⟩ : ∃ y, xs[3]? = some y := ⟨xs[3]'(by rw [hn]; decide), List.getElem?_eq_getElem _⟩
  rw [hy3, rd_2.size] at e3
  obtain ⟨a3, o3, r3, _⟩ := rd_2.read enc w base spare held n _ _ e3
  have e4 : DataW.trod enc Tryz.prog w base spare held n 137 ((cs.drop 4).take (Tryz.prog.cellsOf 137)) = xs[4]? := hf 4 _ rfl
  obtain ⟨y4, hy4⟩ : ∃ y, xs[4]? = some y := ⟨xs[4]'(by rw [hn]; decide), List.getElem?_eq_getElem _⟩
  rw [hy4, rd_137.size] at e4
  obtain ⟨a4, o4, r4, _⟩ := rd_137.read enc w base spare held n _ _ e4
  have e5 : DataW.trod enc Tryz.prog w base spare held n 137 ((cs.drop 5).take (Tryz.prog.cellsOf 137)) = xs[5]? := hf 5 _ rfl
  obtain ⟨y5, hy5⟩ : ∃ y, xs[5]? = some y := ⟨xs[5]'(by rw [hn]; decide), List.getElem?_eq_getElem _⟩
  rw [hy5, rd_137.size] at e5
  obtain ⟨a5, o5, r5, _⟩ := rd_137.read enc w base spare held n _ _ e5
  refine ⟨⟨a0, a1, a2, a3, a4, a5⟩, ⟨o2, o4.1, o5.1⟩, ?_, hl⟩
  exact RdC.cons (o := 0) (s := 1) r0 (RdC.cons (o := 1) (s := 1) r1 (RdC.cons (o := 2) (s := 1) r2 (RdC.cons (o := 3) (s := 1) r3 (RdC.cons (o := 4) (s := 1) r4 (RdC.cons (o := 5) (s := 1) r5 (RdC.nil (List.drop_eq_nil_of_le (show cs.length ≤ 6 by omega))))))))
abbrev rd_87 := Rd.slice (t := 87) rd_139 (by decide) (cellsOf_of tiOk ti_87) Tryz.underlying87
theorem rd_89 : Rd Tryz.prog 89 TProc TProc.ro TProc.gok 1 := by
  refine ⟨cellsOf_of tiOk ti_89, ?_⟩
  intro H enc w base spare held fuel cs x h
  obtain ⟨xs, n, rfl, rfl, hl, hn, hf⟩ := DataW.trod_struct Tryz.underlying89 h
  have hl : cs.length = 1 := by rw [hl]; exact cellsOf_of tiOk ti_89
  have e0 : DataW.trod enc Tryz.prog w base spare held n 87 ((cs.drop 0).take (Tryz.prog.cellsOf 87)) = xs[0]? := hf 0 _ rfl
  obtain ⟨y0, hy0⟩ : ∃ y, xs[0]? = some y := ⟨xs[0]'(by rw [hn]; decide), List.getElem?_eq_getElem _⟩
  rw [hy0, rd_87.size] at e0
  obtain ⟨a0, o0, r0, _⟩ := rd_87.read enc w base spare held n _ _ e0
  refine ⟨⟨a0⟩, o0, ?_, hl⟩
  exact RdC.cons (o := 0) (s := 1) r0 (RdC.nil (List.drop_eq_nil_of_le (show cs.length ≤ 1 by omega)))
abbrev rd_22 := Rd.slice (t := 22) rd_89 (by decide) (cellsOf_of tiOk ti_22) Tryz.underlying22
abbrev rd_76 := Rd.slice (t := 76) rd_2 (by decide) (cellsOf_of tiOk ti_76) Tryz.underlying76
theorem rd_92 : Rd Tryz.prog 92 TChart TChart.ro TChart.gok 5 := by
  refine ⟨cellsOf_of tiOk ti_92, ?_⟩
  intro H enc w base spare held fuel cs x h
  obtain ⟨xs, n, rfl, rfl, hl, hn, hf⟩ := DataW.trod_struct Tryz.underlying92 h
  have hl : cs.length = 5 := by rw [hl]; exact cellsOf_of tiOk ti_92
  have e0 : DataW.trod enc Tryz.prog w base spare held n 2 ((cs.drop 0).take (Tryz.prog.cellsOf 2)) = xs[0]? := hf 0 _ rfl
  obtain ⟨y0, hy0⟩ : ∃ y, xs[0]? = some y := ⟨xs[0]'(by rw [hn]; decide), List.getElem?_eq_getElem _⟩
  rw [hy0, rd_2.size] at e0
  obtain ⟨a0, o0, r0, _⟩ := rd_2.read enc w base spare held n _ _ e0
  have e1 : DataW.trod enc Tryz.prog w base spare held n 2 ((cs.drop 1).take (Tryz.prog.cellsOf 2)) = xs[1]? := hf 1 _ rfl
  obtain ⟨y1, hy1⟩ : ∃ y, xs[1]? = some y := ⟨xs[1]'(by rw [hn]; decide), List.getElem?_eq_getElem _⟩
  rw [hy1, rd_2.size] at e1
  obtain ⟨a1, o1, r1, _⟩ := rd_2.read enc w base spare held n _ _ e1
  have e2 : DataW.trod enc Tryz.prog w base spare held n 76 ((cs.drop 2).take (Tryz.prog.cellsOf 76)) = xs[2]? := hf 2 _ rfl
  obtain ⟨y2, hy2⟩ : ∃ y, xs[2]? = some y := ⟨xs[2]'(by rw [hn]; decide), List.getElem?_eq_getElem _⟩
  rw [hy2, rd_76.size] at e2
  obtain ⟨a2, o2, r2, _⟩ := rd_76.read enc w base spare held n _ _ e2
  have e3 : DataW.trod enc Tryz.prog w base spare held n 76 ((cs.drop 3).take (Tryz.prog.cellsOf 76)) = xs[3]? := hf 3 _ rfl
  obtain ⟨y3, hy3⟩ : ∃ y, xs[3]? = some y := ⟨xs[3]'(by rw [hn]; decide), List.getElem?_eq_getElem _⟩
  rw [hy3, rd_76.size] at e3
  obtain ⟨a3, o3, r3, _⟩ := rd_76.read enc w base spare held n _ _ e3
  have e4 : DataW.trod enc Tryz.prog w base spare held n 76 ((cs.drop 4).take (Tryz.prog.cellsOf 76)) = xs[4]? := hf 4 _ rfl
  obtain ⟨y4, hy4⟩ : ∃ y, xs[4]? = some y := ⟨xs[4]'(by rw [hn]; decide), List.getElem?_eq_getElem _⟩
  rw [hy4, rd_76.size] at e4
  obtain ⟨a4, o4, r4, _⟩ := rd_76.read enc w base spare held n _ _ e4
  refine ⟨⟨a0, a1, a2, a3, a4⟩, ⟨o2.1, o3.1, o4.1⟩, ?_, hl⟩
  exact RdC.cons (o := 0) (s := 1) r0 (RdC.cons (o := 1) (s := 1) r1 (RdC.cons (o := 2) (s := 1) r2 (RdC.cons (o := 3) (s := 1) r3 (RdC.cons (o := 4) (s := 1) r4 (RdC.nil (List.drop_eq_nil_of_le (show cs.length ≤ 5 by omega)))))))
theorem rd_94 : Rd Tryz.prog 94 TInst TInst.ro TInst.gok 6 := by
  refine ⟨cellsOf_of tiOk ti_94, ?_⟩
  intro H enc w base spare held fuel cs x h
  obtain ⟨xs, n, rfl, rfl, hl, hn, hf⟩ := DataW.trod_struct Tryz.underlying94 h
  have hl : cs.length = 6 := by rw [hl]; exact cellsOf_of tiOk ti_94
  have e0 : DataW.trod enc Tryz.prog w base spare held n 2 ((cs.drop 0).take (Tryz.prog.cellsOf 2)) = xs[0]? := hf 0 _ rfl
  obtain ⟨y0, hy0⟩ : ∃ y, xs[0]? = some y := ⟨xs[0]'(by rw [hn]; decide), List.getElem?_eq_getElem _⟩
  rw [hy0, rd_2.size] at e0
  obtain ⟨a0, o0, r0, _⟩ := rd_2.read enc w base spare held n _ _ e0
  have e1 : DataW.trod enc Tryz.prog w base spare held n 92 ((cs.drop 1).take (Tryz.prog.cellsOf 92)) = xs[1]? := hf 1 _ rfl
  obtain ⟨y1, hy1⟩ : ∃ y, xs[1]? = some y := ⟨xs[1]'(by rw [hn]; decide), List.getElem?_eq_getElem _⟩
  rw [hy1, rd_92.size] at e1
  obtain ⟨a1, o1, r1, _⟩ := rd_92.read enc w base spare held n _ _ e1
  refine ⟨⟨a0, a1⟩, o1, ?_, hl⟩
  exact RdC.cons (o := 0) (s := 1) r0 (RdC.cons (o := 1) (s := 5) r1 (RdC.nil (List.drop_eq_nil_of_le (show cs.length ≤ 6 by omega))))
abbrev rd_23 := Rd.slice (t := 23) rd_94 (by decide) (cellsOf_of tiOk ti_23) Tryz.underlying23
theorem rd_25 : Rd Tryz.prog 25 TEngine TEngine.ro TEngine.gok 3 := by
  refine ⟨cellsOf_of tiOk ti_25, ?_⟩
  intro H enc w base spare held fuel cs x h
  obtain ⟨xs, n, rfl, rfl, hl, hn, hf⟩ := DataW.trod_struct Tryz.underlying25 h
  have hl : cs.length = 3 := by rw [hl]; exact cellsOf_of tiOk ti_25
  have e0 : DataW.trod enc Tryz.prog w base spare held n 22 ((cs.drop 0).take (Tryz.prog.cellsOf 22)) = xs[0]? := hf 0 _ rfl
  obtain ⟨y0, hy0⟩ : ∃ y, xs[0]? = some y := ⟨xs[0]'(by rw [hn]; decide), List.getElem?_eq_getElem _⟩
  rw [hy0, rd_22.size] at e0
  obtain ⟨a0, o0, r0, _⟩ := rd_22.read enc w base spare held n _ _ e0
  have e1 : DataW.trod enc Tryz.prog w base spare held n 23 ((cs.drop 1).take (Tryz.prog.cellsOf 23)) = xs[1]? := hf 1 _ rfl
  obtain ⟨y1, hy1⟩ : ∃ y, xs[1]? = some y := ⟨xs[1]'(by rw [hn]; decide), List.getElem?_eq_getElem _⟩
  rw [hy1, rd_23.size] at e1
  obtain ⟨a1, o1, r1, _⟩ := rd_23.read enc w base spare held n _ _ e1
  have e2 : DataW.trod enc Tryz.prog w base spare held n 2 ((cs.drop 2).take (Tryz.prog.cellsOf 2)) = xs[2]? := hf 2 _ rfl
  obtain ⟨y2, hy2⟩ : ∃ y, xs[2]? = some y := ⟨xs[2]'(by rw [hn]; decide), List.getElem?_eq_getElem _⟩
  rw [hy2, rd_2.size] at e2
  obtain ⟨a2, o2, r2, _⟩ := rd_2.read enc w base spare held n _ _ e2
  refine ⟨⟨a0, a1, a2⟩, ⟨o0, o1⟩, ?_, hl⟩
  exact RdC.cons (o := 0) (s := 1) r0 (RdC.cons (o := 1) (s := 1) r1 (RdC.cons (o := 2) (s := 1) r2 (RdC.nil (List.drop_eq_nil_of_le (show cs.length ≤ 3 by omega)))))
theorem rd_75 : Rd Tryz.prog 75 TClaim TClaim.ro (fun _ => True) 3 := by
  refine ⟨cellsOf_of tiOk ti_75, ?_⟩
  intro H enc w base spare held fuel cs x h
  obtain ⟨xs, n, rfl, rfl, hl, hn, hf⟩ := DataW.trod_struct Tryz.underlying75 h
  have hl : cs.length = 3 := by rw [hl]; exact cellsOf_of tiOk ti_75
  have e0 : DataW.trod enc Tryz.prog w base spare held n 2 ((cs.drop 0).take (Tryz.prog.cellsOf 2)) = xs[0]? := hf 0 _ rfl
  obtain ⟨y0, hy0⟩ : ∃ y, xs[0]? = some y := ⟨xs[0]'(by rw [hn]; decide), List.getElem?_eq_getElem _⟩
  rw [hy0, rd_2.size] at e0
  obtain ⟨a0, o0, r0, _⟩ := rd_2.read enc w base spare held n _ _ e0
  have e1 : DataW.trod enc Tryz.prog w base spare held n 2 ((cs.drop 1).take (Tryz.prog.cellsOf 2)) = xs[1]? := hf 1 _ rfl
  obtain ⟨y1, hy1⟩ : ∃ y, xs[1]? = some y := ⟨xs[1]'(by rw [hn]; decide), List.getElem?_eq_getElem _⟩
  rw [hy1, rd_2.size] at e1
  obtain ⟨a1, o1, r1, _⟩ := rd_2.read enc w base spare held n _ _ e1
  have e2 : DataW.trod enc Tryz.prog w base spare held n 2 ((cs.drop 2).take (Tryz.prog.cellsOf 2)) = xs[2]? := hf 2 _ rfl
  obtain ⟨y2, hy2⟩ : ∃ y, xs[2]? = some y := ⟨xs[2]'(by rw [hn]; decide), List.getElem?_eq_getElem _⟩
  rw [hy2, rd_2.size] at e2
  obtain ⟨a2, o2, r2, _⟩ := rd_2.read enc w base spare held n _ _ e2
  refine ⟨⟨a0, a1, a2⟩, trivial, ?_, hl⟩
  exact RdC.cons (o := 0) (s := 1) r0 (RdC.cons (o := 1) (s := 1) r1 (RdC.cons (o := 2) (s := 1) r2 (RdC.nil (List.drop_eq_nil_of_le (show cs.length ≤ 3 by omega)))))
abbrev rd_26 := Rd.slice (t := 26) rd_75 (by decide) (cellsOf_of tiOk ti_26) Tryz.underlying26
theorem rd_28 : Rd Tryz.prog 28 TDesk TDesk.ro TDesk.gok 4 := by
  refine ⟨cellsOf_of tiOk ti_28, ?_⟩
  intro H enc w base spare held fuel cs x h
  obtain ⟨xs, n, rfl, rfl, hl, hn, hf⟩ := DataW.trod_struct Tryz.underlying28 h
  have hl : cs.length = 4 := by rw [hl]; exact cellsOf_of tiOk ti_28
  have e0 : DataW.trod enc Tryz.prog w base spare held n 25 ((cs.drop 0).take (Tryz.prog.cellsOf 25)) = xs[0]? := hf 0 _ rfl
  obtain ⟨y0, hy0⟩ : ∃ y, xs[0]? = some y := ⟨xs[0]'(by rw [hn]; decide), List.getElem?_eq_getElem _⟩
  rw [hy0, rd_25.size] at e0
  obtain ⟨a0, o0, r0, _⟩ := rd_25.read enc w base spare held n _ _ e0
  have e1 : DataW.trod enc Tryz.prog w base spare held n 26 ((cs.drop 3).take (Tryz.prog.cellsOf 26)) = xs[1]? := hf 1 _ rfl
  obtain ⟨y1, hy1⟩ : ∃ y, xs[1]? = some y := ⟨xs[1]'(by rw [hn]; decide), List.getElem?_eq_getElem _⟩
  rw [hy1, rd_26.size] at e1
  obtain ⟨a1, o1, r1, _⟩ := rd_26.read enc w base spare held n _ _ e1
  refine ⟨⟨a0, a1⟩, ⟨o0, o1.1⟩, ?_, hl⟩
  exact RdC.cons (o := 0) (s := 3) r0 (RdC.cons (o := 3) (s := 1) r1 (RdC.nil (List.drop_eq_nil_of_le (show cs.length ≤ 4 by omega))))
end Go.AM
set_option maxHeartbeats 600000
set_option maxRecDepth 100000
namespace Go.AM
open Go.Proofs

/-- laws.szInt64S -/
theorem dc_laws_szInt64S (l : List Int) (z : Int) (hz : 0 ≤ z ∧ z ≤ 1048576) (hl : l.length ≤ 9223372036854775807) : DC Tryz.prog 86 [.isl 1 (l.map I1), .int .i64 z] (.int .i64 (subz z l.length)) [] := by
 have hw : IntKind.wrap .i64 (z - (l.length : Int)) = z - (l.length : Int) := wrap64 (by omega) (by omega)
 refine DC.intro tiOk Tryz.func86 rfl rfl rfl rfl rfl rfl rfl rfl [] ?_
 refine rg [0,1] ?_
 intro k hk; simp -dsimp [go_sem, -decide_eq_true_eq, -decide_eq_false_iff_not, hw]
 repeat' first | apply And.intro | refine hk _ ?_ | intro hg | omega | exact True.intro
 all_goals clear hk k
 refine rg [1] ?_
 intro k hk; simp -dsimp [go_sem, -decide_eq_true_eq, -decide_eq_false_iff_not, hw]
 repeat' first | apply And.intro | refine hk _ ?_ | intro hg | omega | exact True.intro
 all_goals clear hk k
 refine AW.seq ?_
 refine rg [1,10] ?_
 intro k hk; simp -dsimp [go_sem, -decide_eq_true_eq, -decide_eq_false_iff_not, hw]
 repeat' first | apply And.intro | refine hk _ ?_ | intro hg | omega | exact True.intro
 all_goals clear hk k
 refine AW.cond rfl ?_ ?_
 ·intro hc; try simp at hc
  all_goals (
   refine rg [4] ?_
   intro k hk; simp -dsimp [go_sem, -decide_eq_true_eq, -decide_eq_false_iff_not, hw]
   repeat' first | apply And.intro | refine hk _ ?_ | intro hg | omega | exact True.intro
   all_goals clear hk k
   refine rt ?_
   simp [go_sem, Tryz.results86]; unfold subz; split <;> omega)
 ·intro hc; try simp at hc
  all_goals (
   refine AW.skipN (fun _ h => h) ?_
   refine rg [4] ?_
   intro k hk; simp -dsimp [go_sem, -decide_eq_true_eq, -decide_eq_false_iff_not, hw]
   repeat' first | apply And.intro | refine hk _ ?_ | intro hg | omega | exact True.intro
   all_goals clear hk k
   refine rt ?_
   simp [go_sem, Tryz.results86]; unfold subz; split <;> omega)

/-- laws.toInt64S -/
theorem dc_laws_toInt64S (l : List Int) (hl : l.length ≤ 1048576) : DC Tryz.prog 92 [.isl 1 (l.map I1)] (.osl 1 (l.map I1)) [] := by
 have idz : ∀ i, (fill I1 [.int .i64 0] l i).flatMap idsL = [] := fun i => fill_ids (by intro x; simp [go_sem]) (by simp [go_sem])
 refine DC.intro tiOk Tryz.func92 rfl rfl rfl rfl rfl rfl rfl rfl [1000] ?_
 refine rgA [0] ?_
 refine rgA [0,3] ?_
 refine AW.seq ?_
 refine rgA [0,3,4] ?_
 refine AW.block ?_
 refine AW.loopI (fun i : Nat => ⟨22, [(0, .isl 1 (l.map I1)), (3, .sl 7 1 0 l.length), (4, .int .i64 i)], [(7, some ⟨1, fill I1 [.int .i64 0] l i⟩)]⟩) (fun i => i ≤ l.length) (fun i => l.length - i) (0) (by simp) (Less.of rfl (by simp [go_sem]) (by simp [go_sem, fill_zero])) ?_
 rintro i hi
 refine AW.seq ?_
 refine rgA [0,3,4,11] ?_
 refine AW.cond rfl ?_ ?_
 ·intro hc; try simp at hc
  all_goals (
   have hlt : i < l.length := by assumption
   obtain ⟨x, hx⟩ := at_some hlt
   have hf := fill_len (f := I1) (z := [.int .i64 0]) hi
   have hf2 := fill_at (f := I1) (z := [.int .i64 0]) hlt
   refine AW.skipN (fun _ h => h) ?_
   refine AW.seq ?_
   refine AW.block ?_
   refine rgN [0,3,4] (fun _ h => h) ?_
   intro k hk; simp -dsimp (maxSteps := 2000000) [go_sem, -decide_eq_true_eq, -decide_eq_false_iff_not, hx, hf, hf2, idz]
   repeat' first | apply And.intro | refine hk _ ?_ | intro hg | omega | exact True.intro
   all_goals clear hk k
   refine rgK ?_
   intro k hk; simp -dsimp [go_sem, -decide_eq_true_eq, -decide_eq_false_iff_not, hx, hf, hf2, idz]
   repeat' first | apply And.intro | refine hk _ ?_ | intro hg | omega | exact True.intro
   all_goals clear hk k
   show ∃ _, _
   have hw := wrapi hlt (by omega)
   have hs := fill_set (f := I1) (z := [.int .i64 0]) hx
   simp [go_sem] at hs
   refine ⟨i + 1, by omega, by omega, Less.of rfl (by simp [go_sem, hw]) (by simp [go_sem, List.set_set, ← hs])⟩)
 ·intro hc; try simp at hc
  all_goals (
   refine AW.exitN (fun _ h => h) ?_
   refine rgA [2] ?_
   refine rt ?_
   have he := fill_end (f := I1) (z := [.int .i64 0]) (show l.length ≤ i by omega); simp [go_sem, Tryz.results92, he])

/-- laws.eqInt64S -/
theorem dc_laws_eqInt64S (a b : List Int) (ha : a.length ≤ 9223372036854775807) : DC Tryz.prog 101 [.isl 1 (a.map I1), .isl 1 (b.map I1)] (.bool (decide (a = b))) [] := by
 refine DC.intro tiOk Tryz.func101 rfl rfl rfl rfl rfl rfl rfl rfl [] ?_
 refine rgA [0,1] ?_
 refine AW.seq ?_
 refine rgA [0,1,10] ?_
 refine AW.cond rfl ?_ ?_
 ·intro hc; try simp at hc
  all_goals (
   refine rgA [4] ?_
   refine rt ?_
   first | (rw [eq_ne_at hx hy (by first | assumption | (intro e; subst e; omega))]; simp [go_sem, Tryz.results101]; done) | (rw [eq_end (by omega) hinv (by omega)]; simp [go_sem, Tryz.results101]; done) | (rw [eq_ne_len (by omega)]; simp [go_sem, Tryz.results101]))
 ·intro hc; try simp at hc
  all_goals (
   refine AW.skipN (fun _ h => h) ?_
   refine AW.seq ?_
   refine rgA [0,1,5] ?_
   refine AW.block ?_
   refine AW.loopI (fun i : Nat => ⟨26, [(0, .isl 1 (a.map I1)), (1, .isl 1 (b.map I1)), (5, .int .i64 i)], []⟩) (fun i => i ≤ a.length ∧ a.take i = b.take i) (fun i => a.length - i) (0) (by simp) (Less.of rfl (by simp [go_sem]) (by simp [go_sem])) ?_
   rintro i ⟨hi, hinv⟩
   refine AW.seq ?_
   refine rgA [0,1,5,14] ?_
   refine AW.cond rfl ?_ ?_
   ·intro hc; try simp at hc
    all_goals (
     have hlt : i < a.length := by assumption
     obtain ⟨x, hx⟩ := at_some hlt
     obtain ⟨y, hy⟩ := at_some (l := b) (show i < b.length by omega)
     have hla := at_lt hy
     refine AW.skipN (fun _ h => h) ?_
     refine AW.seq ?_
     refine AW.block ?_
     refine rg [0,1,5,25] ?_
     intro k hk; simp -dsimp (maxSteps := 2000000) [go_sem, -decide_eq_true_eq, -decide_eq_false_iff_not, hx, hy]
     repeat' first | (refine Chk.keys ?_; simp only [go_sem, List.map_cons, List.map_nil, List.flatMap_cons, List.flatMap_nil, List.flatMap_append, List.append_nil, List.nil_append, List.cons_append]; decide +kernel) | apply And.intro | refine hk _ ?_ | intro hg | omega | exact True.intro
     all_goals clear hk k
     refine AW.cond rfl ?_ ?_
     ·intro hc; try simp at hc
      all_goals (
       refine rg [4] ?_
       intro k hk; simp -dsimp [go_sem, -decide_eq_true_eq, -decide_eq_false_iff_not, hx, hy]
       repeat' first | apply And.intro | refine hk _ ?_ | intro hg | omega | exact True.intro
       all_goals clear hk k
       refine rt ?_
       first | (rw [eq_ne_at hx hy (by first | assumption | (intro e; subst e; omega))]; simp [go_sem, Tryz.results101]; done) | (rw [eq_end (by omega) hinv (by omega)]; simp [go_sem, Tryz.results101]; done) | (rw [eq_ne_len (by omega)]; simp [go_sem, Tryz.results101]))
     ·intro hc; try simp at hc
      all_goals (
       refine AW.skipN (fun _ h => h) ?_
       refine rgK ?_
       intro k hk; simp -dsimp [go_sem, -decide_eq_true_eq, -decide_eq_false_iff_not, hx, hy]
       repeat' first | apply And.intro | refine hk _ ?_ | intro hg | omega | exact True.intro
       all_goals clear hk k
       show ∃ _, _
       have hw := wrapi hlt (by omega)
       refine ⟨i + 1, ⟨by omega, take_step hx hy (by first | assumption | (apply UInt8.toNat_inj.1; omega)) hinv⟩, by omega, Less.of rfl (by simp [go_sem, hw]) (by simp [go_sem])⟩))
   ·intro hc; try simp at hc
    all_goals (
     refine AW.exitN (fun _ h => h) ?_
     refine rgA [4] ?_
     refine rt ?_
     first | (rw [eq_ne_at hx hy (by first | assumption | (intro e; subst e; omega))]; simp [go_sem, Tryz.results101]; done) | (rw [eq_end (by omega) hinv (by omega)]; simp [go_sem, Tryz.results101]; done) | (rw [eq_ne_len (by omega)]; simp [go_sem, Tryz.results101])))

/-- laws.szChart -/
theorem dc_laws_szChart (x : TChart) (z : Int) (hz : 0 ≤ z ∧ z ≤ 1048576) (hg : x.gok) : DC Tryz.prog 70 [.agg x.ro, .int .i64 z] (.int .i64 (subz z x.sz)) [] := by
 have hg' := hg
 unfold TChart.gok at hg'
 obtain ⟨h2, h3, h4⟩ := hg'
 refine DC.intro tiOk Tryz.func70 rfl rfl rfl rfl rfl rfl rfl rfl [] ?_
 refine rgA [1,2] ?_
 refine rg [1,2] ?_
 intro k hk; simp -dsimp (maxSteps := 2000000) [go_sem, -decide_eq_true_eq, -decide_eq_false_iff_not]
 repeat' first | apply And.intro | refine hk _ ?_ | intro hg | (refine CallK.intro (dc_laws_szInt64S _ _ (by constructor <;> first | omega | grind [subz]) (by first | assumption | (constructor <;> assumption))) ?_; simp -dsimp (maxSteps := 2000000) [go_sem, -decide_eq_true_eq, -decide_eq_false_iff_not]) | omega | exact True.intro
 all_goals clear hk k
 refine AW.seq ?_
 refine rgA [1,2,10] ?_
 refine AW.cond rfl ?_ ?_
 ·intro hc; try simp [subz_neg, subz_nn] at hc
  all_goals (
   refine rgA [4] ?_
   refine rt ?_
   simp [go_sem, Tryz.results70]; simp only [subz, TChart.sz] at * <;> grind)
 ·intro hc; try simp [subz_neg, subz_nn] at hc
  all_goals (
   refine AW.skipN (fun _ h => h) ?_
   refine rg [1,2] ?_
   intro k hk; simp -dsimp (maxSteps := 2000000) [go_sem, -decide_eq_true_eq, -decide_eq_false_iff_not]
   repeat' first | apply And.intro | refine hk _ ?_ | intro hg | (refine CallK.intro (dc_laws_szInt64S _ _ (by constructor <;> first | omega | grind [subz]) (by first | assumption | (constructor <;> assumption))) ?_; simp -dsimp (maxSteps := 2000000) [go_sem, -decide_eq_true_eq, -decide_eq_false_iff_not]) | omega | exact True.intro
   all_goals clear hk k
   refine AW.seq ?_
   refine rgA [1,2,16] ?_
   refine AW.cond rfl ?_ ?_
   ·intro hc; try simp [subz_neg, subz_nn] at hc
    all_goals (
     refine rgA [4] ?_
     refine rt ?_
     simp [go_sem, Tryz.results70]; simp only [subz, TChart.sz] at * <;> grind)
   ·intro hc; try simp [subz_neg, subz_nn] at hc
    all_goals (
     refine AW.skipN (fun _ h => h) ?_
     refine rg [1] ?_
     intro k hk; simp -dsimp (maxSteps := 2000000) [go_sem, -decide_eq_true_eq, -decide_eq_false_iff_not]
     repeat' first | apply And.intro | refine hk _ ?_ | intro hg | (refine CallK.intro (dc_laws_szInt64S _ _ (by constructor <;> first | omega | grind [subz]) (by first | assumption | (constructor <;> assumption))) ?_; simp -dsimp (maxSteps := 2000000) [go_sem, -decide_eq_true_eq, -decide_eq_false_iff_not]) | omega | exact True.intro
     all_goals clear hk k
     refine AW.seq ?_
     refine rgA [1,22] ?_
     refine AW.cond rfl ?_ ?_
     ·intro hc; try simp [subz_neg, subz_nn] at hc
      all_goals (
       refine rgA [4] ?_
       refine rt ?_
       simp [go_sem, Tryz.results70]; simp only [subz, TChart.sz] at * <;> grind)
     ·intro hc; try simp [subz_neg, subz_nn] at hc
      all_goals (
       refine AW.skipN (fun _ h => h) ?_
       refine rgA [4] ?_
       refine rt ?_
       simp [go_sem, Tryz.results70]; simp only [subz, TChart.sz] at * <;> grind)))

/-- laws.toChart -/
theorem dc_laws_toChart (x : TChart) (hs : x.sz ≤ 1048576) : DC Tryz.prog 75 [.agg x.ro] (.agg [.int .i64 x.status, .int .i64 x.now, .osl 1 (x.vars.map I1), .osl 1 (x.acts.map I1), .osl 1 (x.dues.map I1)]) [] := by
 unfold TChart.sz at hs
 have h2 : x.vars.length ≤ 1048576 := by omega
 have h3 : x.acts.length ≤ 1048576 := by omega
 have h4 : x.dues.length ≤ 1048576 := by omega
 refine DC.intro tiOk Tryz.func75 rfl rfl rfl rfl rfl rfl rfl rfl [1000] ?_
 refine rgA [1,2] ?_
 refine rgA [1,2,3] ?_
 refine rgA [1,2,3] ?_
 refine rgA [1,2,3] ?_
 refine rg [1,2,3] ?_
 intro k hk; simp -dsimp (maxSteps := 2000000) [go_sem, -decide_eq_true_eq, -decide_eq_false_iff_not]
 repeat' first | apply And.intro | refine hk _ ?_ | intro hg | (refine CallK.intro (dc_laws_toInt64S _ (by assumption)) ?_; simp -dsimp (maxSteps := 2000000) [go_sem, -decide_eq_true_eq, -decide_eq_false_iff_not]) | omega | exact True.intro
 all_goals clear hk k
 refine rg [1,2,3] ?_
 intro k hk; simp -dsimp (maxSteps := 2000000) [go_sem, -decide_eq_true_eq, -decide_eq_false_iff_not]
 repeat' first | apply And.intro | refine hk _ ?_ | intro hg | (refine CallK.intro (dc_laws_toInt64S _ (by assumption)) ?_; simp -dsimp (maxSteps := 2000000) [go_sem, -decide_eq_true_eq, -decide_eq_false_iff_not]) | omega | exact True.intro
 all_goals clear hk k
 refine rg [2,3] ?_
 intro k hk; simp -dsimp (maxSteps := 2000000) [go_sem, -decide_eq_true_eq, -decide_eq_false_iff_not]
 repeat' first | apply And.intro | refine hk _ ?_ | intro hg | (refine CallK.intro (dc_laws_toInt64S _ (by assumption)) ?_; simp -dsimp (maxSteps := 2000000) [go_sem, -decide_eq_true_eq, -decide_eq_false_iff_not]) | omega | exact True.intro
 all_goals clear hk k
 refine rgA [2] ?_
 refine rt ?_
 simp [go_sem, Tryz.results75]

/-- laws.eqChart -/
theorem dc_laws_eqChart (a b : TChart) (hg : a.gok) : DC Tryz.prog 82 [.agg a.ro, .agg b.ro] (.bool (decide (a = b))) [] := by
 obtain ⟨h0, h1, h2⟩ := hg
 refine DC.intro tiOk Tryz.func82 rfl rfl rfl rfl rfl rfl rfl rfl [] ?_
 refine rgA [2,3] ?_
 refine AW.seq ?_
 refine rgA [2,3,9] ?_
 refine AW.cond rfl ?_ ?_
 ·intro hc; try simp at hc
  all_goals (
   refine rgA [4] ?_
   refine rt ?_
   cases a; cases b; simp [go_sem, Tryz.results82] at *; simp [*])
 ·intro hc; try simp at hc
  all_goals (
   refine AW.skipN (fun _ h => h) ?_
   refine AW.seq ?_
   refine rgA [2,3,14] ?_
   refine AW.cond rfl ?_ ?_
   ·intro hc; try simp at hc
    all_goals (
     refine rgA [4] ?_
     refine rt ?_
     cases a; cases b; simp [go_sem, Tryz.results82] at *; simp [*])
   ·intro hc; try simp at hc
    all_goals (
     refine AW.skipN (fun _ h => h) ?_
     refine AW.seq ?_
     refine rg [2,3,20] ?_
     intro k hk; simp -dsimp (maxSteps := 2000000) [go_sem, -decide_eq_true_eq, -decide_eq_false_iff_not]
     repeat' first | apply And.intro | refine hk _ ?_ | intro hg | (refine CallK.intro (dc_laws_eqInt64S _ _ (by assumption)) ?_; simp -dsimp (maxSteps := 2000000) [go_sem, -decide_eq_true_eq, -decide_eq_false_iff_not]) | omega | exact True.intro
     all_goals clear hk k
     refine AW.cond rfl ?_ ?_
     ·intro hc; try simp at hc
      all_goals (
       refine rgA [4] ?_
       refine rt ?_
       cases a; cases b; simp [go_sem, Tryz.results82] at *; simp [*])
     ·intro hc; try simp at hc
      all_goals (
       refine AW.skipN (fun _ h => h) ?_
       refine AW.seq ?_
       refine rg [2,3,26] ?_
       intro k hk; simp -dsimp (maxSteps := 2000000) [go_sem, -decide_eq_true_eq, -decide_eq_false_iff_not]
       repeat' first | apply And.intro | refine hk _ ?_ | intro hg | (refine CallK.intro (dc_laws_eqInt64S _ _ (by assumption)) ?_; simp -dsimp (maxSteps := 2000000) [go_sem, -decide_eq_true_eq, -decide_eq_false_iff_not]) | omega | exact True.intro
       all_goals clear hk k
       refine AW.cond rfl ?_ ?_
       ·intro hc; try simp at hc
        all_goals (
         refine rgA [4] ?_
         refine rt ?_
         cases a; cases b; simp [go_sem, Tryz.results82] at *; simp [*])
       ·intro hc; try simp at hc
        all_goals (
         refine AW.skipN (fun _ h => h) ?_
         refine AW.seq ?_
         refine rg [32] ?_
         intro k hk; simp -dsimp (maxSteps := 2000000) [go_sem, -decide_eq_true_eq, -decide_eq_false_iff_not]
         repeat' first | apply And.intro | refine hk _ ?_ | intro hg | (refine CallK.intro (dc_laws_eqInt64S _ _ (by assumption)) ?_; simp -dsimp (maxSteps := 2000000) [go_sem, -decide_eq_true_eq, -decide_eq_false_iff_not]) | omega | exact True.intro
         all_goals clear hk k
         refine AW.cond rfl ?_ ?_
         ·intro hc; try simp at hc
          all_goals (
           refine rgA [4] ?_
           refine rt ?_
           cases a; cases b; simp [go_sem, Tryz.results82] at *; simp [*])
         ·intro hc; try simp at hc
          all_goals (
           refine AW.skipN (fun _ h => h) ?_
           refine rgA [4] ?_
           refine rt ?_
           cases a; cases b; simp [go_sem, Tryz.results82] at *; simp [*])))))

end Go.AM
namespace Go.AM
open Go.Proofs

end Go.AM
namespace Go.AM

/-! chapter 1 -/
def inR (n lo hi : Int) : Bool := decide (lo ≤ n) && decide (n ≤ hi)
theorem inR_iff {n lo hi : Int} : inR n lo hi = true ↔ lo ≤ n ∧ n ≤ hi := by simp [inR]
theorem inR_not {n lo hi : Int} : inR n lo hi = false ↔ ¬ (lo ≤ n ∧ n ≤ hi) := by rw [← inR_iff]; simp
def isP (c : UInt8) : Bool := decide (32 ≤ (c.toNat : Int)) && decide ((c.toNat : Int) ≤ 126)
theorem all_take {α : Type} {s : List α} {p : α → Bool} {i : Nat} {x : α} (hx : s[i]? = some x) (h : (s.take i).all p = true) : (s.take (i + 1)).all p = p x := by
  rw [List.take_add_one, List.all_append, h, hx]; simp
theorem all_not {α : Type} {s : List α} {p : α → Bool} {i : Nat} {x : α} (hx : s[i]? = some x) (h : p x = false) : s.all p = false := by
  rw [List.all_eq_false]; exact ⟨x, List.mem_of_getElem? hx, by simp [h]⟩
theorem all_end {α : Type} {s : List α} {p : α → Bool} {i : Nat} (hi : s.length ≤ i) (h : (s.take i).all p = true) : s.all p = true := by rwa [List.take_of_length_le hi] at h

def firstC (l : List Int) : Int := (l.find? (fun n => decide (n ≠ 0))).getD 0
theorem firstC_step {l : List Int} {i : Nat} {x : Int} (h : l[i]? = some x) : firstC (l.drop i) = if x = 0 then firstC (l.drop (i + 1)) else x := by
  obtain ⟨hi, hx⟩ := List.getElem?_eq_some_iff.1 h
  rw [List.drop_eq_getElem_cons hi, hx]
  unfold firstC
  by_cases h0 : x = 0
  · simp [h0]
  · simp [h0]
theorem firstC_end {l : List Int} {i : Nat} (h : l.length ≤ i) : firstC (l.drop i) = 0 := by
  rw [List.drop_eq_nil_of_le h]; rfl
theorem firstC_nil : firstC [] = 0 := rfl
theorem firstC_cons (x : Int) (l : List Int) : firstC (x :: l) = if x = 0 then firstC l else x := by
  unfold firstC
  by_cases h0 : x = 0
  · simp [h0]
  · simp [h0]

def lineF (s : List UInt8) : Int := if s.length < 1 ∨ 40 < s.length then 2 else if s.all isP then 0 else 5
/-! slices of Go's library -/
/-- the first index of what is so, counted from i; -1: none -/
def idxF {α : Type} (p : α → Bool) : List α → Nat → Int
  | [], _ => -1
  | x :: r, i => if p x then i else idxF p r (i + 1)
theorem idxF_step {α : Type} {p : α → Bool} {l : List α} {i : Nat} {x : α} (h : l[i]? = some x) : idxF p (l.drop i) i = if p x then (i : Int) else idxF p (l.drop (i + 1)) (i + 1) := by
  obtain ⟨hi, hx⟩ := List.getElem?_eq_some_iff.1 h
  rw [List.drop_eq_getElem_cons hi, hx]; rfl
theorem idxF_end {α : Type} {p : α → Bool} {l : List α} {i : Nat} (h : l.length ≤ i) : idxF p (l.drop i) i = -1 := by rw [List.drop_eq_nil_of_le h]; rfl
theorem idxF_any {α : Type} {p : α → Bool} : ∀ (l : List α) (i : Nat), decide (0 ≤ idxF p l i) = l.any p := by
  intro l
  induction l with
  | nil => intro i; simp [idxF]
  | cons x l ih =>
    intro i
    simp only [idxF, List.any_cons]
    by_cases hp : p x = true
    · simp [hp]
    · simpa [hp] using ih (i + 1)

/-! chapter 3 -/
def small (n : Int) : Bool := inR n (-1000000) 1000000
def varsF (l : List Int) : Int := if l.length ≠ 4 then 2 else if l.all small then 0 else 3
theorem varsF_eq (l : List Int) : firstC [if (!decide ((l.length : Int) = 4)) = true then 2 else 0, if (l.any fun n => !small n) = true then 3 else 0] = varsF l := by
  simp only [firstC_cons, firstC_nil, varsF]
  have e : (l.any fun n => !small n) = !l.all small := by simp [List.all_eq_not_any_not]
  rw [e]
  by_cases h : l.length = 4
  · have h2 : (l.length : Int) = 4 := by omega
    by_cases hs : l.all small = true
    · simp [h, h2, hs]
    · simp [h, h2, hs]
  · have h2 : ¬ (l.length : Int) = 4 := by omega
    simp [h, h2]

/-! chapter 10 -/
end Go.AM
namespace Go.AM
open Go.Proofs

/-- impl.codeIf -/
theorem dc_impl_codeIf (b : Bool) (n : Int) : DC Tryz.prog 21 [.bool b, .int .i64 n] (.int .i64 (if b then n else 0)) [] := by
 refine DC.intro tiOk Tryz.func21 rfl rfl rfl rfl rfl rfl rfl rfl [] ?_
 refine rgA [0,1] ?_
 refine AW.seq ?_
 refine rgA [1,5] ?_
 refine AW.cond rfl ?_ ?_
 ·intro hc; try simp at hc
  all_goals (
   refine rgA [4] ?_
   refine rt ?_
   simp [go_sem, *, Tryz.results21])
 ·intro hc; try simp at hc
  all_goals (
   refine AW.skipN (fun _ h => h) ?_
   refine rgA [4] ?_
   refine rt ?_
   simp [go_sem, *, Tryz.results21])

/-- impl.inRange -/
theorem dc_impl_inRange (n lo hi : Int) : DC Tryz.prog 44 [.int .i64 n, .int .i64 lo, .int .i64 hi] (.bool (inR n lo hi)) [] := by
 refine DC.intro tiOk Tryz.func44 rfl rfl rfl rfl rfl rfl rfl rfl [] ?_
 refine rgA [0,1,2] ?_
 refine rg [6] ?_
 intro k hk; simp +contextual -dsimp (maxSteps := 2000000) [go_sem, -decide_eq_true_eq, -decide_eq_false_iff_not]
 repeat' first | apply And.intro | refine hk _ ?_ | (intro hg; try simp only [decide_eq_true_eq, decide_eq_false_iff_not] at hg) | omega | exact True.intro
 all_goals clear hk k
 all_goals (
  refine rt ?_
  simp [go_sem, *, inR, Tryz.results44, -decide_eq_true_eq, -decide_eq_false_iff_not])

/-- spec.l1In -/
theorem dc_spec_l1In (n lo hi : Int) : DC Tryz.prog 34 [.int .i64 n, .int .i64 lo, .int .i64 hi] (.bool (inR n lo hi)) [] := by
 refine DC.intro tiOk Tryz.func34 rfl rfl rfl rfl rfl rfl rfl rfl [] ?_
 refine rgA [0,1,2] ?_
 refine rg [6] ?_
 intro k hk; simp +contextual -dsimp (maxSteps := 2000000) [go_sem, -decide_eq_true_eq, -decide_eq_false_iff_not]
 repeat' first | apply And.intro | refine hk _ ?_ | (intro hg; try simp only [decide_eq_true_eq, decide_eq_false_iff_not] at hg) | omega | exact True.intro
 all_goals clear hk k
 all_goals (
  refine rt ?_
  simp [go_sem, *, inR, Tryz.results34, -decide_eq_true_eq, -decide_eq_false_iff_not])

/-- impl.areAll -/
theorem dc_impl_areAll (f : Nat) (p : UInt8 → Bool) (hf : ∀ c : UInt8, DC Tryz.prog f [.int .u8 c.toNat] (.bool (p c)) []) (s : List UInt8) (hs : s.length ≤ 9223372036854775807) : DC Tryz.prog 129 [.str s, .fn f []] (.bool (s.all p)) [] := by
 refine DC.intro tiOk Tryz.func129 rfl rfl rfl rfl rfl rfl rfl rfl [] ?_
 refine rgA [0,1] ?_
 refine AW.seq ?_
 refine rgA [0,1,7,8] ?_
 refine AW.block ?_
 refine AW.loopI (fun i : Nat => ⟨18, [(0, .str s), (1, .fn f []), (7, .int .i64 s.length), (8, .int .i64 i)], []⟩) (fun i => i ≤ s.length ∧ (s.take i).all p = true) (fun i => s.length - i) (0) (by simp) (Less.of rfl (by simp [go_sem]) (by simp [go_sem])) ?_
 rintro i ⟨hi, hall⟩
 refine rgA [0,1,7,8,9] ?_
 refine AW.seq ?_
 refine AW.cond rfl ?_ ?_
 ·intro hc; try simp at hc
  all_goals (
   have hlt : i < s.length := by assumption
   obtain ⟨x, hx⟩ := at_some hlt
   refine AW.skipN (fun _ h => h) ?_
   refine AW.seq ?_
   refine AW.block ?_
   refine rg [0,1,5,7,8] ?_
   intro k hk; simp -dsimp [go_sem, -decide_eq_true_eq, -decide_eq_false_iff_not, hx]
   repeat' first | apply And.intro | refine hk _ ?_ | intro hg | omega | exact True.intro
   all_goals clear hk k
   refine rg [0,1,7,8,16] ?_
   intro k hk; simp -dsimp (maxSteps := 2000000) [go_sem, -decide_eq_true_eq, -decide_eq_false_iff_not, hx]
   repeat' first | apply And.intro | refine hk _ ?_ | intro hg | (refine CallK.intro (hf x) ?_; simp -dsimp (maxSteps := 2000000) [go_sem, -decide_eq_true_eq, -decide_eq_false_iff_not, hx]) | omega | exact True.intro
   all_goals clear hk k
   refine AW.cond rfl ?_ ?_
   ·intro hc; try simp at hc
    all_goals (
     refine rg [4] ?_
     intro k hk; simp -dsimp [go_sem, -decide_eq_true_eq, -decide_eq_false_iff_not, hx]
     repeat' first | apply And.intro | refine hk _ ?_ | intro hg | omega | exact True.intro
     all_goals clear hk k
     refine rt ?_
     first | (have hr := all_not (p := p) hx (by assumption); simp [go_sem, Tryz.results129, hr]) | (have hr := all_end (show s.length ≤ i by omega) hall; simp [go_sem, Tryz.results129, hr]))
   ·intro hc; try simp at hc
    all_goals (
     refine AW.skipN (fun _ h => h) ?_
     refine rgK ?_
     intro k hk; simp -dsimp [go_sem, -decide_eq_true_eq, -decide_eq_false_iff_not, hx]
     repeat' first | apply And.intro | refine hk _ ?_ | intro hg | omega | exact True.intro
     all_goals clear hk k
     show ∃ _, _
     have hw := wrapi hlt hs
     refine ⟨i + 1, ⟨by omega, ?_⟩, by omega, Less.of rfl (by simp [go_sem, hw]) (by simp [go_sem])⟩
     rw [all_take hx hall]; assumption))
 ·intro hc; try simp at hc
  all_goals (
   refine AW.exitN (fun _ h => h) ?_
   refine rgA [4] ?_
   refine rt ?_
   first | (have hr := all_not (p := p) hx (by assumption); simp [go_sem, Tryz.results129, hr]) | (have hr := all_end (show s.length ≤ i by omega) hall; simp [go_sem, Tryz.results129, hr]))

/-- impl.firstCode -/
theorem dc_impl_firstCode (l : List Int) (hl : l.length ≤ 9223372036854775807) : DC Tryz.prog 19 [.isl 1 (l.map I1)] (.int .i64 (firstC l)) [] := by
 refine DC.intro tiOk Tryz.func19 rfl rfl rfl rfl rfl rfl rfl rfl [] ?_
 refine rgA [0] ?_
 refine AW.seq ?_
 refine rgA [5,6,7] ?_
 refine AW.block ?_
 refine AW.loopI (fun i : Nat => ⟨15, [(5, .isl 1 (l.map I1)), (6, .int .i64 l.length), (7, .int .i64 i)], []⟩) (fun i => i ≤ l.length ∧ firstC l = firstC (l.drop i)) (fun i => l.length - i) (0) (by simp) (Less.of rfl (by simp [go_sem]) (by simp [go_sem])) ?_
 rintro i ⟨hi, hinv⟩
 refine rgA [5,6,7,8] ?_
 refine AW.seq ?_
 refine AW.cond rfl ?_ ?_
 ·intro hc; try simp at hc
  all_goals (
   have hlt : i < l.length := by assumption
   obtain ⟨x, hx⟩ := at_some hlt
   refine AW.skipN (fun _ h => h) ?_
   refine AW.seq ?_
   refine AW.block ?_
   refine rg [4,5,6,7] ?_
   intro k hk; simp -dsimp [go_sem, -decide_eq_true_eq, -decide_eq_false_iff_not, hx]
   repeat' first | apply And.intro | refine hk _ ?_ | intro hg | omega | exact True.intro
   all_goals clear hk k
   refine rg [4,5,6,7,12] ?_
   intro k hk; simp -dsimp [go_sem, -decide_eq_true_eq, -decide_eq_false_iff_not, hx]
   repeat' first | apply And.intro | refine hk _ ?_ | intro hg | omega | exact True.intro
   all_goals clear hk k
   refine AW.cond rfl ?_ ?_
   ·intro hc; try simp at hc
    all_goals (
     refine rg [2] ?_
     intro k hk; simp -dsimp [go_sem, -decide_eq_true_eq, -decide_eq_false_iff_not, hx]
     repeat' first | apply And.intro | refine hk _ ?_ | intro hg | omega | exact True.intro
     all_goals clear hk k
     refine rt ?_
     first | (simp [go_sem, Tryz.results19, hinv, firstC_step hx, *]; done) | (simp [go_sem, Tryz.results19, hinv, firstC_end (show l.length ≤ i by omega)]))
   ·intro hc; try simp at hc
    all_goals (
     refine AW.skipN (fun _ h => h) ?_
     refine rgK ?_
     intro k hk; simp -dsimp [go_sem, -decide_eq_true_eq, -decide_eq_false_iff_not, hx]
     repeat' first | apply And.intro | refine hk _ ?_ | intro hg | omega | exact True.intro
     all_goals clear hk k
     show ∃ _, _
     have hw := wrapi hlt hl
     refine ⟨i + 1, ⟨by omega, ?_⟩, by omega, Less.of rfl (by simp [go_sem, hw]) (by simp [go_sem])⟩
     rw [hinv, firstC_step hx, if_pos (by assumption)]))
 ·intro hc; try simp at hc
  all_goals (
   refine AW.exitN (fun _ h => h) ?_
   refine rgA [2] ?_
   refine rt ?_
   first | (simp [go_sem, Tryz.results19, hinv, firstC_step hx, *]; done) | (simp [go_sem, Tryz.results19, hinv, firstC_end (show l.length ≤ i by omega)]))

/-- slices.IndexFunc[[]int64,int64] -/
theorem dc_slices_IndexFunc_int64_int64 (f : Nat) (caps : List AV) (p : Int → Bool) (l : List Int) (hf : ∀ x ∈ l, DC Tryz.prog f ([.int .i64 x] ++ caps) (.bool (p x)) []) (hl : l.length ≤ 9223372036854775807) (hcap : caps = []) : DC Tryz.prog 122 [.isl 1 (l.map I1), .fn f caps] (.int .i64 (idxF p l 0)) [] := by
 subst hcap
 refine DC.intro tiOk Tryz.func122 rfl rfl rfl rfl rfl rfl rfl rfl [] ?_
 refine rgA [0,1] ?_
 refine AW.seq ?_
 refine rgA [0,1,7,8] ?_
 refine AW.block ?_
 refine AW.loopI (fun i : Nat => ⟨19, [(0, .isl 1 (l.map I1)), (1, .fn f []), (7, .int .i64 l.length), (8, .int .i64 i)], []⟩) (fun i => i ≤ l.length ∧ idxF p l 0 = idxF p (l.drop i) i) (fun i => l.length - i) (0) (by simp) (Less.of rfl (by simp [go_sem]) (by simp [go_sem])) ?_
 rintro i ⟨hi, hinv⟩
 refine rgA [0,1,7,8,9] ?_
 refine AW.seq ?_
 refine AW.cond rfl ?_ ?_
 ·intro hc; try simp at hc
  all_goals (
   have hlt : i < l.length := by assumption
   obtain ⟨x, hx⟩ := at_some hlt
   refine AW.skipN (fun _ h => h) ?_
   refine AW.seq ?_
   refine AW.block ?_
   refine rg [0,1,5,7,8] ?_
   intro k hk; simp -dsimp [go_sem, -decide_eq_true_eq, -decide_eq_false_iff_not, hx]
   repeat' first | apply And.intro | refine hk _ ?_ | intro hg | omega | exact True.intro
   all_goals clear hk k
   refine rg [0,1,5,7,8,16] ?_
   intro k hk; simp -dsimp (maxSteps := 2000000) [go_sem, -decide_eq_true_eq, -decide_eq_false_iff_not, hx]
   repeat' first | apply And.intro | refine hk _ ?_ | intro hg | (refine CallK.intro (hf x (List.mem_of_getElem? hx)) ?_; simp -dsimp (maxSteps := 2000000) [go_sem, -decide_eq_true_eq, -decide_eq_false_iff_not, hx]) | omega | exact True.intro
   all_goals clear hk k
   refine AW.cond rfl ?_ ?_
   ·intro hc; try simp at hc
    all_goals (
     refine rg [4] ?_
     intro k hk; simp -dsimp [go_sem, -decide_eq_true_eq, -decide_eq_false_iff_not, hx]
     repeat' first | apply And.intro | refine hk _ ?_ | intro hg | omega | exact True.intro
     all_goals clear hk k
     refine rt ?_
     first | (rw [hinv, idxF_step hx, if_pos (by assumption)]; simp [go_sem, Tryz.results122]; done) | (rw [hinv, idxF_end (by omega)]; simp [go_sem, Tryz.results122]))
   ·intro hc; try simp at hc
    all_goals (
     refine AW.skipN (fun _ h => h) ?_
     refine rgK ?_
     intro k hk; simp -dsimp [go_sem, -decide_eq_true_eq, -decide_eq_false_iff_not, hx]
     repeat' first | apply And.intro | refine hk _ ?_ | intro hg | omega | exact True.intro
     all_goals clear hk k
     show ∃ _, _
     have hw := wrapi hlt hl
     refine ⟨i + 1, ⟨by omega, ?_⟩, by omega, Less.of rfl (by simp [go_sem, hw]) (by simp [go_sem])⟩
     rw [hinv, idxF_step hx, if_neg (by simp [*])]))
 ·intro hc; try simp at hc
  all_goals (
   refine AW.exitN (fun _ h => h) ?_
   refine rgA [4] ?_
   refine rt ?_
   first | (rw [hinv, idxF_step hx, if_pos (by assumption)]; simp [go_sem, Tryz.results122]; done) | (rw [hinv, idxF_end (by omega)]; simp [go_sem, Tryz.results122]))

/-- slices.ContainsFunc[[]int64,int64] -/
theorem dc_slices_ContainsFunc_int64_int64 (f : Nat) (p : Int → Bool) (l : List Int) (hf : ∀ x ∈ l, DC Tryz.prog f ([.int .i64 x] ++ []) (.bool (p x)) []) (hl : l.length ≤ 9223372036854775807) : DC Tryz.prog 96 [.isl 1 (l.map I1), .fn f []] (.bool (l.any p)) [] := by
 refine DC.intro tiOk Tryz.func96 rfl rfl rfl rfl rfl rfl rfl rfl [] ?_
 refine rgA [0,1] ?_
 refine rg [4] ?_
 intro k hk; simp -dsimp (maxSteps := 2000000) [go_sem, -decide_eq_true_eq, -decide_eq_false_iff_not]
 repeat' first | apply And.intro | refine hk _ ?_ | intro hg | (refine CallK.intro (dc_slices_IndexFunc_int64_int64 f [] p l hf hl rfl) ?_; simp -dsimp (maxSteps := 2000000) [go_sem, -decide_eq_true_eq, -decide_eq_false_iff_not]) | omega | exact True.intro
 all_goals clear hk k
 refine rt ?_
 rw [← idxF_any l 0]; simp [go_sem, Tryz.results96]

/-- impl.VarsFault$1 -/
theorem dc_impl_VarsFault_1 (n : Int) : DC Tryz.prog 97 [.int .i64 n] (.bool (!small n)) [] := by
 refine DC.intro tiOk Tryz.func97 rfl rfl rfl rfl rfl rfl rfl rfl [] ?_
 refine rgA [0] ?_
 refine rg [2] ?_
 intro k hk; simp -dsimp (maxSteps := 2000000) [go_sem, -decide_eq_true_eq, -decide_eq_false_iff_not]
 repeat' first | apply And.intro | refine hk _ ?_ | intro hg | (refine CallK.intro (dc_impl_inRange _ _ _) ?_; simp -dsimp (maxSteps := 2000000) [go_sem, -decide_eq_true_eq, -decide_eq_false_iff_not]) | omega | exact True.intro
 all_goals clear hk k
 refine rt ?_
 simp [go_sem, Tryz.results97, small]

/-- impl.VarsFault -/
theorem dc_impl_VarsFault (l : List Int) (hl : l.length ≤ 9223372036854775807) : DC Tryz.prog 77 [.isl 1 (l.map I1)] (.int .i64 (varsF l)) [] := by
 refine DC.intro tiOk Tryz.func77 rfl rfl rfl rfl rfl rfl rfl rfl [] ?_
 refine rgA [0] ?_
 refine rg [0,3] ?_
 intro k hk; simp -dsimp (maxSteps := 2000000) [go_sem, -decide_eq_true_eq, -decide_eq_false_iff_not]
 repeat' first | apply And.intro | refine hk _ ?_ | intro hg | (refine CallK.intro (dc_slices_ContainsFunc_int64_int64 97 (fun n => !small n) l (fun x _ => dc_impl_VarsFault_1 x) hl) ?_; simp -dsimp (maxSteps := 2000000) [go_sem, -decide_eq_true_eq, -decide_eq_false_iff_not]) | omega | exact True.intro
 all_goals clear hk k
 refine rg [2] ?_
 intro k hk; simp -dsimp (maxSteps := 2000000) [go_sem, -decide_eq_true_eq, -decide_eq_false_iff_not]
 repeat' first | apply And.intro | refine hk _ ?_ | intro hg | ((first | refine CallK.intro (dc_impl_codeIf _ _) ?_ | refine CallK.intro (dc_impl_firstCode [_, _] (by simp)) ?_ | refine CallK.intro (dc_impl_firstCode [_, _, _] (by simp)) ?_ | refine CallK.intro (dc_impl_firstCode [_, _, _, _] (by simp)) ?_); simp -dsimp (maxSteps := 2000000) [go_sem, -decide_eq_true_eq, -decide_eq_false_iff_not]) | omega | exact True.intro
 all_goals clear hk k
 refine rt ?_
 rw [← varsF_eq]; simp [go_sem, Tryz.results77]

/-- spec.VarsFault -/
theorem dc_spec_VarsFault (l : List Int) (hl : l.length ≤ 9223372036854775807) : DC Tryz.prog 72 [.isl 1 (l.map I1)] (.int .i64 (varsF l)) [] := by
 refine DC.intro tiOk Tryz.func72 rfl rfl rfl rfl rfl rfl rfl rfl [] ?_
 refine rgA [0] ?_
 refine AW.seq ?_
 refine rgA [0,6] ?_
 refine AW.cond rfl ?_ ?_
 ·intro hc; try simp at hc
  all_goals (
   refine rgA [2] ?_
   refine rt ?_
   first | (have hr := all_not (p := small) hx (by simpa [small] using hc); simp [go_sem, Tryz.results72, varsF, hr]; omega) | (have hr := all_end (show l.length ≤ i by omega) hall; simp [go_sem, Tryz.results72, varsF, hr]; omega) | (simp [go_sem, Tryz.results72, varsF]; omega))
 ·intro hc; try simp at hc
  all_goals (
   refine AW.skipN (fun _ h => h) ?_
   refine AW.seq ?_
   refine rgA [0,3] ?_
   refine AW.block ?_
   refine AW.loopI (fun i : Nat => ⟨19, [(0, .isl 1 (l.map I1)), (3, .int .i64 i)], []⟩) (fun i => i ≤ l.length ∧ (l.take i).all small = true) (fun i => l.length - i) (0) (by simp) (Less.of rfl (by simp [go_sem]) (by simp [go_sem])) ?_
   rintro i ⟨hi, hall⟩
   refine AW.seq ?_
   refine rgA [0,3,10] ?_
   refine AW.cond rfl ?_ ?_
   ·intro hc; try simp at hc
    all_goals (
     have hlt : i < l.length := by assumption
     obtain ⟨x, hx⟩ := at_some hlt
     refine AW.skipN (fun _ h => h) ?_
     refine AW.seq ?_
     refine AW.block ?_
     refine rg [0,3,18] ?_
     intro k hk; simp -dsimp (maxSteps := 2000000) [go_sem, -decide_eq_true_eq, -decide_eq_false_iff_not, hx]
     repeat' first | apply And.intro | refine hk _ ?_ | intro hg | (refine CallK.intro (dc_spec_l1In _ _ _) ?_; simp -dsimp (maxSteps := 2000000) [go_sem, -decide_eq_true_eq, -decide_eq_false_iff_not, hx]) | omega | exact True.intro
     all_goals clear hk k
     refine AW.cond rfl ?_ ?_
     ·intro hc; try simp at hc
      all_goals (
       refine rg [2] ?_
       intro k hk; simp -dsimp [go_sem, -decide_eq_true_eq, -decide_eq_false_iff_not, hx]
       repeat' first | apply And.intro | refine hk _ ?_ | intro hg | omega | exact True.intro
       all_goals clear hk k
       refine rt ?_
       first | (have hr := all_not (p := small) hx (by simpa [small] using hc); simp [go_sem, Tryz.results72, varsF, hr]; omega) | (have hr := all_end (show l.length ≤ i by omega) hall; simp [go_sem, Tryz.results72, varsF, hr]; omega) | (simp [go_sem, Tryz.results72, varsF]; omega))
     ·intro hc; try simp at hc
      all_goals (
       refine AW.skipN (fun _ h => h) ?_
       refine rgK ?_
       intro k hk; simp -dsimp [go_sem, -decide_eq_true_eq, -decide_eq_false_iff_not, hx]
       repeat' first | apply And.intro | refine hk _ ?_ | intro hg | omega | exact True.intro
       all_goals clear hk k
       show ∃ _, _
       have hw := wrapi hlt hl
       refine ⟨i + 1, ⟨by omega, ?_⟩, by omega, Less.of rfl (by simp [go_sem, hw]) (by simp [go_sem])⟩
       rw [all_take hx hall]; simpa [small] using hc))
   ·intro hc; try simp at hc
    all_goals (
     refine AW.exitN (fun _ h => h) ?_
     refine rgA [2] ?_
     refine rt ?_
     first | (have hr := all_not (p := small) hx (by simpa [small] using hc); simp [go_sem, Tryz.results72, varsF, hr]; omega) | (have hr := all_end (show l.length ≤ i by omega) hall; simp [go_sem, Tryz.results72, varsF, hr]; omega) | (simp [go_sem, Tryz.results72, varsF]; omega)))

end Go.AM
namespace Go.AM

/-! the first code that is not 0, of f i, f (i + 1) .. f (n - 1) -/
def scN (f : Nat → Int) : Nat → Nat → Int
  | 0, _ => 0
  | m + 1, i => if f i = 0 then scN f m (i + 1) else f i
def sc (f : Nat → Int) (n i : Nat) : Int := scN f (n - i) i
theorem sc_step {f : Nat → Int} {n i : Nat} (h : i < n) : sc f n i = if f i = 0 then sc f n (i + 1) else f i := by
  unfold sc
  rw [show n - i = (n - (i + 1)) + 1 by omega]; rfl
theorem sc_end {f : Nat → Int} {n i : Nat} (h : n ≤ i) : sc f n i = 0 := by
  unfold sc; rw [show n - i = 0 by omega]; rfl
theorem sc_go {f : Nat → Int} {n i : Nat} (h : i < n) (h0 : f i = 0) : sc f n i = sc f n (i + 1) := by rw [sc_step h, if_pos h0]
theorem sc_hit {f : Nat → Int} {n i : Nat} (h : i < n) (h0 : f i ≠ 0) : sc f n i = f i := by rw [sc_step h, if_neg h0]
theorem sc_zero {f : Nat → Int} {n : Nat} : ∀ {m i : Nat}, n - i = m → sc f n i = 0 → ∀ k, i ≤ k → k < n → f k = 0 := by
  intro m
  induction m with
  | zero => intro i hm _ k h1 h2; omega
  | succ m ih =>
    intro i hm h k h1 h2
    have hi : i < n := by omega
    rw [sc_step hi] at h
    split at h
    · rename_i h0
      rcases Nat.eq_or_lt_of_le h1 with rfl | h1
      · exact h0
      · exact ih (by omega) h k h1 h2
    · exact absurd h (by assumption)
theorem sc_all {f : Nat → Int} {n : Nat} (h : sc f n 0 = 0) : ∀ k, k < n → f k = 0 := fun k hk => sc_zero rfl h k (Nat.zero_le _) hk
/-! nodes -/
instance : Inhabited TNode := ⟨⟨0, 0, 0, 0⟩⟩
def nA (e : List TNode) (i : Nat) : TNode := e.getD i default
def isTwoB (k : Int) : Bool := inR k 3 9
/-- the code of a node at a place -/
def nodeF (n : TNode) (at_ : Int) : Int :=
  if n.kind < 1 ∨ 10 < n.kind then 1
  else if n.kind ≤ 2 then
    if n.left ≠ 0 ∨ n.right ≠ 0 then 1 else if n.val < 0 ∨ (if n.kind = 2 then 3 else 9999) < n.val then 3 else 0
  else if n.kind = 10 then
    if n.val ≠ 0 ∨ n.right ≠ 0 then 1 else if n.left < 0 ∨ at_ ≤ n.left then 3 else 0
  else if n.val ≠ 0 then 1 else if n.left < 0 ∨ at_ ≤ n.left ∨ n.right < 0 ∨ at_ ≤ n.right then 3 else 0
def nodeAt (e : List TNode) (i : Nat) : Int := nodeF (nA e i) i

/-- what is needed of the nodes: parts lie ahead -/
def PartsOk (e : List TNode) (n : Nat) : Prop := ∀ i, i < n → nodeAt e i = 0

theorem nodeF_parts {n : TNode} {i : Nat} (h : nodeF n i = 0) : (n.kind = 10 → 0 ≤ n.left ∧ n.left.toNat < i) ∧ (isTwoB n.kind = true → 0 ≤ n.left ∧ n.left.toNat < i ∧ 0 ≤ n.right ∧ n.right.toNat < i) ∧ 1 ≤ n.kind ∧ n.kind ≤ 10 ∧ (n.kind ≤ 2 ↔ (n.kind ≠ 10 ∧ isTwoB n.kind = false)) := by
  unfold nodeF at h
  split at h
  · cases h
  split at h
  · refine ⟨fun _ => by omega, fun h2 => ?_, by omega, by omega, ?_⟩
    · have := inR_iff.1 h2; omega
    · rw [isTwoB, inR_not]; omega
  split at h
  · split at h
    · cases h
    split at h
    · cases h
    · refine ⟨fun _ => by omega, fun h2 => ?_, by omega, by omega, ?_⟩
      · have := inR_iff.1 h2; omega
      · omega
  · split at h
    · cases h
    split at h
    · cases h
    · refine ⟨fun _ => by omega, fun _ => by omega, by omega, by omega, ?_⟩
      rw [isTwoB, inR_not]; omega

/-! sizes: as the program counts them -/
def sizeOf1 (e : List TNode) (s : List Int) (i : Nat) : Int :=
  let n := nA e i
  if n.kind = 10 then 1 + s.getD n.left.toNat 0 else if isTwoB n.kind then 1 + s.getD n.left.toNat 0 + s.getD n.right.toNat 0 else 1
def sizesL (e : List TNode) : Nat → List Int
  | 0 => []
  | i + 1 => sizesL e i ++ [sizeOf1 e (sizesL e i) i]
theorem sizesL_len (e : List TNode) (n : Nat) : (sizesL e n).length = n := by
  induction n with
  | zero => rfl
  | succ n ih => simp [sizesL, ih]
def szA (e : List TNode) (i : Nat) : Int := (sizesL e (i + 1)).getD i 0
theorem sizesL_get (e : List TNode) (i : Nat) : ∀ n, i < n → (sizesL e n).getD i 0 = szA e i := by
  intro n
  induction n with
  | zero => intro h; omega
  | succ n ih =>
    intro h
    rcases Nat.eq_or_lt_of_le (Nat.le_of_lt_succ h) with rfl | h'
    · rfl
    · have := ih h'
      rw [← this]
      simp [sizesL, List.getD, List.getElem?_append_left (show i < (sizesL e n).length by rw [sizesL_len]; exact h')]
theorem szA_eq (e : List TNode) (i : Nat) : szA e i = sizeOf1 e (sizesL e i) i := by
  unfold szA
  simp [sizesL, List.getD, sizesL_len]
/-- is a node out of order, as the program looks at it? -/
def wrong1 (e : List TNode) (i : Nat) : Bool :=
  let n := nA e i
  if n.kind = 10 then decide (n.left ≠ (i : Int) - 1)
  else if isTwoB n.kind then decide (n.right ≠ (i : Int) - 1) || decide (n.left ≠ (i : Int) - 1 - szA e n.right.toNat)
  else false
def wrongU (e : List TNode) (i : Nat) : Bool := (List.range i).any (wrong1 e)
theorem wrongU_step (e : List TNode) (i : Nat) : wrongU e (i + 1) = (wrongU e i || wrong1 e i) := by
  unfold wrongU; rw [List.range_succ, List.any_append]; simp

/-! the walk -/
/-- the order of a node and its parts -/
def post (e : List TNode) : Nat → Nat → List Nat
  | 0, _ => []
  | f + 1, i =>
    let n := nA e i
    if n.kind = 10 then post e f n.left.toNat ++ [i]
    else if isTwoB n.kind then post e f n.left.toNat ++ post e f n.right.toNat ++ [i]
    else [i]
def po (e : List TNode) (i : Nat) : List Nat := post e (i + 1) i
theorem post_more {e : List TNode} {n : Nat} (hp : PartsOk e n) : ∀ (f g i : Nat), i < n → i < f → i < g → post e f i = post e g i := by
  intro f
  induction f with
  | zero => intro g i _ h _; omega
  | succ f ih =>
    intro g i hn hf hg
    cases g with
    | zero => omega
    | succ g =>
      have hq := nodeF_parts (hp i hn)
      simp only [post]
      split
      · rename_i h10
        have := hq.1 h10
        rw [ih g _ (by omega) (by omega) (by omega)]
      · split
        · rename_i h2
          have := hq.2.1 h2
          rw [ih g _ (by omega) (by omega) (by omega), ih g _ (by omega) (by omega) (by omega)]
        · rfl
theorem po_eq {e : List TNode} {n i : Nat} (hp : PartsOk e n) (hi : i < n) : po e i = if (nA e i).kind = 10 then po e (nA e i).left.toNat ++ [i] else if isTwoB (nA e i).kind then po e (nA e i).left.toNat ++ po e (nA e i).right.toNat ++ [i] else [i] := by
  have hq := nodeF_parts (hp i hi)
  show post e (i + 1) i = _
  simp only [post]
  split
  · rename_i h10
    have := hq.1 h10
    rw [post_more hp i _ _ (by omega) (by omega) (Nat.lt_succ_self _)]; rfl
  · split
    · rename_i h2
      have := hq.2.1 h2
      rw [post_more hp i _ (nA e i).left.toNat (by omega) (by omega) (Nat.lt_succ_self _), post_more hp i _ (nA e i).right.toNat (by omega) (by omega) (Nat.lt_succ_self _)]; rfl
    · rfl

theorem po_len {e : List TNode} {n : Nat} (hp : PartsOk e n) : ∀ (k i : Nat), i ≤ k → i < n → ((po e i).length : Int) = szA e i ∧ 1 ≤ szA e i ∧ szA e i ≤ 2 ^ (i + 1) - 1 := by
  intro k
  induction k with
  | zero =>
    intro i hk hi
    have hq := nodeF_parts (hp i hi)
    obtain rfl : i = 0 := by omega
    rw [po_eq hp hi, szA_eq]
    unfold sizeOf1
    split
    · rename_i h10
      have := hq.1 h10; omega
    · split
      · rename_i h2
        have := hq.2.1 h2; omega
      · rename_i h1 h2; simp only [h1, h2, if_false, Bool.false_eq_true]; simp
  | succ k ih =>
    intro i hk hi
    have hq := nodeF_parts (hp i hi)
    rw [po_eq hp hi, szA_eq]
    unfold sizeOf1
    have pw : (2 : Int) ^ (i + 1) = 2 * 2 ^ i := by rw [Int.pow_succ]; omega
    have mono : ∀ j, j < i → (2 : Int) ^ (j + 1) ≤ 2 ^ i := fun j hj => by
      have := Nat.pow_le_pow_right (n := 2) (by decide) (show j + 1 ≤ i by omega)
      exact_mod_cast this
    have p1 : (1 : Int) ≤ 2 ^ i := by
      have := Nat.pow_le_pow_right (n := 2) (by decide) (Nat.zero_le i)
      exact_mod_cast this
    split
    · rename_i h10
      have hl := hq.1 h10
      have h1 := ih _ (show (nA e i).left.toNat ≤ k by omega) (by omega)
      have hm := mono _ hl.2
      simp only [h10, if_true]
      rw [sizesL_get e _ i hl.2]
      simp only [List.length_append, List.length_cons, List.length_nil]
      omega
    · split
      · rename_i h10 h2
        have hl := hq.2.1 h2
        have h1 := ih _ (show (nA e i).left.toNat ≤ k by omega) (by omega)
        have h3 := ih _ (show (nA e i).right.toNat ≤ k by omega) (by omega)
        have hm := mono _ hl.2.1
        have hm2 := mono _ hl.2.2.2
        simp only [h10, h2, if_true, if_false]
        rw [sizesL_get e _ i hl.2.1, sizesL_get e _ i hl.2.2.2]
        simp only [List.length_append, List.length_cons, List.length_nil]
        omega
      · rename_i h10 h2
        simp only [h10, h2, if_false, Bool.false_eq_true]
        simp; omega
theorem sz_bd {e : List TNode} {n i : Nat} (hp : PartsOk e n) (hi : i < n) (h16 : i ≤ 16) : 1 ≤ szA e i ∧ szA e i ≤ 131071 := by
  have h := (po_len hp i i (Nat.le_refl _) hi).2
  have : (2 : Int) ^ (i + 1) ≤ 2 ^ 17 := by
    have := Nat.pow_le_pow_right (n := 2) (by decide) (show i + 1 ≤ 17 by omega)
    exact_mod_cast this
  have e : (2 : Int) ^ 17 = 131072 := by decide
  omega

/-- a stretch of places -/
def stretch (a m : Nat) : List Nat := List.range' a m
theorem po_good {e : List TNode} {n : Nat} (hp : PartsOk e n) : ∀ (k i : Nat), i ≤ k → i < n → wrongU e (i + 1) = false → szA e i ≤ i + 1 ∧ po e i = stretch (i + 1 - (szA e i).toNat) (szA e i).toNat := by
  intro k
  induction k with
  | zero =>
    intro i hk hi hw
    have hq := nodeF_parts (hp i hi)
    obtain rfl : i = 0 := by omega
    have hs := po_len hp 0 0 (Nat.le_refl _) hi
    have hs1 : szA e 0 = 1 := by omega
    rw [hs1]
    refine ⟨by omega, ?_⟩
    rw [po_eq hp hi]
    split
    · rename_i h10
      have := hq.1 h10; omega
    · split
      · rename_i h2
        have := hq.2.1 h2; omega
      · rfl
  | succ k ih =>
    intro i hk hi hw
    have hq := nodeF_parts (hp i hi)
    rw [wrongU_step] at hw
    have hw1 : wrongU e i = false := by revert hw; cases wrongU e i <;> simp
    have hw2 : wrong1 e i = false := by revert hw; cases wrong1 e i <;> simp
    have sub : ∀ j, j < i → wrongU e (j + 1) = false := by
      intro j hj
      rw [Bool.eq_false_iff] at hw1 ⊢
      intro h; apply hw1
      unfold wrongU at h ⊢
      simp only [List.any_eq_true, List.mem_range] at h ⊢
      obtain ⟨x, h1, h2⟩ := h
      exact ⟨x, by omega, h2⟩
    have hl0 := po_len hp i i (Nat.le_refl _) hi
    have hszl : (po e i).length = (szA e i).toNat := by omega
    have he := szA_eq e i
    unfold sizeOf1 at he
    unfold wrong1 at hw2
    rw [po_eq hp hi]
    by_cases h10 : (nA e i).kind = 10
    · simp only [h10, if_true] at he hw2 ⊢
      have hl := hq.1 h10
      rw [sizesL_get e _ i hl.2] at he
      simp only [ne_eq, decide_not, Bool.not_eq_false', decide_eq_true_eq] at hw2
      have h1 := ih _ (show (nA e i).left.toNat ≤ k by omega) (by omega) (sub _ hl.2)
      have hb := (po_len hp _ _ (Nat.le_refl _) (show (nA e i).left.toNat < n by omega)).2.1
      refine ⟨by omega, ?_⟩
      rw [h1.2]
      unfold stretch
      have : (szA e i).toNat = (szA e (nA e i).left.toNat).toNat + 1 := by omega
      rw [this, List.range'_concat]
      rw [show i + 1 - ((szA e (nA e i).left.toNat).toNat + 1) = (nA e i).left.toNat + 1 - (szA e (nA e i).left.toNat).toNat by omega]
      congr 2; omega
    · by_cases h2 : isTwoB (nA e i).kind = true
      · simp only [h10, h2, if_true, if_false] at he hw2 ⊢
        have hl := hq.2.1 h2
        rw [sizesL_get e _ i hl.2.1, sizesL_get e _ i hl.2.2.2] at he
        simp only [Bool.or_eq_false_iff, ne_eq, decide_not, Bool.not_eq_false', decide_eq_true_eq] at hw2
        have h1 := ih _ (show (nA e i).left.toNat ≤ k by omega) (by omega) (sub _ hl.2.1)
        have h3 := ih _ (show (nA e i).right.toNat ≤ k by omega) (by omega) (sub _ hl.2.2.2)
        have hb := (po_len hp _ _ (Nat.le_refl _) (show (nA e i).left.toNat < n by omega)).2.1
        have hb2 := (po_len hp _ _ (Nat.le_refl _) (show (nA e i).right.toNat < n by omega)).2.1
        refine ⟨by omega, ?_⟩
        rw [h1.2, h3.2]
        unfold stretch
        generalize hA : (szA e (nA e i).left.toNat).toNat = A at *
        generalize hB : (szA e (nA e i).right.toNat).toNat = B at *
        have hC : (szA e i).toNat = A + B + 1 := by omega
        rw [hC, List.range'_concat, show A + B = B + A by omega]
        rw [show i + 1 - (B + A + 1) = (nA e i).left.toNat + 1 - A by omega]
        rw [show B + A = A + B by omega, ← List.range'_append_1]
        rw [show (nA e i).left.toNat + 1 - A + A = (nA e i).right.toNat + 1 - B by omega]
        congr 2; omega
      · simp only [h10, h2, if_false, Bool.false_eq_true] at he ⊢
        refine ⟨by omega, ?_⟩
        rw [he]
        simp [stretch]

/-- a part's order stands whole in the order -/
theorem po_infix {e : List TNode} {n : Nat} (hp : PartsOk e n) : ∀ (k r i : Nat), r ≤ k → r < n → i ∈ po e r → ∃ a b, po e r = a ++ po e i ++ b ∧ i ≤ r := by
  intro k
  induction k with
  | zero =>
    intro r i hk hr hi
    obtain rfl : r = 0 := by omega
    have hq := nodeF_parts (hp 0 hr)
    rw [po_eq hp hr] at hi
    split at hi
    · rename_i h10
      have := hq.1 h10; omega
    · split at hi
      · rename_i h2
        have := hq.2.1 h2; omega
      · simp at hi; subst hi; exact ⟨[], [], by simp, Nat.le_refl _⟩
  | succ k ih =>
    intro r i hk hr hi
    have hq := nodeF_parts (hp r hr)
    by_cases hir : i = r
    · subst hir; exact ⟨[], [], by simp, Nat.le_refl _⟩
    have e0 := po_eq hp hr
    rw [e0] at hi ⊢
    split at hi
    · rename_i h10
      have hl := hq.1 h10
      simp only [h10, if_true]
      simp only [List.mem_append, List.mem_singleton, hir, or_false] at hi
      obtain ⟨a, b, h1, h2⟩ := ih _ i (by omega) (by omega) hi
      exact ⟨a, b ++ [r], by rw [h1]; simp, by omega⟩
    · split at hi
      · rename_i h10 h2
        have hl := hq.2.1 h2
        simp only [h10, h2, if_true, if_false]
        simp only [List.mem_append, List.mem_singleton, hir, or_false] at hi
        rcases hi with hi | hi
        · obtain ⟨a, b, h1, h2⟩ := ih _ i (by omega) (by omega) hi
          exact ⟨a, b ++ po e (nA e r).right.toNat ++ [r], by rw [h1]; simp, by omega⟩
        · obtain ⟨a, b, h1, h2⟩ := ih _ i (by omega) (by omega) hi
          exact ⟨po e (nA e r).left.toNat ++ a, b ++ [r], by rw [h1]; simp, by omega⟩
      · simp at hi; exact absurd hi hir
theorem po_last {e : List TNode} {n i : Nat} (hp : PartsOk e n) (hi : i < n) : ∃ a, po e i = a ++ [i] := by
  rw [po_eq hp hi]
  split
  · exact ⟨_, rfl⟩
  · split
    · exact ⟨_, rfl⟩
    · exact ⟨[], rfl⟩
theorem range_at {n : Nat} {a b : List Nat} {i : Nat} (h : List.range n = a ++ i :: b) : a.length = i := by
  have := congrArg (fun l => l[a.length]?) h
  simp only [List.getElem?_append_right (Nat.le_refl _), Nat.sub_self, List.getElem?_cons_zero] at this
  obtain ⟨h1, h2⟩ := List.getElem?_eq_some_iff.1 this
  simpa using h2
theorem po_bad {e : List TNode} {n : Nat} (hp : PartsOk e n) (hn : 0 < n) (h : po e (n - 1) = List.range n) : wrongU e n = false ∧ szA e (n - 1) = n := by
  have hl := po_len hp (n - 1) (n - 1) (Nat.le_refl _) (by omega)
  rw [h, List.length_range] at hl
  refine ⟨?_, by omega⟩
  unfold wrongU
  rw [Bool.eq_false_iff]
  intro hw
  simp only [List.any_eq_true, List.mem_range] at hw
  obtain ⟨i, hi, hw⟩ := hw
  have hq := nodeF_parts (hp i hi)
  obtain ⟨a, b, h1, _⟩ := po_infix hp (n - 1) (n - 1) i (Nat.le_refl _) (by omega) (by rw [h]; exact List.mem_range.2 hi)
  rw [h] at h1
  unfold wrong1 at hw
  have e0 := po_eq hp hi
  by_cases h10 : (nA e i).kind = 10
  · simp only [h10, if_true] at hw e0
    have hl := hq.1 h10
    obtain ⟨c, hc⟩ := po_last hp (show (nA e i).left.toNat < n by omega)
    rw [e0, hc] at h1
    have p1 := range_at (i := i) (a := a ++ (c ++ [(nA e i).left.toNat])) (b := b) (by rw [h1]; simp)
    have p2 := range_at (i := (nA e i).left.toNat) (a := a ++ c) (b := i :: b) (by rw [h1]; simp)
    simp at p1 p2 hw
    omega
  · by_cases h2 : isTwoB (nA e i).kind = true
    · simp only [h10, h2, if_true, if_false] at hw e0
      have hl := hq.2.1 h2
      obtain ⟨c, hc⟩ := po_last hp (show (nA e i).left.toNat < n by omega)
      obtain ⟨d, hd⟩ := po_last hp (show (nA e i).right.toNat < n by omega)
      have hlen := (po_len hp _ _ (Nat.le_refl _) (show (nA e i).right.toNat < n by omega)).1
      rw [hd] at hlen
      rw [e0, hc, hd] at h1
      have p1 := range_at (i := i) (a := a ++ (c ++ [(nA e i).left.toNat]) ++ (d ++ [(nA e i).right.toNat])) (b := b) (by rw [h1]; simp)
      have p2 := range_at (i := (nA e i).left.toNat) (a := a ++ c) (b := (d ++ [(nA e i).right.toNat]) ++ i :: b) (by rw [h1]; simp)
      have p3 := range_at (i := (nA e i).right.toNat) (a := a ++ (c ++ [(nA e i).left.toNat]) ++ d) (b := i :: b) (by rw [h1]; simp)
      simp at p1 p2 p3 hw hlen
      omega
    · simp only [h10, h2, if_false, Bool.false_eq_true] at hw
/-- both tell the same -/
theorem po_iff {e : List TNode} {n : Nat} (hp : PartsOk e n) (hn : 0 < n) : po e (n - 1) = List.range n ↔ (wrongU e n = false ∧ szA e (n - 1) = n) := by
  constructor
  · exact po_bad hp hn
  · rintro ⟨h1, h2⟩
    have h := (po_good hp (n - 1) (n - 1) (Nat.le_refl _) (by omega) (by rwa [show n - 1 + 1 = n by omega])).2
    rw [h, h2]
    unfold stretch
    rw [List.range_eq_range', show n - 1 + 1 - (n : Int).toNat = 0 by omega]
    simp

/-- the walk that stops behind 16 -/
def walkC (e : List TNode) : Nat → Nat → List Nat → List Nat
  | 0, _, out => out
  | f + 1, i, out =>
    if 16 < out.length then out
    else
      let n := nA e i
      let o1 := if 2 < n.kind then walkC e f n.left.toNat out else out
      let o2 := if isTwoB n.kind then walkC e f n.right.toNat o1 else o1
      o2 ++ [i]
theorem walkC_mono {e : List TNode} : ∀ (f i : Nat) (out : List Nat), out.length ≤ (walkC e f i out).length := by
  intro f
  induction f with
  | zero => intro i out; exact Nat.le_refl _
  | succ f ih =>
    intro i out
    simp only [walkC]
    split
    · exact Nat.le_refl _
    · simp only [List.length_append, List.length_cons, List.length_nil]
      have h1 : out.length ≤ (if 2 < (nA e i).kind then walkC e f (nA e i).left.toNat out else out).length := by
        split
        · exact ih _ _
        · exact Nat.le_refl _
      generalize (if 2 < (nA e i).kind then walkC e f (nA e i).left.toNat out else out) = o1 at *
      split
      · have := ih (nA e i).right.toNat o1; omega
      · omega
theorem walkC_eq {e : List TNode} {n : Nat} (hp : PartsOk e n) : ∀ (f i : Nat) (out : List Nat), i < n → i < f → (out.length + (po e i).length ≤ 17 → walkC e f i out = out ++ po e i) ∧ (17 < out.length + (po e i).length → 17 ≤ (walkC e f i out).length) := by
  intro f
  induction f with
  | zero => intro i out _ h; omega
  | succ f ih =>
    intro i out hn hf
    have hq := nodeF_parts (hp i hn)
    have hl1 := (po_len hp i i (Nat.le_refl _) hn)
    have e0 := po_eq hp hn
    simp only [walkC]
    by_cases h16 : 16 < out.length
    · rw [if_pos h16]
      exact ⟨fun h => by omega, fun _ => by omega⟩
    · rw [if_neg h16]
      by_cases h10 : (nA e i).kind = 10
      · have hl := hq.1 h10
        have n2 : isTwoB (nA e i).kind = false := by rw [isTwoB, inR_not]; omega
        have i1 := ih (nA e i).left.toNat out (by omega) (by omega)
        rw [if_pos (show 2 < (nA e i).kind by omega)]
        simp only [n2, Bool.false_eq_true, if_false]
        rw [if_pos h10] at e0
        rw [e0]
        simp only [List.length_append, List.length_cons, List.length_nil]
        constructor
        · intro h
          rw [i1.1 (by omega)]; simp
        · intro h
          by_cases hh : out.length + (po e (nA e i).left.toNat).length ≤ 17
          · rw [i1.1 hh]; simp; omega
          · have := i1.2 (by omega); simp; omega
      · by_cases h2 : isTwoB (nA e i).kind = true
        · have hl := hq.2.1 h2
          have hk := inR_iff.1 h2
          have i1 := ih (nA e i).left.toNat out (by omega) (by omega)
          simp only [if_pos (show 2 < (nA e i).kind by omega), h10, h2, if_true, if_false] at e0 ⊢
          rw [e0]
          simp only [List.length_append, List.length_cons, List.length_nil]
          have hr1 := (po_len hp _ _ (Nat.le_refl _) (show (nA e i).right.toNat < n by omega))
          by_cases hh : out.length + (po e (nA e i).left.toNat).length ≤ 17
          · rw [i1.1 hh]
            have i2 := ih (nA e i).right.toNat (out ++ po e (nA e i).left.toNat) (by omega) (by omega)
            simp only [List.length_append] at i2
            constructor
            · intro h
              rw [i2.1 (by omega)]; simp
            · intro h
              by_cases h3 : out.length + (po e (nA e i).left.toNat).length + (po e (nA e i).right.toNat).length ≤ 17
              · rw [i2.1 h3]; simp; omega
              · have := i2.2 (by omega); omega
          · have h5 := i1.2 (by omega)
            have h6 := walkC_mono (e := e) f (nA e i).right.toNat (walkC e f (nA e i).left.toNat out)
            exact ⟨fun h => by omega, fun _ => by omega⟩
        · have hk : (nA e i).kind ≤ 2 := hq.2.2.2.2.2 ⟨h10, by simpa using h2⟩
          simp only [if_neg (show ¬ 2 < (nA e i).kind by omega), h10, h2, if_false, Bool.false_eq_true] at e0 ⊢
          rw [e0]
          simp only [List.length_append, List.length_cons, List.length_nil]
          exact ⟨fun _ => trivial, fun h => by omega⟩
def wkF (e : List TNode) (i : Nat) (out : List Nat) : List Nat := walkC e (i + 1) i out
theorem wk_iff {e : List TNode} {n : Nat} (hp : PartsOk e n) (hn : 0 < n) (h16 : n ≤ 16) : wkF e (n - 1) [] = List.range n ↔ (wrongU e n = false ∧ szA e (n - 1) = n) := by
  rw [← po_iff hp hn]
  have h := walkC_eq hp (n - 1 + 1) (n - 1) [] (by omega) (Nat.lt_succ_self _)
  unfold wkF
  simp only [List.length_nil, Nat.zero_add, List.nil_append] at h
  by_cases hh : (po e (n - 1)).length ≤ 17
  · rw [h.1 hh]
  · constructor
    · intro hw
      have := h.2 (by omega)
      rw [hw, List.length_range] at this; omega
    · intro hw
      rw [hw, List.length_range] at hh; omega

/-- the code of an expression -/
def exprF (e : List TNode) : Int :=
  if inR e.length 1 16 = false then 2
  else if sc (nodeAt e) e.length 0 ≠ 0 then sc (nodeAt e) e.length 0
  else if wrongU e e.length = true ∨ szA e (e.length - 1) ≠ e.length then 1 else 0
end Go.AM
namespace Go.AM

theorem walkC_more {e : List TNode} {n : Nat} (hp : PartsOk e n) : ∀ (f g i : Nat) (out : List Nat), i < n → i < f → i < g → walkC e f i out = walkC e g i out := by
  intro f
  induction f with
  | zero => intro g i out _ h; omega
  | succ f ih =>
    intro g i out hn hf hg
    cases g with
    | zero => omega
    | succ g =>
      have hq := nodeF_parts (hp i hn)
      simp only [walkC]
      by_cases h10 : (nA e i).kind = 10
      · have hl := hq.1 h10
        have n2 : isTwoB (nA e i).kind = false := by rw [isTwoB, inR_not]; omega
        simp only [n2, Bool.false_eq_true, if_false]
        rw [ih g (nA e i).left.toNat out (by omega) (by omega) (by omega)]
      · by_cases h2 : isTwoB (nA e i).kind = true
        · have hl := hq.2.1 h2
          simp only [h2]
          rw [ih g (nA e i).left.toNat _ (by omega) (by omega) (by omega), ih g (nA e i).right.toNat _ (by omega) (by omega) (by omega)]
        · have hk : (nA e i).kind ≤ 2 := hq.2.2.2.2.2 ⟨h10, by simpa using h2⟩
          simp only [if_neg (show ¬ 2 < (nA e i).kind by omega), h2, Bool.false_eq_true, if_false]
theorem wkF_eq {e : List TNode} {n i : Nat} (hp : PartsOk e n) (hi : i < n) (out : List Nat) : wkF e i out = if 16 < out.length then out else
    (if isTwoB (nA e i).kind then wkF e (nA e i).right.toNat (if 2 < (nA e i).kind then wkF e (nA e i).left.toNat out else out) else (if 2 < (nA e i).kind then wkF e (nA e i).left.toNat out else out)) ++ [i] := by
  have hq := nodeF_parts (hp i hi)
  unfold wkF
  conv => lhs; unfold walkC
  split
  · rfl
  · simp only
    by_cases h10 : (nA e i).kind = 10
    · have hl := hq.1 h10
      have n2 : isTwoB (nA e i).kind = false := by rw [isTwoB, inR_not]; omega
      simp only [n2, Bool.false_eq_true, if_false]
      rw [walkC_more hp i ((nA e i).left.toNat + 1) (nA e i).left.toNat out (by omega) (by omega) (by omega)]
    · by_cases h2 : isTwoB (nA e i).kind = true
      · have hl := hq.2.1 h2
        simp only [h2]
        rw [walkC_more hp i ((nA e i).left.toNat + 1) (nA e i).left.toNat _ (by omega) (by omega) (by omega), walkC_more hp i ((nA e i).right.toNat + 1) (nA e i).right.toNat _ (by omega) (by omega) (by omega)]
      · have hk : (nA e i).kind ≤ 2 := hq.2.2.2.2.2 ⟨h10, by simpa using h2⟩
        simp only [if_neg (show ¬ 2 < (nA e i).kind by omega), h2, Bool.false_eq_true, if_false]

/-! types -/
def ownT (k : Int) : Int := if k ≤ 6 then 1 else 2
def partT (k : Int) : Int := if k ≤ 8 then 1 else 2
def typBad (e : List TNode) (i : Nat) : Bool :=
  let n := nA e i
  (decide (2 < n.kind) && decide (ownT (nA e n.left.toNat).kind ≠ partT n.kind)) || (isTwoB n.kind && decide (ownT (nA e n.right.toNat).kind ≠ partT n.kind))
def typU (e : List TNode) (i : Nat) : Bool := (List.range i).any (typBad e)
theorem typU_step (e : List TNode) (i : Nat) : typU e (i + 1) = (typU e i || typBad e i) := by
  unfold typU; rw [List.range_succ, List.any_append]; simp
theorem typU_mono {e : List TNode} {i n : Nat} (h : i ≤ n) (hu : typU e i = true) : typU e n = true := by
  unfold typU at *
  simp only [List.any_eq_true, List.mem_range] at *
  obtain ⟨x, h1, h2⟩ := hu
  exact ⟨x, by omega, h2⟩
def typC (e : List TNode) : Int := if exprF e ≠ 0 then exprF e else if typU e e.length = true then 7 else 0
def typV (e : List TNode) : Int := if typC e ≠ 0 then 0 else ownT (nA e (e.length - 1)).kind
/-- the code of an expression that has to have a type, if it is there -/
def typF (e : List TNode) (want : Int) : Int := if e.length = 0 then 0 else if typC e ≠ 0 then typC e else if typV e ≠ want then 7 else 0

/-! names -/
def isLow (c : UInt8) : Bool := decide (97 ≤ (c.toNat : Int)) && decide ((c.toNat : Int) ≤ 122)
def nameF (s : List UInt8) : Int := if s.all isLow = false ∨ s.length = 0 then 5 else if 8 < s.length then 2 else 0

/-! parents -/
/-- parents lie ahead -/
def ParOk (l : List Int) : Prop := ∀ k, k < l.length → -1 ≤ l.getD k 0 ∧ l.getD k 0 < k
def upF (l : List Int) : Nat → Int → Int → Bool
  | 0, _, _ => false
  | f + 1, a, par => if a < 0 then false else if a = par then true else upF l f (l.getD a.toNat 0) par
/-- is it on the way up from a place? -/
def upB (l : List Int) (a par : Int) : Bool := upF l (a + 1).toNat a par
theorem upF_more {l : List Int} (hl : ParOk l) {par : Int} : ∀ (f g : Nat) (a : Int), a < l.length → a < f → a < g → upF l f a par = upF l g a par := by
  intro f
  induction f with
  | zero =>
    intro g a _ hf _
    cases g with
    | zero => rfl
    | succ g => simp only [upF]; rw [if_pos (by omega)]
  | succ f ih =>
    intro g a hn hf hg
    cases g with
    | zero => simp only [upF]; rw [if_pos (by omega)]
    | succ g =>
      simp only [upF]
      split
      · rfl
      · split
        · rfl
        · have := hl a.toNat (by omega)
          exact ih g _ (by omega) (by omega) (by omega)
theorem upB_neg {l : List Int} {a par : Int} (h : a < 0) : upB l a par = false := by
  unfold upB
  rw [show (a + 1).toNat = 0 by omega]; rfl
theorem upB_eq {l : List Int} (hl : ParOk l) {a par : Int} (h0 : 0 ≤ a) (hn : a < l.length) : upB l a par = if a = par then true else upB l (l.getD a.toNat 0) par := by
  unfold upB
  obtain ⟨m, hm⟩ : ∃ m : Nat, a = m := ⟨a.toNat, by omega⟩
  subst hm
  rw [show ((m : Int) + 1).toNat = m + 1 by omega]
  simp only [upF]
  rw [if_neg (by omega)]
  split
  · rfl
  · have := hl m (by omega)
    rw [Int.toNat_natCast] at *
    exact upF_more hl m _ _ (by omega) (by omega) (by omega)
theorem upB_lt {l : List Int} (hl : ParOk l) {par : Int} : ∀ (k : Nat) (a : Int), a < k → a < l.length → a < par → upB l a par = false := by
  intro k
  induction k with
  | zero => intro a hk _ _; exact upB_neg (by omega)
  | succ k ih =>
    intro a hk hn hp
    by_cases h0 : a < 0
    · exact upB_neg h0
    · have := hl a.toNat (by omega)
      rw [upB_eq hl (by omega) hn, if_neg (by omega)]
      exact ih _ (by omega) (by omega) (by omega)
/-- the code of the next parent -/
def parF (l : List Int) (par : Int) : Int :=
  if (l.length = 0 ∧ par ≠ -1) ∨ (0 < l.length ∧ (par < 0 ∨ (l.length : Int) ≤ par)) then 3
  else if 0 < l.length ∧ upB l ((l.length : Int) - 1) par = false then 1 else 0
theorem ParOk.snoc {l : List Int} (hl : ParOk l) {par : Int} (h1 : -1 ≤ par) (h2 : par < l.length) : ParOk (l ++ [par]) := by
  intro k hk
  rw [List.length_append, List.length_singleton] at hk
  by_cases h : k < l.length
  · have := hl k h
    simpa [List.getD, List.getElem?_append_left h] using this
  · obtain rfl : k = l.length := by omega
    simp [List.getD]; omega
theorem parF_ok {l : List Int} {par : Int} (h : parF l par = 0) : -1 ≤ par ∧ par < l.length ∧ (0 < l.length → 0 ≤ par) := by
  unfold parF at h
  split at h
  · cases h
  · omega

/-- how many there are from a place up -/
def depF (l : List Int) : Nat → Int → Int
  | 0, _ => 0
  | f + 1, a => if a < 0 then 0 else 1 + depF l f (l.getD a.toNat 0)
def dep (l : List Int) (a : Int) : Int := depF l (a + 1).toNat a
theorem depF_more {l : List Int} (hl : ParOk l) : ∀ (f g : Nat) (a : Int), a < l.length → a < f → a < g → depF l f a = depF l g a := by
  intro f
  induction f with
  | zero =>
    intro g a _ hf _
    cases g with
    | zero => rfl
    | succ g => simp only [depF]; rw [if_pos (by omega)]
  | succ f ih =>
    intro g a hn hf hg
    cases g with
    | zero => simp only [depF]; rw [if_pos (by omega)]
    | succ g =>
      simp only [depF]
      split
      · rfl
      · have := hl a.toNat (by omega)
        rw [ih g _ (by omega) (by omega) (by omega)]
theorem dep_neg {l : List Int} {a : Int} (h : a < 0) : dep l a = 0 := by
  unfold dep
  rw [show (a + 1).toNat = 0 by omega]; rfl
theorem dep_eq {l : List Int} (hl : ParOk l) {a : Int} (h0 : 0 ≤ a) (hn : a < l.length) : dep l a = 1 + dep l (l.getD a.toNat 0) := by
  unfold dep
  obtain ⟨m, hm⟩ : ∃ m : Nat, a = m := ⟨a.toNat, by omega⟩
  subst hm
  rw [show ((m : Int) + 1).toNat = m + 1 by omega]
  simp only [depF]
  rw [if_neg (by omega)]
  have := hl m (by omega)
  rw [Int.toNat_natCast] at *
  rw [depF_more hl m (l.getD m 0 + 1).toNat (l.getD m 0) (by omega) (by omega) (by omega)]
theorem dep_bd {l : List Int} (hl : ParOk l) : ∀ (k : Nat) (a : Int), a < k → a < l.length → 0 ≤ dep l a ∧ (0 ≤ a → dep l a ≤ a + 1) := by
  intro k
  induction k with
  | zero => intro a hk _; rw [dep_neg (by omega)]; omega
  | succ k ih =>
    intro a hk hn
    by_cases h0 : a < 0
    · rw [dep_neg h0]; omega
    · have h1 := hl a.toNat (by omega)
      rw [dep_eq hl (by omega) hn]
      have h2 := ih (l.getD a.toNat 0) (by omega) (by omega)
      by_cases h3 : 0 ≤ l.getD a.toNat 0
      · have := h2.2 h3; omega
      · rw [dep_neg (show l.getD a.toNat 0 < 0 by omega)]; omega
theorem getD_left {l : List Int} {x : Int} {k : Nat} (h : k < l.length) : (l ++ [x]).getD k 0 = l.getD k 0 := by simp [List.getD, List.getElem?_append_left h]
theorem dep_snoc {l : List Int} (hl : ParOk l) {x : Int} : ∀ (k : Nat) (a : Int), a < k → a < l.length → -1 ≤ x → x < l.length → dep (l ++ [x]) a = dep l a := by
  intro k
  induction k with
  | zero => intro a hk _ _ _; rw [dep_neg (by omega), dep_neg (by omega)]
  | succ k ih =>
    intro a hk hn h1 h2
    by_cases h0 : a < 0
    · rw [dep_neg h0, dep_neg h0]
    · have h3 := hl a.toNat (by omega)
      rw [dep_eq hl (by omega) hn, dep_eq (hl.snoc h1 h2) (by omega) (by simp; omega), getD_left (by omega), ih _ (by omega) (by omega) h1 h2]

/-! steps -/
instance : Inhabited TStep := ⟨⟨0, 0, [], 0, [], []⟩⟩
def nS (p : List TStep) (i : Nat) : TStep := p.getD i default
def pars (p : List TStep) : List Int := p.map TStep.par
def highA (k : Int) : Int := if k = 5 then 9 else if k = 6 ∨ k = 8 then 99 else if k = 7 then 3 else 0
def lowA (k : Int) : Int := if k = 6 ∨ k = 8 then 1 else 0
def alien (s : TStep) : Bool := (decide (s.name ≠ []) && decide (s.kind ≠ 2)) || (decide (s.arg ≠ 0) && decide (highA s.kind = 0)) || (decide (0 < s.expr.length) && decide (s.kind ≠ 7))
/-- the code of a step by itself, behind a row of parents -/
def stepF (l : List Int) (s : TStep) : Int :=
  if s.kind < 1 ∨ 8 < s.kind ∨ alien s = true then 1
  else if parF l s.par ≠ 0 then parF l s.par
  else if 7 < dep (l ++ [s.par]) l.length then 2
  else if s.kind = 2 then nameF s.name
  else if s.arg < lowA s.kind ∨ highA s.kind < s.arg then 3
  else if s.kind = 7 then exprF s.expr else 0
def oneF (p : List TStep) (i : Nat) : Int := stepF ((pars p).take i) (nS p i)

def kidU (p : List TStep) (a : Int) (i : Nat) : List Int := ((List.range i).filter fun k => decide (0 < k) && decide ((nS p k).par = a)).map fun (k : Nat) => (k : Int)
def kids (p : List TStep) (a : Int) : List Int := kidU p a p.length
theorem kidU_step (p : List TStep) (a : Int) (i : Nat) : kidU p a (i + 1) = kidU p a i ++ (if 0 < i ∧ (nS p i).par = a then [(i : Int)] else []) := by
  unfold kidU
  rw [List.range_succ, List.filter_append, List.map_append]
  congr 1
  by_cases h : 0 < i ∧ (nS p i).par = a
  · rw [if_pos h]; simp [h]
  · rw [if_neg h]
    rw [List.filter_cons_of_neg (by simpa using h)]; rfl
theorem kidU_len (p : List TStep) (a : Int) (i : Nat) : (kidU p a i).length ≤ i := by
  unfold kidU; rw [List.length_map]; exact Nat.le_trans (List.length_filter_le _ _) (by simp)
theorem kids_mem {p : List TStep} {a k : Int} : k ∈ kids p a ↔ ∃ m : Nat, k = m ∧ 0 < m ∧ m < p.length ∧ (nS p m).par = a := by
  unfold kids kidU
  simp only [List.mem_map, List.mem_filter, List.mem_range, Bool.and_eq_true, decide_eq_true_eq]
  constructor
  · rintro ⟨m, ⟨h1, h2, h3⟩, rfl⟩; exact ⟨m, rfl, h2, h1, h3⟩
  · rintro ⟨m, rfl, h2, h1, h3⟩; exact ⟨m, ⟨h1, h2, h3⟩, rfl⟩

def lastI (l : List Int) : Int := l.getD (l.length - 1) 0
def headI (l : List Int) : Int := l.getD 0 0
def kidLo (k : Int) : Int := if k = 1 then 1 else if k = 3 ∨ k = 4 ∨ k = 8 then 2 else 0
def kidHi (k : Int) : Int := if k = 1 ∨ k = 3 ∨ k = 4 then 24 else if k = 8 then 2 else 0
def wants (p : List TStep) (i : Nat) : Bool :=
  decide (i ≠ 0) && decide ((nS p (nS p i).par.toNat).kind = 3) && decide ((i : Int) ≠ lastI (kids p (nS p i).par))
def shapeF (p : List TStep) (i : Nat) : Int :=
  let s := nS p i
  if inR (kids p i).length (kidLo s.kind) (kidHi s.kind) = false then 1
  else if decide (0 < s.cond.length) ≠ wants p i then 1
  else if 0 < s.cond.length then exprF s.cond else 0
def tyF (p : List TStep) (i : Nat) : Int := if typF (nS p i).cond 2 ≠ 0 then typF (nS p i).cond 2 else typF (nS p i).expr 1
/-- the code of a process -/
def procF (p : List TStep) : Int :=
  if inR p.length 1 24 = false then 2
  else if sc (oneF p) p.length 0 ≠ 0 then sc (oneF p) p.length 0
  else if sc (shapeF p) p.length 0 ≠ 0 then sc (shapeF p) p.length 0
  else sc (tyF p) p.length 0

/-- what is told of a row of steps that have no fault by themselves -/
theorem pars_len (p : List TStep) : (pars p).length = p.length := by simp [pars]
theorem pars_take {p : List TStep} {i : Nat} (h : i < p.length) : (pars p).take (i + 1) = (pars p).take i ++ [(nS p i).par] := by
  have e : (pars p)[i]? = some (nS p i).par := by simp [pars, nS, List.getD, List.getElem?_map, List.getElem?_eq_getElem h]
  rw [List.take_add_one, e]; rfl
theorem stepF_par {l : List Int} {s : TStep} (h : stepF l s = 0) : parF l s.par = 0 := by
  unfold stepF at h
  split at h
  · cases h
  · split at h
    · exact absurd h (by assumption)
    · rename_i h2; simpa using h2
theorem ones_ok {p : List TStep} : ∀ (i : Nat), i ≤ p.length → (∀ k, k < i → oneF p k = 0) → ParOk ((pars p).take i) := by
  intro i
  induction i with
  | zero => intro _ _ k hk; simp at hk
  | succ i ih =>
    intro hi h
    have h1 := ih (by omega) fun k hk => h k (by omega)
    have h2 := parF_ok (stepF_par (h i (by omega)))
    rw [pars_take (by omega)]
    exact h1.snoc h2.1 h2.2.1
end Go.AM
namespace Go.AM

def actA (c : TChart) (i : Int) : Int := c.acts.getD i.toNat 0
def dueA (c : TChart) (i : Int) : Int := c.dues.getD i.toNat 0
def stepA (p : List TStep) (i : Int) : TStep := nS p i.toNat
def cnt (c : TChart) (a : Int) (l : List Int) : Int := (l.countP fun k => decide (actA c k = a) : Nat)
theorem cnt_nil (c : TChart) (a : Int) : cnt c a [] = 0 := rfl
theorem cnt_step {c : TChart} {a : Int} {l : List Int} {i : Nat} {x : Int} (h : l[i]? = some x) : cnt c a (l.take (i + 1)) = cnt c a (l.take i) + if actA c x = a then 1 else 0 := by
  unfold cnt
  rw [List.take_add_one, h, List.countP_append]
  by_cases h0 : actA c x = a <;> simp [h0]
theorem cnt_le (c : TChart) (a : Int) (l : List Int) : 0 ≤ cnt c a l ∧ cnt c a l ≤ l.length := by
  unfold cnt
  have := List.countP_le_length (p := fun k => decide (actA c k = a)) (l := l)
  omega
theorem cnt_pos {c : TChart} {a k : Int} {l : List Int} (h : k ∈ l) (ha : actA c k = a) : 0 < cnt c a l := by
  unfold cnt
  have := List.countP_pos_iff (p := fun k => decide (actA c k = a)) (l := l) |>.2 ⟨k, h, by simpa using ha⟩
  omega
theorem cnt_zero {c : TChart} {a : Int} {l : List Int} (h : ∀ k ∈ l, actA c k ≠ a) : cnt c a l = 0 := by
  unfold cnt
  have := List.countP_eq_zero (p := fun k => decide (actA c k = a)) (l := l) |>.2 fun k hk => by simpa using h k hk
  omega
/-- the program's look at a step -/
def fits (p : List TStep) (c : TChart) (at_ : Int) : Bool :=
  let s := stepA p at_
  let a := actA c at_
  let l := kids p at_
  let on := cnt c 1 l
  let ov := cnt c 2 l
  if a = 2 ∧ (at_ = 0 ∨ (stepA p s.par).kind ≠ 4) then false
  else if a ≠ 1 then decide (on + ov = 0) && decide (dueA c at_ = 0)
  else if s.kind = 1 ∨ s.kind = 3 then decide (on = 1) && decide (dueA c at_ = 0)
  else if s.kind = 4 then decide (on ≠ 0) && decide (on + ov = l.length) && decide (dueA c at_ = 0)
  else if s.kind = 8 then decide (on = 1) && (decide (actA c (headI l) = 1) == decide (dueA c at_ ≠ 0))
  else if s.kind = 6 then decide (dueA c at_ ≠ 0)
  else if s.kind = 7 then false
  else decide (dueA c at_ = 0)
/-- the reference's look at a step -/
def wrong9 (p : List TStep) (c : TChart) (at_ : Int) : Bool :=
  let l := kids p at_
  let on := cnt c 1 l
  let ov := cnt c 2 l
  let due := decide (dueA c at_ ≠ 0)
  if actA c at_ ≠ 1 then decide (0 < on + ov) || due
  else if (stepA p at_).kind = 1 ∨ (stepA p at_).kind = 3 then decide (on ≠ 1) || decide (0 < ov) || due
  else if (stepA p at_).kind = 4 then decide (on < 1) || decide (on + ov ≠ l.length) || due
  else if (stepA p at_).kind = 8 then decide (on ≠ 1) || decide (0 < ov) || (due != decide (actA c (headI l) = 1))
  else if (stepA p at_).kind = 6 then !due
  else if (stepA p at_).kind = 7 then true
  else due
def allFit (p : List TStep) (c : TChart) (n : Nat) : Bool := (List.range n).all fun (i : Nat) => fits p c i
def someWrong (p : List TStep) (c : TChart) (n : Nat) : Bool := (List.range n).any fun (i : Nat) => wrong9 p c i
theorem allFit_step (p : List TStep) (c : TChart) (n : Nat) : allFit p c (n + 1) = (allFit p c n && fits p c n) := by
  unfold allFit; rw [List.range_succ, List.all_append]; simp
theorem someWrong_step (p : List TStep) (c : TChart) (n : Nat) : someWrong p c (n + 1) = (someWrong p c n || wrong9 p c n) := by
  unfold someWrong; rw [List.range_succ, List.any_append]; simp

/-- what a process without faults is known to be -/
structure ProcOk (p : List TStep) : Prop where
  len : 1 ≤ p.length ∧ p.length ≤ 24
  one : ∀ i, i < p.length → oneF p i = 0
  shape : ∀ i, i < p.length → shapeF p i = 0
  ty : ∀ i, i < p.length → tyF p i = 0
theorem procOk {p : List TStep} (h : procF p = 0) : ProcOk p := by
  unfold procF at h
  split at h
  · cases h
  rename_i h0
  split at h
  · exact absurd h (by assumption)
  rename_i h1
  split at h
  · exact absurd h (by assumption)
  rename_i h2
  have h0 : inR (↑p.length) 1 24 = true := by simpa using h0
  have h0 := inR_iff.1 h0
  exact ⟨by omega, sc_all (by simpa using h1), sc_all (by simpa using h2), sc_all h⟩
theorem ProcOk.par {p : List TStep} (h : ProcOk p) : ParOk (pars p) := by
  have := ones_ok p.length (Nat.le_refl _) h.one
  rwa [List.take_of_length_le (by rw [pars_len]; exact Nat.le_refl _)] at this
theorem ProcOk.par0 {p : List TStep} (h : ProcOk p) : (nS p 0).par = -1 := by
  have h1 := parF_ok (stepF_par (h.one 0 (by have := h.len; omega)))
  simp at h1; omega
theorem ProcOk.parI {p : List TStep} (h : ProcOk p) {i : Nat} (h0 : 0 < i) (hi : i < p.length) : 0 ≤ (nS p i).par ∧ (nS p i).par < i := by
  have h1 := parF_ok (stepF_par (h.one i hi))
  have hl : ((pars p).take i).length = i := by rw [List.length_take, pars_len]; omega
  rw [hl] at h1
  exact ⟨h1.2.2 h0, h1.2.1⟩
theorem ProcOk.kind {p : List TStep} (h : ProcOk p) {i : Nat} (hi : i < p.length) : 1 ≤ (nS p i).kind ∧ (nS p i).kind ≤ 8 := by
  have h1 := h.one i hi
  unfold oneF stepF at h1
  split at h1
  · cases h1
  · omega
theorem ProcOk.many {p : List TStep} (h : ProcOk p) {i : Nat} (hi : i < p.length) : kidLo (nS p i).kind ≤ (kids p i).length ∧ ((kids p i).length : Int) ≤ kidHi (nS p i).kind := by
  have h1 := h.shape i hi
  unfold shapeF at h1
  simp only at h1
  split at h1
  · cases h1
  · rename_i h2; exact inR_iff.1 (by simpa using h2)

/-- both look alike over all steps -/
theorem fits_iff {p : List TStep} {c : TChart} (hp : ProcOk p) : (allFit p c p.length = true ∧ actA c 0 = 1) ↔ (actA c 0 = 1 ∧ someWrong p c p.length = false) := by
  unfold allFit someWrong
  rw [Bool.eq_false_iff]
  simp only [List.all_eq_true, List.any_eq_true, List.mem_range, ne_eq, not_exists, not_and, Bool.not_eq_true]
  constructor
  · rintro ⟨h, h0⟩
    refine ⟨h0, fun i hi => ?_⟩
    have hf := h i hi
    have hov : (stepA p i).kind ≠ 4 → cnt c 2 (kids p i) = 0 := by
      intro hk
      refine cnt_zero fun k hk' => ?_
      obtain ⟨m, rfl, h1, h2, h3⟩ := kids_mem.1 hk'
      intro ha
      have hm := h m h2
      unfold fits at hm
      simp only at hm
      rw [if_pos ⟨ha, Or.inr (by simp only [stepA, Int.toNat_natCast] at hk ⊢; rw [h3]; simpa using hk)⟩] at hm
      cases hm
    unfold fits at hf
    unfold wrong9
    simp only at hf ⊢
    split at hf
    · cases hf
    split at hf
    · rename_i h1
      rw [if_pos h1]
      simp at hf ⊢; omega
    · rename_i h1
      rw [if_neg h1]
      split at hf
      · rename_i h2
        rw [if_pos h2, hov (by omega)]
        simp at hf ⊢; omega
      · rename_i h2
        rw [if_neg h2]
        split at hf
        · rename_i h3
          rw [if_pos h3]
          have := (cnt_le c 1 (kids p i)).1
          simp at hf ⊢; omega
        · rename_i h3
          rw [if_neg h3]
          split at hf
          · rename_i h4
            rw [if_pos h4, hov (by omega)]
            simp at hf ⊢
            refine ⟨hf.1, ?_⟩
            have := hf.2
            by_cases ha : actA c (headI (kids p i)) = 1 <;> by_cases hd : dueA c i = 0 <;> simp_all
          · rename_i h4
            rw [if_neg h4]
            split at hf
            · rename_i h5
              rw [if_pos h5]; simp at hf ⊢; exact hf
            · rename_i h5
              rw [if_neg h5]
              split at hf
              · cases hf
              · rename_i h6
                rw [if_neg h6]; simp at hf ⊢; exact hf
  · rintro ⟨h0, h⟩
    refine ⟨fun i hi => ?_, h0⟩
    have hf := h i hi
    have hov : actA c i = 2 → i ≠ 0 ∧ (stepA p (stepA p i).par).kind = 4 := by
      intro ha
      have hi0 : i ≠ 0 := by rintro rfl; rw [show ((0 : Nat) : Int) = 0 by rfl] at ha; omega
      refine ⟨hi0, ?_⟩
      have hpi := hp.parI (by omega) hi
      obtain ⟨m, hm⟩ : ∃ m : Nat, (nS p i).par = m := ⟨_, (Int.toNat_of_nonneg hpi.1).symm⟩
      have hmi : m < p.length := by omega
      have hmem : (i : Int) ∈ kids p m := kids_mem.2 ⟨i, rfl, by omega, hi, hm⟩
      have hpos := cnt_pos hmem ha
      have hge := (cnt_le c 1 (kids p m)).1
      have hw := h m hmi
      have hmany := (hp.many hmi).2
      have hkind := hp.kind hmi
      have hlen : 1 ≤ (kids p m).length := by
        have := List.length_pos_of_mem hmem; omega
      have e1 : stepA p (stepA p i).par = nS p m := by simp only [stepA, Int.toNat_natCast]; rw [hm]; simp
      rw [e1]
      unfold wrong9 at hw
      have e2 : stepA p (m : Int) = nS p m := by simp [stepA]
      simp only [e2] at hw
      generalize (nS p m).kind = kk at *
      unfold kidHi at hmany
      split at hw
      · simp at hw; omega
      · split at hw
        · simp at hw; omega
        · split at hw
          · assumption
          · split at hw
            · simp at hw; omega
            · exfalso
              first | omega | (split at hmany <;> first | omega | (split at hmany <;> omega))
    unfold wrong9 at hf
    unfold fits
    simp only at hf ⊢
    rw [if_neg (by
      rintro ⟨h1, h2⟩
      have := hov h1
      rcases h2 with h2 | h2
      · omega
      · exact h2 this.2)]
    split at hf
    · rename_i h1
      rw [if_pos h1]
      have g1 := (cnt_le c 1 (kids p i)).1
      have g2 := (cnt_le c 2 (kids p i)).1
      simp at hf ⊢; omega
    · rename_i h1
      rw [if_neg h1]
      split at hf
      · rename_i h2
        rw [if_pos h2]; simp at hf ⊢; omega
      · rename_i h2
        rw [if_neg h2]
        split at hf
        · rename_i h3
          rw [if_pos h3]; simp at hf ⊢; omega
        · rename_i h3
          rw [if_neg h3]
          split at hf
          · rename_i h4
            rw [if_pos h4]
            simp at hf ⊢
            refine ⟨hf.1.1, ?_⟩
            have := hf.2
            by_cases ha : actA c (headI (kids p i)) = 1 <;> by_cases hd : dueA c i = 0 <;> simp_all
          · rename_i h4
            rw [if_neg h4]
            split at hf
            · rename_i h5
              rw [if_pos h5]; simp at hf ⊢; exact hf
            · rename_i h5
              rw [if_neg h5]
              split at hf
              · cases hf
              · rename_i h6
                rw [if_neg h6]; simp at hf ⊢; exact hf

def zeros (l : List Int) : Bool := l.all fun n => decide (n = 0)
def smallB (l : List Int) (m : Int) : Bool := l.all fun n => inR n 0 m
theorem smallB_zero (l : List Int) : smallB l 0 = zeros l := by
  unfold smallB zeros
  congr 1; funext n
  rw [Bool.eq_iff_iff, inR_iff]; simp; omega
/-- the code of a chart of a process -/
def chartF (p : List TStep) (c : TChart) : Int :=
  if procF p ≠ 0 then procF p
  else if inR c.status 1 3 = false ∨ inR c.now 0 1000000 = false then 3
  else if varsF c.vars ≠ 0 then varsF c.vars
  else if c.acts.length ≠ p.length ∨ c.dues.length ≠ p.length then 2
  else if smallB c.acts 2 = false ∨ smallB c.dues (c.now + 99) = false then 3
  else if c.status ≠ 1 then (if zeros c.acts = true ∧ zeros c.dues = true then 0 else 1)
  else if actA c 0 = 1 ∧ someWrong p c p.length = false then 0 else 1

/-! chapter 11 -/
instance : Inhabited TProc := ⟨⟨[]⟩⟩
instance : Inhabited TChart := ⟨⟨0, 0, [], [], []⟩⟩
instance : Inhabited TInst := ⟨⟨0, default⟩⟩
def procAt (l : List TProc) (i : Nat) : Int := procF (l.getD i default).steps
def procsF (l : List TProc) : Int := if inR l.length 1 3 = false then 2 else sc (procAt l) l.length 0
def instF (e : TEngine) (x : TInst) : Int :=
  if inR x.proc 0 ((e.procs.length : Int) - 1) = false then 3
  else if chartF (e.procs.getD x.proc.toNat default).steps x.chart ≠ 0 then chartF (e.procs.getD x.proc.toNat default).steps x.chart
  else if x.chart.now ≠ e.now then 9 else 0
def instAt (e : TEngine) (i : Nat) : Int := instF e (e.insts.getD i default)
def engF (e : TEngine) : Int :=
  if 6 < e.insts.length then 2
  else if procsF e.procs ≠ 0 then procsF e.procs
  else if inR e.now 0 1000000 = false then 3
  else sc (instAt e) e.insts.length 0

/-! chapter 12 -/
instance : Inhabited TClaim := ⟨⟨0, 0, 0⟩⟩
def stepsOf (e : TEngine) (x : TInst) : List TStep := (e.procs.getD x.proc.toNat default).steps
def openT (e : TEngine) (inst step : Int) : Bool :=
  let x := e.insts.getD inst.toNat default
  inR step 0 (((stepsOf e x).length : Int) - 1) && decide ((stepA (stepsOf e x) step).kind = 2) && decide (actA x.chart step = 1)
def aheadC (a b : TClaim) : Bool := decide (a.inst < b.inst) || decide (a.inst = b.inst) && decide (a.step < b.step)
def claimF (d : TDesk) (i : Nat) : Int :=
  let x := d.claims.getD i default
  if inR x.inst 0 ((d.engine.insts.length : Int) - 1) = false ∨ inR x.user 1 9 = false then 3
  else if openT d.engine x.inst x.step = false then 4
  else if 0 < i ∧ aheadC (d.claims.getD (i - 1) default) x = false then 1 else 0
def deskF (d : TDesk) : Int :=
  if engF d.engine ≠ 0 then engF d.engine
  else if 60 < d.claims.length then 2
  else sc (claimF d) d.claims.length 0
end Go.AM
namespace Go.AM
def nlc (es : Nat) (l : List (List AV)) : AV := match l with
  | [] => .nils
  | x :: r => .osl es (x :: r)
@[go_sem high] theorem nlc_nil (es : Nat) : nlc es [] = .nils := rfl
@[go_sem high] theorem nlc_cons (es : Nat) (x : List AV) (r : List (List AV)) : nlc es (x :: r) = .osl es (x :: r) := rfl
theorem nlc_ne {es : Nat} {l : List (List AV)} (h : l ≠ []) : nlc es l = .osl es l := by cases l; exact absurd rfl h; rfl
@[go_sem high] theorem nlc_tree (es : Nat) (l : List (List AV)) : (nlc es l).tree = true := by cases l <;> rfl
@[go_sem high] theorem nlc_ids (es : Nat) (l : List (List AV)) : (nlc es l).ids = [] := by cases l <;> simp [nlc, AV.ids]
@[go_sem high] theorem nlc_ownd (es : Nat) (l : List (List AV)) : (nlc es l).ownd = owndLL l := by cases l <;> simp [nlc, AV.ownd, owndLL]
@[go_sem high] theorem nlc_le (es : Nat) (l m : List (List AV)) : leA0 (.osl es l) (nlc es m) ↔ l = m ∧ m ≠ [] := by
  cases m with
  | nil => simp [nlc, leA0]
  | cons y r => simp [nlc, leA0]
@[go_sem high] theorem nlc_lenil (es : Nat) (m : List (List AV)) : leA0 .nils (nlc es m) ↔ m = [] := by cases m <;> simp [nlc, leA0]
@[go_sem high] theorem nlc_lenlc (es : Nat) (l : List (List AV)) : leA0 (nlc es l) (nlc es l) := by cases l <;> simp [nlc, leA0]
end Go.AM
namespace Go.AM
attribute [go_sem] renS AV.ren renL
theorem sc_first {f : Nat → Int} {n : Nat} (i j : Nat) (hj : j ≤ i) (hi : i < n) (h0 : ∀ k, j ≤ k → k < i → f k = 0) (hne : f i ≠ 0) : sc f n j = f i := by
  have key : ∀ m j, i - j = m → j ≤ i → (∀ k, j ≤ k → k < i → f k = 0) → sc f n j = f i := by
    intro m
    induction m with
    | zero =>
      intro j h1 h2 _
      obtain rfl : j = i := by omega
      exact sc_hit hi hne
    | succ m ih =>
      intro j h1 h2 h3
      rw [sc_go (by omega) (h3 j (Nat.le_refl _) (by omega))]
      exact ih (j + 1) (by omega) (by omega) fun k h4 h5 => h3 k (by omega) h5
  exact key _ j rfl hj h0
theorem sc_none {f : Nat → Int} {n : Nat} (h : ∀ k, k < n → f k = 0) : sc f n 0 = 0 := by
  have key : ∀ m i, n - i = m → sc f n i = 0 := by
    intro m
    induction m with
    | zero => intro i hi; exact sc_end (by omega)
    | succ m ih => intro i hi; rw [sc_go (by omega) (h i (by omega))]; exact ih _ (by omega)
  exact key _ 0 rfl
theorem upto {f : Nat → Int} {i : Nat} (h : ∀ k, k < i → f k = 0) (h0 : f i = 0) : ∀ k, k < i + 1 → f k = 0 := by
  intro k hk
  rcases Nat.eq_or_lt_of_le (Nat.le_of_lt_succ hk) with rfl | hk
  · exact h0
  · exact h k hk
theorem nA_at {e : List TNode} {i : Nat} {x : TNode} (h : e[i]? = some x) : nA e i = x := by simp [nA, List.getD, h]
theorem nodeAt_at {e : List TNode} {i : Nat} {x : TNode} (h : e[i]? = some x) : nodeAt e i = nodeF x i := by rw [nodeAt, nA_at h]
theorem exprF_len {e : List TNode} (h : inR e.length 1 16 = false) : exprF e = 2 := by rw [exprF, if_pos h]
theorem exprF_len' {e : List TNode} (h : e.length < 1 ∨ 16 < e.length) : exprF e = 2 := exprF_len (inR_not.2 (by omega))
theorem exprF_node {e : List TNode} {i : Nat} (hR : inR e.length 1 16 = true) (hi : i < e.length) (h : ∀ k, k < i → nodeAt e k = 0) (hne : nodeAt e i ≠ 0) : exprF e = nodeAt e i := by
  have hs := sc_first i 0 (Nat.zero_le _) hi (fun k _ hk => h k hk) hne
  rw [exprF, if_neg (by rw [hR]; decide), hs, if_pos hne]
theorem exprF_end {e : List TNode} (hR : inR e.length 1 16 = true) (h : ∀ k, k < e.length → nodeAt e k = 0) : exprF e = if wrongU e e.length = true ∨ szA e (e.length - 1) ≠ e.length then 1 else 0 := by
  rw [exprF, if_neg (by rw [hR]; decide), sc_none h, if_neg (by decide)]
theorem sizesL_at {e : List TNode} {i j : Nat} (h : j < i) : (sizesL e i)[j]? = some (szA e j) := by
  have h1 := sizesL_get e j i h
  have h2 : j < (sizesL e i).length := by rw [sizesL_len]; exact h
  rw [List.getElem?_eq_getElem h2]
  simp only [List.getD, List.getElem?_eq_getElem h2, Option.getD_some] at h1
  rw [h1]
theorem sizesL_succ (e : List TNode) (i : Nat) : sizesL e (i + 1) = sizesL e i ++ [szA e i] := by
  rw [szA_eq]; rfl
theorem szA_at {e : List TNode} {i : Nat} {x : TNode} (h : e[i]? = some x) (hp : nodeF x i = 0) : szA e i = if x.kind = 10 then 1 + szA e x.left.toNat else if isTwoB x.kind then 1 + (szA e x.left.toNat + szA e x.right.toNat) else 1 := by
  have hq := nodeF_parts hp
  rw [szA_eq]
  unfold sizeOf1
  simp only [nA_at h]
  split
  · rename_i h10
    rw [sizesL_get e _ i (hq.1 h10).2]
  · split
    · rename_i h2
      rw [sizesL_get e _ i (hq.2.1 h2).2.1, sizesL_get e _ i (hq.2.1 h2).2.2.2]; omega
    · rfl
theorem wrongU_at {e : List TNode} {i : Nat} {x : TNode} (h : e[i]? = some x) : wrongU e (i + 1) = (wrongU e i || if x.kind = 10 then decide (x.left ≠ (i : Int) - 1)
    else if isTwoB x.kind then decide (x.right ≠ (i : Int) - 1) || decide (x.left ≠ (i : Int) - 1 - szA e x.right.toNat) else false) := by
  rw [wrongU_step]
  unfold wrong1
  simp only [nA_at h]
theorem not_two {k : Int} (h1 : ¬ isTwoB k = true) (h2 : k ≠ 10) (h3 : 1 ≤ k) (h4 : k ≤ 10) : k ≤ 2 := by
  have : isTwoB k = false := by simpa using h1
  rw [isTwoB, inR_not] at this; omega

theorem left_of {x : TNode} {i : Nat} (h : nodeF x i = 0) (h2 : 2 < x.kind) : 0 ≤ x.left ∧ x.left.toNat < i := by
  have hq := nodeF_parts h
  by_cases h10 : x.kind = 10
  · exact hq.1 h10
  · by_cases h3 : isTwoB x.kind = true
    · exact ⟨(hq.2.1 h3).1, (hq.2.1 h3).2.1⟩
    · have := not_two h3 h10 hq.2.2.1 hq.2.2.2.1; omega
theorem upto_at {l : List Nat} {i y : Nat} (h : ∀ k, k < i → l[k]? = some k) (hy : l[i]? = some y) (e : y = i) : ∀ k, k < i + 1 → l[k]? = some k := by
  intro k hk
  rcases Nat.eq_or_lt_of_le (Nat.le_of_lt_succ hk) with rfl | hk
  · rw [hy, e]
  · exact h k hk
/-! types -/
def typesL (e : List TNode) (i : Nat) : List Int := (List.range i).map fun j => ownT (nA e j).kind
theorem typesL_len (e : List TNode) (i : Nat) : (typesL e i).length = i := by simp [typesL]
theorem typesL_at {e : List TNode} {i j : Nat} (h : j < i) : (typesL e i)[j]? = some (ownT (nA e j).kind) := by simp [typesL, h]
theorem typesL_succ (e : List TNode) (i : Nat) : typesL e (i + 1) = typesL e i ++ [ownT (nA e i).kind] := by simp [typesL, List.range_succ]
theorem exprF_zero {e : List TNode} (h : exprF e = 0) : inR e.length 1 16 = true ∧ PartsOk e e.length := by
  unfold exprF at h
  split at h
  · cases h
  split at h
  · exact absurd h (by assumption)
  · rename_i h1 h2
    exact ⟨by simpa using h1, sc_all (by simpa using h2)⟩
theorem typC_f {e : List TNode} (h : exprF e ≠ 0) : typC e = exprF e ∧ typV e = 0 := by
  have h1 : typC e = exprF e := by rw [typC, if_pos h]
  exact ⟨h1, by rw [typV, h1, if_pos h]⟩
theorem typC_b {e : List TNode} (h : exprF e = 0) (hu : typU e e.length = true) : typC e = 7 ∧ typV e = 0 := by
  have h1 : typC e = 7 := by rw [typC, if_neg (by simp [h]), if_pos hu]
  exact ⟨h1, by rw [typV, h1, if_pos (by decide)]⟩
theorem typC_k {e : List TNode} (h : exprF e = 0) (hu : typU e e.length = false) : typC e = 0 ∧ typV e = ownT (nA e (e.length - 1)).kind := by
  have h1 : typC e = 0 := by rw [typC, if_neg (by simp [h]), if_neg (by simp [hu])]
  exact ⟨h1, by rw [typV, h1, if_neg (by decide)]⟩
theorem typU_hit {e : List TNode} {i : Nat} (hi : i < e.length) (h : typBad e i = true) : typU e e.length = true := typU_mono (show i + 1 ≤ e.length by omega) (by rw [typU_step, h]; simp)
theorem typU_go {e : List TNode} {i : Nat} (hu : typU e i = false) (h : typBad e i = false) : typU e (i + 1) = false := by rw [typU_step, hu, h]; rfl

/-! the walk -/
def N1 (n : Nat) : List AV := [.int .i64 (n : Int)]
@[go_sem] theorem N1_eq (n : Nat) : N1 n = [.int .i64 (n : Int)] := rfl
@[go_sem] theorem N1_un (x : Nat) : (N1 x).map unown = N1 x := rfl
@[go_sem high] theorem N1_unL (l : List _) : unownLL (l.map N1) = l.map N1 := unownLL_map N1_un l
@[go_sem high] theorem N1_unM (l : List _) : (l.map N1).map (List.map unown) = l.map N1 := mapun N1_un l
@[go_sem] theorem N1_ownd (x) : owndL (N1 x) = true := by simp [N1, go_sem]
@[go_sem high] theorem N1_owndL (l : List _) : owndLL (l.map N1) = true := owndLL_map N1_ownd l
@[go_sem] theorem N1_ids (x) : idsL (N1 x) = [] := by simp [N1, go_sem]
@[go_sem high] theorem N1_idsL (l : List _) : (l.map N1).flatMap idsL = [] := flatids N1_ids l
theorem N1_tree (a) : ∀ x ∈ N1 a, x.tree = true := by simp [N1, go_sem]
@[go_sem high] theorem N1_treeL (l : List _) : (∀ c ∈ l.map N1, ∀ x ∈ c, AV.tree x = true) ↔ True := maptree N1_tree l
@[go_sem ↓ high] theorem tree_appE (a b : List (List AV)) : (∀ c ∈ a ++ b, ∀ x ∈ c, AV.tree x = true) ↔ (∀ c ∈ a, ∀ x ∈ c, AV.tree x = true) ∧ (∀ c ∈ b, ∀ x ∈ c, AV.tree x = true) := List.forall_mem_append
attribute [go_sem ↓ high] N1_treeL I1_treeL
theorem walkC_len {e : List TNode} : ∀ (f i : Nat) (out : List Nat), (walkC e f i out).length ≤ max out.length (17 + f) := by
  intro f
  induction f with
  | zero => intro i out; simp only [walkC]; omega
  | succ f ih =>
    intro i out
    simp only [walkC]
    split
    · omega
    · simp only [List.length_append, List.length_cons, List.length_nil]
      have h1 : (if 2 < (nA e i).kind then walkC e f (nA e i).left.toNat out else out).length ≤ 17 + f := by
        split
        · have := ih (nA e i).left.toNat out; omega
        · omega
      generalize (if 2 < (nA e i).kind then walkC e f (nA e i).left.toNat out else out) = o1 at *
      split
      · have := ih (nA e i).right.toNat o1; omega
      · omega
theorem wkF_len {e : List TNode} {i : Nat} {out : List Nat} (h : out.length ≤ 40) (hi : i < 17) : (wkF e i out).length ≤ 40 := by
  have := walkC_len (e := e) (i + 1) i out
  unfold wkF; omega
theorem wk_ne_len {l : List Nat} {n : Nat} (h : l.length ≠ n) : l ≠ List.range n := by rintro rfl; simp at h
theorem wk_ne_at {l : List Nat} {n i y : Nat} (h : l[i]? = some y) (hy : y ≠ i) : l ≠ List.range n := by
  rintro rfl
  obtain ⟨h1, h2⟩ := List.getElem?_eq_some_iff.1 h
  simp at h2; omega
theorem wk_eq {l : List Nat} {n : Nat} (hl : l.length = n) (h : ∀ k, k < l.length → l[k]? = some k) : l = List.range n := by
  apply List.ext_getElem?
  intro k
  by_cases hk : k < l.length
  · rw [h k hk, List.getElem?_range (by omega)]
  · rw [List.getElem?_eq_none (by omega), List.getElem?_eq_none (by simp; omega)]
theorem exprF_wk {e : List TNode} (hR : inR e.length 1 16 = true) (h : ∀ k, k < e.length → nodeAt e k = 0) : exprF e = if wkF e (e.length - 1) [] = List.range e.length then 0 else 1 := by
  have hl := inR_iff.1 hR
  rw [exprF_end hR h]
  have hw := wk_iff (e := e) (n := e.length) h (by omega) (by omega)
  by_cases h1 : wkF e (e.length - 1) [] = List.range e.length
  · have h2 := hw.1 h1
    rw [if_pos h1, if_neg (by rintro (h3 | h3) <;> simp_all)]
  · rw [if_neg h1, if_pos]
    by_cases h3 : wrongU e e.length = true
    · exact Or.inl h3
    · exact Or.inr fun h4 => h1 (hw.2 ⟨by simpa using h3, h4⟩)
end Go.AM
namespace Go.AM
theorem nS_at {p : List TStep} {i : Nat} {x : TStep} (h : p[i]? = some x) : nS p i = x := by simp [nS, List.getD, h]
@[go_sem high] theorem nlc_snoc (es : Nat) (l : List (List AV)) (c : List AV) : nlc es (l ++ [c]) = .osl es (l ++ [c]) := nlc_ne (by simp)
theorem nlc_map {α : Type} {f : α → List AV} {l : List α} (h : l ≠ []) (es : Nat) : nlc es (l.map f) = .osl es (l.map f) := nlc_ne (by simpa using h)

/-! parents -/
def nxtL (l : List Int) (par : Int) : List Int := if parF l par = 0 then l ++ [par] else l
def nxtD (l d : List Int) (par : Int) : List Int := if parF l par = 0 then d ++ [if 0 ≤ par then d.getD par.toNat 0 + 1 else 1] else d
def depsOf (l : List Int) : List Int := (List.range l.length).map fun (k : Nat) => dep l k
theorem depsOf_len (l : List Int) : (depsOf l).length = l.length := by simp [depsOf]
theorem depsOf_at {l : List Int} {k : Nat} (h : k < l.length) : (depsOf l)[k]? = some (dep l k) := by simp [depsOf, h]
theorem depsOf_get {l : List Int} {k : Nat} (h : k < l.length) : (depsOf l).getD k 0 = dep l k := by rw [List.getD, depsOf_at h]; rfl
theorem getD_last (l : List Int) (x : Int) : (l ++ [x]).getD l.length 0 = x := by simp [List.getD]
theorem dep_new {l : List Int} (hl : ParOk l) {par : Int} (h1 : -1 ≤ par) (h2 : par < l.length) : dep (l ++ [par]) l.length = if 0 ≤ par then dep l par + 1 else 1 := by
  rw [dep_eq (hl.snoc h1 h2) (Int.natCast_nonneg _) (by simp; omega), Int.toNat_natCast, getD_last]
  split
  · rw [dep_snoc hl (par.toNat + 1) par (by omega) h2 h1 h2]; omega
  · rw [dep_neg (by omega)]; rfl
theorem nxtD_deps {l : List Int} (hl : ParOk l) {par : Int} (h : parF l par = 0) : nxtD l (depsOf l) par = depsOf (l ++ [par]) := by
  obtain ⟨h1, h2, _⟩ := parF_ok h
  have hn := dep_new hl h1 h2
  rw [nxtD, if_pos h]
  conv => rhs; unfold depsOf
  rw [List.length_append, List.length_singleton, List.range_succ, List.map_append]
  congr 1
  · unfold depsOf
    apply List.map_congr_left
    intro k hk
    rw [List.mem_range] at hk
    exact (dep_snoc hl (k + 1) k (by omega) (by omega) h1 h2).symm
  · rw [List.map_singleton, hn]
    congr 1
    split
    · rw [depsOf_get (by omega)]
      rw [show ((par.toNat : Nat) : Int) = par by omega]
    · rfl
theorem nxtD_app {l : List Int} (hl : ParOk l) {par : Int} (h : parF l par = 0) : nxtD l (depsOf l) par = depsOf l ++ [dep (l ++ [par]) l.length] := by
  obtain ⟨h1, h2, _⟩ := parF_ok h
  rw [nxtD, if_pos h, dep_new hl h1 h2]
  congr 2
  split
  · rw [depsOf_get (by omega), show ((par.toNat : Nat) : Int) = par by omega]
  · rfl
theorem nxtL_app {l : List Int} {par : Int} (h : parF l par = 0) : nxtL l par = l ++ [par] := if_pos h
@[go_sem] theorem unownLL_append (a b : List (List AV)) : unownLL (a ++ b) = unownLL a ++ unownLL b := by simp [unownLL_eq]
theorem stepF_good {l : List Int} {s : TStep} (h1 : inR s.kind 1 8 = true) (h2 : alien s = false) (h3 : parF l s.par = 0) : stepF l s = if 7 < dep (l ++ [s.par]) l.length then 2 else if s.kind = 2 then nameF s.name else if s.arg < lowA s.kind ∨ highA s.kind < s.arg then 3 else if s.kind = 7 then exprF s.expr else 0 := by
  have := inR_iff.1 h1
  unfold stepF
  rw [if_neg (by rw [h2]; simp; omega), if_neg (by simp [h3])]
theorem dep_small {l : List Int} (hl : ParOk l) {a : Int} (h : a < l.length) : 0 ≤ dep l a ∧ dep l a ≤ l.length := by
  have := dep_bd hl (a + 1).toNat.succ a (by omega) h
  by_cases h0 : 0 ≤ a
  · have := this.2 h0; omega
  · rw [dep_neg (by omega)]; omega

theorem parF_not3 {l : List Int} {par : Int} (h0 : 0 < l.length) (h : ¬ parF l par = 3) : 0 ≤ par ∧ par < l.length := by
  unfold parF at h
  split at h
  · exact absurd rfl h
  · omega
/-! kids -/
theorem kidU_not {p : List TStep} {a : Int} {i : Nat} {x : TStep} (hx : p[i]? = some x) (h : ¬ (0 < i ∧ x.par = a)) : kidU p a (i + 1) = kidU p a i := by
  rw [kidU_step, nS_at hx, if_neg h, List.append_nil]
theorem kidU_yes {p : List TStep} {a : Int} {i : Nat} {x : TStep} (hx : p[i]? = some x) (h : 0 < i ∧ x.par = a) : kidU p a (i + 1) = kidU p a i ++ [(i : Int)] := by
  rw [kidU_step, nS_at hx, if_pos h]
theorem kids_len (p : List TStep) (a : Int) : (kids p a).length ≤ p.length := kidU_len p a p.length
theorem kids_end {p : List TStep} {a : Int} {i : Nat} (h : i = p.length) : kidU p a i = kids p a := by rw [h]; rfl
theorem last_at {l : List Int} (h : l ≠ []) : l[l.length - 1]? = some (lastI l) := by
  have : l.length - 1 < l.length := by have := List.length_pos_iff.2 h; omega
  rw [lastI, List.getD, List.getElem?_eq_getElem this]; rfl
theorem head_at {l : List Int} (h : l ≠ []) : l[0]? = some (headI l) := by
  cases l with
  | nil => exact absurd rfl h
  | cons x r => rfl

/-- steps that have no fault by themselves -/
structure StepsOk (p : List TStep) : Prop where
  len : 1 ≤ p.length ∧ p.length ≤ 24
  one : ∀ i, i < p.length → oneF p i = 0
theorem StepsOk.par {p : List TStep} (h : StepsOk p) : ParOk (pars p) := by
  have := ones_ok p.length (Nat.le_refl _) h.one
  rwa [List.take_of_length_le (by rw [pars_len]; exact Nat.le_refl _)] at this
theorem StepsOk.par0 {p : List TStep} (h : StepsOk p) : (nS p 0).par = -1 := by
  have h1 := parF_ok (stepF_par (h.one 0 (by have := h.len; omega)))
  simp at h1; omega
theorem StepsOk.parI {p : List TStep} (h : StepsOk p) {i : Nat} (h0 : 0 < i) (hi : i < p.length) : 0 ≤ (nS p i).par ∧ (nS p i).par < i := by
  have h1 := parF_ok (stepF_par (h.one i hi))
  have hl : ((pars p).take i).length = i := by rw [List.length_take, pars_len]; omega
  rw [hl] at h1
  exact ⟨h1.2.2 h0, h1.2.1⟩
theorem StepsOk.kids_ne {p : List TStep} (h : StepsOk p) {i : Nat} (h0 : 0 < i) (hi : i < p.length) : kids p (nS p i).par ≠ [] := by
  intro e
  have : (i : Int) ∈ kids p (nS p i).par := kids_mem.2 ⟨i, rfl, h0, hi, rfl⟩
  rw [e] at this; cases this

/-! the code of a process -/
theorem procF_len {p : List TStep} (h : inR p.length 1 24 = false) : procF p = 2 := by rw [procF, if_pos h]
theorem procF_len' {p : List TStep} (h : p.length < 1 ∨ 24 < p.length) : procF p = 2 := procF_len (inR_not.2 (by omega))
theorem procF_one {p : List TStep} {i : Nat} (hR : inR p.length 1 24 = true) (hi : i < p.length) (h : ∀ k, k < i → oneF p k = 0) (hne : oneF p i ≠ 0) : procF p = oneF p i := by
  have hs := sc_first i 0 (Nat.zero_le _) hi (fun k _ hk => h k hk) hne
  rw [procF, if_neg (by rw [hR]; decide), hs, if_pos hne]
theorem procF_shape {p : List TStep} {i : Nat} (hR : inR p.length 1 24 = true) (h1 : ∀ k, k < p.length → oneF p k = 0) (hi : i < p.length) (h : ∀ k, k < i → shapeF p k = 0) (hne : shapeF p i ≠ 0) : procF p = shapeF p i := by
  have hs := sc_first i 0 (Nat.zero_le _) hi (fun k _ hk => h k hk) hne
  rw [procF, if_neg (by rw [hR]; decide), sc_none h1, if_neg (by decide), hs, if_pos hne]
theorem procF_ty {p : List TStep} {i : Nat} (hR : inR p.length 1 24 = true) (h1 : ∀ k, k < p.length → oneF p k = 0) (h2 : ∀ k, k < p.length → shapeF p k = 0) (hi : i < p.length) (h : ∀ k, k < i → tyF p k = 0) (hne : tyF p i ≠ 0) : procF p = tyF p i := by
  have hs := sc_first i 0 (Nat.zero_le _) hi (fun k _ hk => h k hk) hne
  rw [procF, if_neg (by rw [hR]; decide), sc_none h1, if_neg (by decide), sc_none h2, if_neg (by decide), hs]
theorem procF_ok {p : List TStep} (hR : inR p.length 1 24 = true) (h1 : ∀ k, k < p.length → oneF p k = 0) (h2 : ∀ k, k < p.length → shapeF p k = 0) (h3 : ∀ k, k < p.length → tyF p k = 0) : procF p = 0 := by
  rw [procF, if_neg (by rw [hR]; decide), sc_none h1, if_neg (by decide), sc_none h2, if_neg (by decide), sc_none h3]
theorem shape_sc {p : List TStep} {i : Nat} (hi : i < p.length) (h : ∀ k, k < i → shapeF p k = 0) (hne : shapeF p i ≠ 0) : sc (shapeF p) p.length 0 = shapeF p i := sc_first i 0 (Nat.zero_le _) hi (fun k _ hk => h k hk) hne
theorem procF_shape' {p : List TStep} (hR : inR p.length 1 24 = true) (h1 : ∀ k, k < p.length → oneF p k = 0) (hne : sc (shapeF p) p.length 0 ≠ 0) : procF p = sc (shapeF p) p.length 0 := by
  rw [procF, if_neg (by rw [hR]; decide), sc_none h1, if_neg (by decide), if_pos hne]
theorem oneF_at {p : List TStep} {i : Nat} {x : TStep} (h : p[i]? = some x) : oneF p i = stepF ((pars p).take i) x := by rw [oneF, nS_at h]
theorem take_len {p : List TStep} {i : Nat} (h : i ≤ p.length) : ((pars p).take i).length = i := by rw [List.length_take, pars_len]; omega
theorem take_next {p : List TStep} {i : Nat} {x : TStep} (h : p[i]? = some x) : (pars p).take (i + 1) = (pars p).take i ++ [x.par] := by
  rw [pars_take (at_lt h), nS_at h]
/-- the parents ahead of a place -/
def parsT (p : List TStep) (i : Nat) : List Int := (pars p).take i
theorem parsT_zero (p : List TStep) : parsT p 0 = [] := by simp [parsT]
theorem parsT_len {p : List TStep} {i : Nat} (h : i ≤ p.length) : (parsT p i).length = i := take_len h
theorem parsT_next {p : List TStep} {i : Nat} {x : TStep} (h : p[i]? = some x) : parsT p (i + 1) = parsT p i ++ [x.par] := take_next h
theorem oneF_T {p : List TStep} {i : Nat} {x : TStep} (h : p[i]? = some x) : oneF p i = stepF (parsT p i) x := oneF_at h
theorem ones_T {p : List TStep} {i : Nat} (hi : i ≤ p.length) (h : ∀ k, k < i → oneF p k = 0) : ParOk (parsT p i) := ones_ok i hi h
theorem tyF_at {p : List TStep} {i : Nat} {x : TStep} (h : p[i]? = some x) : tyF p i = if typF x.cond 2 ≠ 0 then typF x.cond 2 else typF x.expr 1 := by rw [tyF, nS_at h]
theorem pars_at {p : List TStep} {i : Nat} {x : TStep} (h : p[i]? = some x) {m : Nat} (hm : i < m) : ((pars p).take m).getD i 0 = x.par := by
  simp [pars, List.getD, List.getElem?_take, hm, h]
end Go.AM
namespace Go.AM
theorem actA_nat (c : TChart) (k : Nat) : actA c k = c.acts.getD k 0 := by simp [actA]
theorem dueA_nat (c : TChart) (k : Nat) : dueA c k = c.dues.getD k 0 := by simp [dueA]
theorem getD_at {l : List Int} {k : Nat} (h : k < l.length) : l[k]? = some (l.getD k 0) := by simp [List.getD, List.getElem?_eq_getElem h]
theorem actA_at {c : TChart} {k : Int} (h : k.toNat < c.acts.length) : c.acts[k.toNat]? = some (actA c k) := getD_at h
theorem actN_at {c : TChart} {k : Nat} (h : k < c.acts.length) : c.acts[k]? = some (actA c k) := by rw [actA_nat]; exact getD_at h
theorem dueN_at {c : TChart} {k : Nat} (h : k < c.dues.length) : c.dues[k]? = some (dueA c k) := by rw [dueA_nat]; exact getD_at h
theorem smallB_iff {l : List Int} {m : Int} : smallB l m = true ↔ ∀ k, k < l.length → inR (l.getD k 0) 0 m = true := by
  unfold smallB
  rw [List.all_eq_true]
  constructor
  · intro h k hk
    have := getD_at hk
    exact h _ (List.mem_of_getElem? this)
  · intro h x hx
    obtain ⟨k, hk⟩ := List.mem_iff_getElem?.1 hx
    have := h k (List.getElem?_eq_some_iff.1 hk).1
    rwa [List.getD, hk] at this
theorem smallB_any (l : List Int) (m : Int) : (!l.any fun n => !inR n 0 m) = smallB l m := by
  unfold smallB; rw [List.all_eq_not_any_not]
theorem stepA_nat (p : List TStep) (i : Nat) : stepA p i = nS p i := by simp [stepA]
theorem kids_bd {p : List TStep} {a k : Int} (h : k ∈ kids p a) : 0 ≤ k ∧ k.toNat < p.length := by
  obtain ⟨m, rfl, h1, h2, h3⟩ := kids_mem.1 h
  exact ⟨by omega, by omega⟩
theorem cnt_kids {p : List TStep} {c : TChart} {a b : Int} (h : 0 < cnt c a (kids p b)) : kids p b ≠ [] := by
  intro e; rw [e, cnt_nil] at h; omega
theorem fits_at {p : List TStep} {c : TChart} {i : Nat} {x : TStep} (hx : p[i]? = some x) : fits p c i =
    (if actA c i = 2 ∧ (i = 0 ∨ (nS p x.par.toNat).kind ≠ 4) then false
    else if actA c i ≠ 1 then decide (cnt c 1 (kids p i) + cnt c 2 (kids p i) = 0) && decide (dueA c i = 0)
    else if x.kind = 1 ∨ x.kind = 3 then decide (cnt c 1 (kids p i) = 1) && decide (dueA c i = 0)
    else if x.kind = 4 then decide (cnt c 1 (kids p i) ≠ 0) && decide (cnt c 1 (kids p i) + cnt c 2 (kids p i) = (kids p i).length) && decide (dueA c i = 0)
    else if x.kind = 8 then decide (cnt c 1 (kids p i) = 1) && (decide (actA c (headI (kids p i)) = 1) == decide (dueA c i ≠ 0))
    else if x.kind = 6 then decide (dueA c i ≠ 0)
    else if x.kind = 7 then false
    else decide (dueA c i = 0)) := by
  unfold fits
  simp only [stepA_nat, nS_at hx]
  have e : ((i : Int) = 0) = (i = 0) := by simp
  simp only [e, stepA]
theorem wrong9_at {p : List TStep} {c : TChart} {i : Nat} {x : TStep} (hx : p[i]? = some x) : wrong9 p c i =
    (if actA c i ≠ 1 then decide (0 < cnt c 1 (kids p i) + cnt c 2 (kids p i)) || decide (dueA c i ≠ 0)
    else if x.kind = 1 ∨ x.kind = 3 then decide (cnt c 1 (kids p i) ≠ 1) || decide (0 < cnt c 2 (kids p i)) || decide (dueA c i ≠ 0)
    else if x.kind = 4 then decide (cnt c 1 (kids p i) < 1) || decide (cnt c 1 (kids p i) + cnt c 2 (kids p i) ≠ (kids p i).length) || decide (dueA c i ≠ 0)
    else if x.kind = 8 then decide (cnt c 1 (kids p i) ≠ 1) || decide (0 < cnt c 2 (kids p i)) || (decide (dueA c i ≠ 0) != decide (actA c (headI (kids p i)) = 1))
    else if x.kind = 6 then !decide (dueA c i ≠ 0)
    else if x.kind = 7 then true
    else decide (dueA c i ≠ 0)) := by
  unfold wrong9
  simp only [stepA_nat, nS_at hx]
/-- is something not 0? -/
def someNZ (c : TChart) (i : Nat) : Bool := (List.range i).any fun (k : Nat) => decide (actA c k ≠ 0) || decide (dueA c k ≠ 0)
theorem someNZ_step (c : TChart) (i : Nat) : someNZ c (i + 1) = (someNZ c i || (decide (actA c i ≠ 0) || decide (dueA c i ≠ 0))) := by
  unfold someNZ; rw [List.range_succ, List.any_append]; simp
theorem smallB_miss {l : List Int} {m : Int} {k : Nat} (hk : k < l.length) (h : inR (l.getD k 0) 0 m = false) : smallB l m = false := by
  rw [Bool.eq_false_iff]
  intro h1
  rw [smallB_iff.1 h1 k hk] at h; cases h
theorem zeros_iff {l : List Int} : zeros l = true ↔ ∀ k, k < l.length → l.getD k 0 = 0 := by
  rw [← smallB_zero, smallB_iff]
  constructor
  · intro h k hk; have := inR_iff.1 (h k hk); omega
  · intro h k hk; exact inR_iff.2 (by have := h k hk; omega)
theorem someNZ_zeros {c : TChart} {n : Nat} (h1 : c.acts.length = n) (h2 : c.dues.length = n) : someNZ c n = false ↔ (zeros c.acts = true ∧ zeros c.dues = true) := by
  rw [zeros_iff, zeros_iff, h1, h2]
  unfold someNZ
  rw [Bool.eq_false_iff]
  simp only [ne_eq, List.any_eq_true, List.mem_range, Bool.or_eq_true, decide_eq_true_eq, not_exists, not_and, not_or, Decidable.not_not, actA_nat, dueA_nat]
  constructor
  · intro h; exact ⟨fun k hk => (h k hk).1, fun k hk => (h k hk).2⟩
  · intro h k hk; exact ⟨h.1 k hk, h.2 k hk⟩
theorem someWrong_hit {p : List TStep} {c : TChart} {i : Nat} (hi : i < p.length) (h : wrong9 p c i = true) : someWrong p c p.length = true := by
  unfold someWrong
  rw [List.any_eq_true]
  exact ⟨i, List.mem_range.2 hi, h⟩
theorem allFit_miss {p : List TStep} {c : TChart} {i : Nat} (hi : i < p.length) (h : fits p c i = false) : allFit p c p.length = false := by
  unfold allFit
  rw [List.all_eq_false]
  exact ⟨i, List.mem_range.2 hi, by simpa using h⟩
/-- what the program asks last -/
def ordB (p : List TStep) (c : TChart) : Bool := if c.status ≠ 1 then zeros c.acts && zeros c.dues else allFit p c p.length && decide (actA c 0 = 1)
def chart1 (p : List TStep) (c : TChart) : Int :=
  if procF p ≠ 0 then procF p
  else if inR c.status 1 3 = false ∨ inR c.now 0 1000000 = false then 3
  else if varsF c.vars ≠ 0 then varsF c.vars
  else if c.acts.length ≠ p.length ∨ c.dues.length ≠ p.length then 2 else 0
theorem chart1_ok {p : List TStep} {c : TChart} (h : chart1 p c = 0) : procF p = 0 ∧ inR c.status 1 3 = true ∧ inR c.now 0 1000000 = true ∧ varsF c.vars = 0 ∧ c.acts.length = p.length ∧ c.dues.length = p.length := by
  unfold chart1 at h
  split at h
  · exact absurd h (by assumption)
  split at h
  · cases h
  split at h
  · exact absurd h (by assumption)
  split at h
  · cases h
  · rename_i h1 h2 h3 h4
    simp at h1 h2 h3 h4
    exact ⟨h1, h2.1, h2.2, h3, h4.1, h4.2⟩
theorem chartF_1 {p : List TStep} {c : TChart} (h : chart1 p c ≠ 0) : chartF p c = chart1 p c := by
  unfold chartF chart1 at *
  split
  · rfl
  · rename_i h1
    rw [if_neg h1] at h
    split
    · rfl
    · rename_i h2
      rw [if_neg h2] at h
      split
      · rfl
      · rename_i h3
        rw [if_neg h3] at h
        split
        · rfl
        · rename_i h4
          rw [if_neg h4] at h
          exact absurd rfl h
theorem chartF_2 {p : List TStep} {c : TChart} (h : chart1 p c = 0) : chartF p c = if smallB c.acts 2 = false ∨ smallB c.dues (c.now + 99) = false then 3
  else if c.status ≠ 1 then (if zeros c.acts = true ∧ zeros c.dues = true then 0 else 1)
  else if actA c 0 = 1 ∧ someWrong p c p.length = false then 0 else 1 := by
  obtain ⟨h1, h2, h3, h4, h5, h6⟩ := chart1_ok h
  unfold chartF
  rw [if_neg (by simp [h1]), if_neg (by simp [h2, h3]), if_neg (by simp [h4]), if_neg (by simp [h5, h6])]
theorem ProcOk.steps {p : List TStep} (h : ProcOk p) : StepsOk p := ⟨h.len, h.one⟩
theorem chartF_3 {p : List TStep} {c : TChart} (h : chart1 p c = 0) (hs : ¬ (smallB c.acts 2 = false ∨ smallB c.dues (c.now + 99) = false)) : chartF p c = if ordB p c = true then 0 else 1 := by
  have hp := procOk (chart1_ok h).1
  rw [chartF_2 h, if_neg hs]
  unfold ordB
  split
  · simp only [Bool.and_eq_true]
  · have := fits_iff (c := c) hp
    simp only [Bool.and_eq_true, decide_eq_true_eq]
    by_cases h9 : allFit p c p.length = true ∧ actA c 0 = 1
    · rw [if_pos h9, if_pos (this.1 h9)]
    · rw [if_neg h9, if_neg (fun h8 => h9 (this.2 h8))]
end Go.AM
namespace Go.AM
@[go_sem high] theorem I1_compR : (fun x => List.map unown x) ∘ I1 = I1 := rfl
@[go_sem high] theorem TNode_compR : (fun x => List.map unown x) ∘ TNode.ro = TNode.ro := by funext x; simp [TNode_ro_un]
theorem procAt_at {l : List TProc} {i : Nat} {x : TProc} (h : l[i]? = some x) : procAt l i = procF x.steps := by simp [procAt, List.getD, h]
theorem procsF_len {l : List TProc} (h : inR l.length 1 3 = false) : procsF l = 2 := by rw [procsF, if_pos h]
theorem procsF_len' {l : List TProc} (h : l.length < 1 ∨ 3 < l.length) : procsF l = 2 := procsF_len (inR_not.2 (by omega))
theorem procsF_hit {l : List TProc} {i : Nat} (hR : inR l.length 1 3 = true) (hi : i < l.length) (h : ∀ k, k < i → procAt l k = 0) (hne : procAt l i ≠ 0) : procsF l = procAt l i := by
  rw [procsF, if_neg (by rw [hR]; decide)]
  exact sc_first i 0 (Nat.zero_le _) hi (fun k _ hk => h k hk) hne
theorem procsF_ok {l : List TProc} (hR : inR l.length 1 3 = true) (h : ∀ k, k < l.length → procAt l k = 0) : procsF l = 0 := by
  rw [procsF, if_neg (by rw [hR]; decide), sc_none h]
theorem procsF_zero {l : List TProc} (h : procsF l = 0) : inR l.length 1 3 = true ∧ ∀ k, k < l.length → procAt l k = 0 := by
  unfold procsF at h
  split at h
  · cases h
  · rename_i h1; exact ⟨by simpa using h1, sc_all h⟩
theorem instAt_at {e : TEngine} {i : Nat} {x : TInst} (h : e.insts[i]? = some x) : instAt e i = instF e x := by simp [instAt, List.getD, h]
theorem stepsOf_at {e : TEngine} {x : TInst} {y : TProc} (h : e.procs[x.proc.toNat]? = some y) : stepsOf e x = y.steps := by simp [stepsOf, List.getD, h]
theorem instF_eq (e : TEngine) (x : TInst) : instF e x = if inR x.proc 0 ((e.procs.length : Int) - 1) = false then 3 else if chartF (stepsOf e x) x.chart ≠ 0 then chartF (stepsOf e x) x.chart else if x.chart.now ≠ e.now then 9 else 0 := rfl
theorem engF_hit {e : TEngine} {i : Nat} (h1 : ¬ 6 < e.insts.length) (h2 : procsF e.procs = 0) (h3 : inR e.now 0 1000000 = true) (hi : i < e.insts.length) (h : ∀ k, k < i → instAt e k = 0) (hne : instAt e i ≠ 0) : engF e = instAt e i := by
  rw [engF, if_neg h1, if_neg (by simp [h2]), if_neg (by simp [h3])]
  exact sc_first i 0 (Nat.zero_le _) hi (fun k _ hk => h k hk) hne
theorem engF_ok {e : TEngine} (h1 : ¬ 6 < e.insts.length) (h2 : procsF e.procs = 0) (h3 : inR e.now 0 1000000 = true) (h : ∀ k, k < e.insts.length → instAt e k = 0) : engF e = 0 := by
  rw [engF, if_neg h1, if_neg (by simp [h2]), if_neg (by simp [h3]), sc_none h]
end Go.AM
namespace Go.AM
/-! an argument of which more is told -/
theorem DC.argLe {P : Program} {f : FuncId} {args args' : List AV} {res : AV} {muts : List (Nat × AV)} (h : DC P f args res muts) (hl : args.length = args'.length)
    (hle : ∀ (k : Nat) x x', args[k]? = some x → args'[k]? = some x' → ∀ w lab p v, T w lab p x' v → T w lab p x v) : DC P f args' res muts := by
  refine ⟨h.body, ?_⟩
  intro w lab vals hlen hv hf
  refine h.calls w lab vals (by rw [hl]; exact hlen) ?_ hf
  intro k x v hx hv'
  have hk : k < args'.length := by rw [← hl]; exact (List.getElem?_eq_some_iff.1 hx).1
  exact hle k x _ hx (List.getElem?_eq_getElem hk) w lab _ v (hv k _ v (List.getElem?_eq_getElem hk) hv')
theorem T.ipMore {w : World} {lab : Labs} {p : Lab} {l m : List AV} {v : Value} (h : T w lab p (.ip (l ++ m)) v) : T w lab p (.ip l) v := by
  cases h with
  | imm _ _ _ h =>
    generalize hx : AV.ip (l ++ m) = y at h
    cases h with
    | ip l' b off vals hb hs hv hr =>
      cases hx
      refine .imm _ _ _ (.ip l b off vals hb hs (fun j hj => hv j (by rw [List.length_append]; omega)) ?_)
      intro j x hj
      exact hr j x (by rw [List.getElem?_append_left (List.getElem?_eq_some_iff.1 hj).1]; exact hj)
    | _ => cases hx
theorem DC.ipMore1 {P : Program} {f : FuncId} {l : List AV} {r : List AV} {res : AV} {muts : List (Nat × AV)} (m : List AV) (h : DC P f (.ip l :: r) res muts) : DC P f (.ip (l ++ m) :: r) res muts := by
  refine h.argLe (by simp) ?_
  intro k x x' hx hx' w lab p v hT
  cases k with
  | zero => simp at hx hx'; subst hx; subst hx'; exact hT.ipMore
  | succ k => simp at hx hx'; rw [hx] at hx'; cases hx'; exact hT
theorem engF_zero {e : TEngine} (h : engF e = 0) : ¬ 6 < e.insts.length ∧ procsF e.procs = 0 ∧ inR e.now 0 1000000 = true ∧ ∀ k, k < e.insts.length → instAt e k = 0 := by
  unfold engF at h
  split at h
  · cases h
  split at h
  · exact absurd h (by assumption)
  split at h
  · cases h
  · rename_i h1 h2 h3
    exact ⟨h1, by simpa using h2, by simpa using h3, sc_all h⟩
theorem inst_ok {e : TEngine} (h : engF e = 0) {i : Nat} {x : TInst} (hx : e.insts[i]? = some x) : 0 ≤ x.proc ∧ ∃ y, e.procs[x.proc.toNat]? = some y ∧ chart1 y.steps x.chart = 0 ∧ chartF y.steps x.chart = 0 := by
  obtain ⟨h1, h2, h3, h4⟩ := engF_zero h
  have hi := at_lt hx
  have h5 := h4 i hi
  rw [instAt_at hx, instF_eq] at h5
  split at h5
  · cases h5
  rename_i h6
  have h6 : inR x.proc 0 ((e.procs.length : Int) - 1) = true := by simpa using h6
  have h7 := inR_iff.1 h6
  obtain ⟨y, hy⟩ := at_some (l := e.procs) (show x.proc.toNat < e.procs.length by omega)
  refine ⟨h7.1, y, hy, ?_⟩
  rw [stepsOf_at hy] at h5
  have h8 : chartF y.steps x.chart = 0 := by
    split at h5
    · exact absurd h5 (by assumption)
    · rename_i h8; simpa using h8
  refine ⟨?_, h8⟩
  apply Classical.byContradiction
  intro h9
  rw [chartF_1 h9] at h8
  exact h9 h8
def cmpI (a b : Int) : Int := if a < b then -1 else if b < a then 1 else 0
theorem cmp_ahead (a b : TClaim) : decide (0 ≤ firstC [cmpI a.inst b.inst, cmpI a.step b.step]) = !aheadC a b := by
  unfold aheadC cmpI
  simp only [firstC_cons, firstC_nil]
  grind
theorem cmp_nn (a b : TClaim) : 0 ≤ firstC [cmpI a.inst b.inst, cmpI a.step b.step] ↔ aheadC a b = false := by
  have := cmp_ahead a b
  rw [Bool.eq_iff_iff] at this
  simpa using this
theorem openT_at {e : TEngine} {k : Nat} {x : TInst} {y : TProc} {step : Int} (hx : e.insts[k]? = some x) (hy : e.procs[x.proc.toNat]? = some y) : openT e k step = (inR step 0 ((y.steps.length : Int) - 1) && decide ((nS y.steps step.toNat).kind = 2) && decide (actA x.chart step = 1)) := by
  unfold openT
  have e1 : e.insts.getD (k : Int).toNat default = x := by simp [List.getD, hx]
  simp only [e1, stepsOf_at hy, stepA]
theorem claimF_at {d : TDesk} {i : Nat} {x z : TClaim} (hx : d.claims[i]? = some x) (hz : d.claims[i - 1]? = some z) : claimF d i = if inR x.inst 0 ((d.engine.insts.length : Int) - 1) = false ∨ inR x.user 1 9 = false then 3
  else if openT d.engine x.inst x.step = false then 4 else if 0 < i ∧ aheadC z x = false then 1 else 0 := by
  unfold claimF
  have e1 : d.claims.getD i default = x := by simp [List.getD, hx]
  have e2 : d.claims.getD (i - 1) default = z := by simp [List.getD, hz]
  simp only [e1, e2]
theorem deskF_hit {d : TDesk} {i : Nat} (h1 : engF d.engine = 0) (h2 : ¬ 60 < d.claims.length) (hi : i < d.claims.length) (h : ∀ k, k < i → claimF d k = 0) (hne : claimF d i ≠ 0) : deskF d = claimF d i := by
  rw [deskF, if_neg (by simp [h1]), if_neg h2]
  exact sc_first i 0 (Nat.zero_le _) hi (fun k _ hk => h k hk) hne
theorem deskF_ok {d : TDesk} (h1 : engF d.engine = 0) (h2 : ¬ 60 < d.claims.length) (h : ∀ k, k < d.claims.length → claimF d k = 0) : deskF d = 0 := by
  rw [deskF, if_neg (by simp [h1]), if_neg h2, sc_none h]
end Go.AM
namespace Go.AM
def TOfferResult.gok (x : TOfferResult) : Prop := x.claims.length ≤ 9223372036854775807

/-! bytes -/
@[go_sem ↓ high] theorem encB_B1 (s : List UInt8) : encB s = s.map B1 := rfl
theorem byteOfCell_B1 (b : UInt8) : byteOfCell [.int .u8 b.toNat] = some b := by
  have := b.toNat_lt
  simp [byteOfCell]; omega
theorem decB_B1 (s : List UInt8) : decB (s.map B1) = some s := decB_encB s
attribute [go_sem ↓ high] decB_B1 byteOfCell_B1
def b8 (n : Int) : UInt8 := UInt8.ofNat (n % 256).toNat
@[go_sem] theorem wrap_u8 (n : Int) : IntKind.wrap .u8 n = ((b8 n).toNat : Int) := by
  have h : (UInt8.ofNat (n % 256).toNat).toNat = (n % 256).toNat := by rw [UInt8.toNat_ofNat']; omega
  simp only [b8, h, IntKind.wrap, IntKind.bits, IntKind.signed]
  simp
  omega

/-! the digits of a mark -/
def digs : Nat → Int → List UInt8 → List UInt8
  | 0, _, acc => acc
  | n + 1, k, acc => if 0 < k then digs n (k / 10) (b8 (48 + k % 10) :: acc) else acc
def mt (k : Int) : List UInt8 := if k ≤ 0 then [109, 48] else 109 :: digs k.toNat k []
theorem digs_more : ∀ (n m : Nat) (k : Int) (acc : List UInt8), k.toNat ≤ n → k.toNat ≤ m → digs n k acc = digs m k acc := by
  intro n
  induction n with
  | zero =>
    intro m k acc h _
    have : ¬ 0 < k := by omega
    cases m with
    | zero => rfl
    | succ m => simp [digs, this]
  | succ n ih =>
    intro m k acc h h2
    cases m with
    | zero =>
      have : ¬ 0 < k := by omega
      simp [digs, this]
    | succ m =>
      simp only [digs]
      split
      · exact ih m _ _ (by omega) (by omega)
      · rfl
theorem digs_zero {n : Nat} {k : Int} {acc : List UInt8} (h : k ≤ 0) : digs n k acc = acc := by
  cases n with
  | zero => rfl
  | succ n => simp only [digs]; rw [if_neg (by omega)]
theorem digs_step {k : Int} {acc : List UInt8} (h : 0 < k) : digs k.toNat k acc = digs (k / 10).toNat (k / 10) (b8 (48 + k % 10) :: acc) := by
  obtain ⟨n, hn⟩ : ∃ n, k.toNat = n + 1 := ⟨k.toNat - 1, by omega⟩
  rw [hn]
  simp only [digs]
  rw [if_pos h]
  exact digs_more _ _ _ _ (by omega) (by omega)
theorem mt_big {k : Int} {n : Nat} (h : 0 < k) (h2 : k * 10 ^ n ≤ 4611686018427387904) : k ≤ 4611686018427387904 := by
  have h10 : (1 : Int) ≤ 10 ^ n := by have : (0 : Int) < 10 ^ n := Int.pow_pos (by omega); omega
  have := Int.mul_le_mul_of_nonneg_left h10 (show 0 ≤ k by omega)
  omega
theorem mt_step {k : Int} {n : Nat} (h : 0 < k) (h2 : k * 10 ^ n ≤ 4611686018427387904) : n ≤ 18 ∧ (k / 10) * 10 ^ (n + 1) ≤ 4611686018427387904 := by
  have h10 : (0 : Int) ≤ 10 ^ n := Int.pow_nonneg (by omega)
  refine ⟨?_, ?_⟩
  · rcases Nat.lt_or_ge 18 n with hn | hn
    · exfalso
      have e : (10 : Int) ^ n = 10 ^ 19 * 10 ^ (n - 19) := by rw [← Int.pow_add]; congr 1; omega
      have h1 : (1 : Int) ≤ 10 ^ (n - 19) := by have : (0 : Int) < 10 ^ (n - 19) := Int.pow_pos (by omega); omega
      have h3 : (10 : Int) ^ 19 * 1 ≤ 10 ^ 19 * 10 ^ (n - 19) := Int.mul_le_mul_of_nonneg_left h1 (by decide)
      have h4 : 1 * (10 : Int) ^ n ≤ k * 10 ^ n := Int.mul_le_mul_of_nonneg_right (by omega) h10
      have h5 : (10 : Int) ^ 19 * 1 = 10000000000000000000 := by decide
      omega
    · exact hn
  · have e : (k / 10) * 10 ^ (n + 1) = (k / 10 * 10) * 10 ^ n := by rw [Int.pow_succ]; rw [Int.mul_comm (10 ^ n) 10, ← Int.mul_assoc]
    rw [e]
    have : (k / 10 * 10) * 10 ^ n ≤ k * 10 ^ n := Int.mul_le_mul_of_nonneg_right (by omega) h10
    omega

/-! marks -/
def mkP {α : Type} (f : Int → α) (l : List α) (k : Int) (i : Nat) : List α := (List.range i).map (fun (j : Nat) => f (k + j)) ++ l.drop i
def mkL {α : Type} (f : Int → α) (n : Nat) (k : Int) : List α := (List.range n).map fun (j : Nat) => f (k + j)
theorem mkL_len {α : Type} {f : Int → α} {n : Nat} {k : Int} : (mkL f n k).length = n := by simp [mkL]
theorem mkP_len {α : Type} {f : Int → α} {l : List α} {k : Int} {i : Nat} (h : i ≤ l.length) : (mkP f l k i).length = l.length := by simp [mkP]; omega
theorem mkP_zero {α : Type} (f : Int → α) (l : List α) (k : Int) : mkP f l k 0 = l := by simp [mkP]
theorem mkP_end {α : Type} {f : Int → α} {l : List α} {k : Int} {i : Nat} (h : i = l.length) : mkP f l k i = mkL f l.length k := by subst h; simp [mkP, mkL]
theorem mkP_set {α : Type} {f : Int → α} {l : List α} {k : Int} {i : Nat} (h : i < l.length) : (mkP f l k i).set i (f (k + i)) = mkP f l k (i + 1) := by
  unfold mkP
  rw [List.set_append, if_neg (by simp), List.range_succ, List.map_append]
  have e2 : i - ((List.range i).map fun (j : Nat) => f (k + j)).length = 0 := by simp
  rw [e2, List.drop_eq_getElem_cons h, List.set_cons_zero, List.append_assoc]
  rfl
theorem mkP_at {α : Type} {f : Int → α} {l : List α} {k : Int} {i : Nat} {x : α} (h : l[i]? = some x) : (mkP f l k i)[i]? = some x := by
  have hi := at_lt h
  unfold mkP
  rw [List.getElem?_append_right (by simp)]
  simp [h]
end Go.AM
namespace Go.AM

section
variable {P : Program} {st : St} {K : Exit → St → Prop}

theorem RepL.shrink {w0 : World} {lab0 : Labs} {a : Act} {w : World} {lab : Labs} {loc : Locs} {id : Nat} {nd : Node} (m : Nat) (hR : RepL w0 lab0 st a w lab loc) (h1 : st.obj id = some nd) :
    RepL w0 lab0 ⟨st.n, st.slots, (id, some ⟨nd.es, nd.l.take m⟩) :: st.objs⟩ a w lab loc := by
  refine ⟨hR.size, hR.defers, hR.slots, ?_, ?_, hR.fresh, hR.ext⟩
  · intro k nk hk
    simp only [St.obj, look] at hk
    split at hk
    · rename_i e; subst e
      simp at hk; subst hk
      obtain ⟨b, base, hl, ho⟩ := hR.objs k nd h1
      refine ⟨b, base, hl, ho.hlab, ho.blk.le ?_, ?_, ?_⟩
      · have : (nd.l.take m).length ≤ nd.l.length := by rw [List.length_take]; omega
        have := Nat.mul_le_mul_right nd.es this
        simp only; omega
      · intro z hz
        exact ho.es z (List.mem_of_mem_take hz)
      · intro i2 c2 j2 z hi hj
        have hi' : nd.l[i2]? = some c2 := by
          simp only [List.getElem?_take] at hi
          split at hi
          · exact hi
          · cases hi
        exact ho.cells i2 c2 j2 z hi' hj
    · exact hR.objs k nk hk
  · intro k hk
    simp only [St.obj, look] at hk
    split at hk
    · simp at hk
    · exact hR.dead k hk

theorem AW.shrink {code : Code} (id m : Nat) {nd : Node} (h1 : st.obj id = some nd)
    (h : AW P code ⟨st.n, st.slots, (id, some ⟨nd.es, nd.l.take m⟩) :: st.objs⟩ K) : AW P code st K :=
  AW.ghost (fun _ _ _ _ ⟨lab, loc, hR⟩ => ⟨lab, loc, hR.shrink m h1⟩) h
end
end Go.AM

namespace Go.AM
def labRes (lab : Labs) : Labs := fun b => match lab b with
  | some (.res, _) => none
  | l => l
theorem labRes_res {lab : Labs} {b : Nat} {q : List (Nat × Nat)} (h : lab b = some (.res, q)) : labRes lab b = none := by simp [labRes, h]
theorem labRes_none {lab : Labs} {b : Nat} (h : lab b = none) : labRes lab b = none := by simp [labRes, h]
theorem labRes_still {lab : Labs} {b : Nat} (h : still (lab b)) : labRes lab b = lab b := by
  unfold labRes
  split
  · rename_i h2; rw [h2] at h; exact h.elim
  · rfl

/-- an answer that nobody writes into any more -/
theorem DC.frz {P : Program} {f : FuncId} {args : List AV} {res : AV} (h : DC P f args res []) : DC P f args (unown res) [] := by
  refine ⟨h.body, ?_⟩
  intro w lab vals hl hv hf
  refine (h.calls w lab vals hl hv hf).mono fun e w' he => ?_
  obtain ⟨v, lab', rfl, hT, _, hE, hfr⟩ := he
  refine ⟨v, labRes lab', rfl, .imm _ _ _ (hT.unown (fun b hb => labRes_none hb) (fun b q hb => labRes_res hb)), by simp, ?_, ?_⟩
  · refine ⟨hE.size, hE.os, hE.out, ?_, hE.blk⟩
    intro b hb hs
    obtain ⟨h1, h2⟩ := hE.kept b hb hs
    refine ⟨?_, h2⟩
    have : labRes lab' b = lab' b := labRes_still (by rw [h1]; exact hs)
    rw [this, h1]
  · intro b hb
    apply hfr
    intro hn
    exact hb (labRes_none hn)
end Go.AM

namespace Go.AM
end Go.AM
namespace Go.AM

def labFz (lab : Labs) (id : Nat) : Labs := fun b => match lab b with
  | some (.obj k, p) => if k = id then none else some (.obj k, p)
  | l => l
theorem labFz_hit {lab : Labs} {id b : Nat} {q : List (Nat × Nat)} (h : lab b = some (.obj id, q)) : labFz lab id b = none := by simp [labFz, h]
theorem labFz_none {lab : Labs} {id b : Nat} (h : lab b = none) : labFz lab id b = none := by simp [labFz, h]
theorem labFz_other {lab : Labs} {id k b : Nat} {q : List (Nat × Nat)} (h : lab b = some (.obj k, q)) (hk : k ≠ id) : labFz lab id b = some (.obj k, q) := by simp [labFz, h, hk]
theorem labFz_still {lab : Labs} {id b : Nat} (h : still (lab b)) : labFz lab id b = lab b := by
  unfold labFz
  split
  · rename_i h2; rw [h2] at h; exact h.elim
  · rfl
theorem labFz_live {lab : Labs} {id b : Nat} (h : labFz lab id b ≠ none) : lab b ≠ none := by
  intro e; exact h (labFz_none e)

section
variable {P : Program} {st : St} {K : Exit → St → Prop}

theorem RepL.freeze {w0 : World} {lab0 : Labs} {a : Act} {w : World} {lab : Labs} {loc : Locs} {s id es i len : Nat} {nd : Node} (hR : RepL w0 lab0 st a w lab loc) (h1 : st.obj id = some nd) (h2 : st.slot s = some (.sl id es i len))
    (hes : nd.es = es) (hb : i + len ≤ nd.l.length) (ht : ∀ c ∈ nd.l, ∀ x ∈ c, AV.tree x = true) :
    RepL w0 lab0 ⟨st.n, (s, .isl es (((nd.l.drop i).take len).map (·.map unown))) :: st.slots, (id, none) :: st.objs⟩ a w (labFz lab id) (fun k => if k = id then none else loc k) := by
  have hloc : ∀ k b base, (fun k => if k = id then none else loc k) k = some (b, base) → loc k = some (b, base) := by
    intro k b base h
    simp only at h
    split at h
    · cases h
    · exact h
  have hV : ∀ x v, V w lab loc x v → V w (labFz lab id) (fun k => if k = id then none else loc k) x v := fun x v hv =>
    hv.mono (fun b _ h => ⟨labFz_none h, rfl⟩) (Nat.le_refl _) fun k _ b base h => ⟨hloc k b base h, fun _ h => h⟩
  refine ⟨hR.size, hR.defers, ?_, ?_, ?_, fun b h => hR.fresh b (labFz_live h), ?_⟩
  · intro s' x hx
    simp only [St.slot, look] at hx
    split at hx
    · rename_i e; subst e
      cases hx
      obtain ⟨b, base, hl, ho⟩ := hR.objs id nd h1
      obtain ⟨c, cap, hv, k1, k2, k3⟩ := (hR.slots _ _ h2).inv_sl hl
      refine .imm _ _ ?_
      rw [hv]
      have hll : ((nd.l.drop i).take len).length = len := by simp; omega
      by_cases hz : len = 0
      · subst hz
        simp only [List.take_zero, List.map_nil]
        exact .esl _ _ _
      have hc : c = ⟨b, base + i * es, none⟩ := by rcases k2 with h | h; omega; exact h
      subst hc
      have hres := I.isl (w := w) (lab := labFz lab id) es (((nd.l.drop i).take len).map (·.map unown)) b (base + i * es) cap
        (fun i' j => (w.cell? ⟨b, base + i * es + i' * es + j, none⟩).getD undef) (labFz_hit ho.hlab) ho.blk.lt (by rw [List.length_map, hll]; exact k1)
        (by
          intro c hc
          obtain ⟨c', hc', rfl⟩ := List.mem_map.1 hc
          rw [List.length_map, ← hes]
          exact ho.es c' (List.mem_of_mem_drop (List.mem_of_mem_take hc')))
        (by
          intro c hc x hx
          obtain ⟨c', hc', rfl⟩ := List.mem_map.1 hc
          obtain ⟨y, hy, rfl⟩ := List.mem_map.1 hx
          exact unown_plain (ht c' (List.mem_of_mem_drop (List.mem_of_mem_take hc')) y hy))
        ?_ ?_
      · rw [List.length_map, hll] at hres; exact hres
      · intro i' j hi hj
        rw [List.length_map, hll] at hi
        have hi2 : i + i' < nd.l.length := by omega
        have hc : nd.l[i + i']? = some nd.l[i + i'] := List.getElem?_eq_getElem hi2
        have hcl := ho.es _ (List.mem_of_getElem? hc)
        obtain ⟨v, hv, _⟩ := ho.cells (i + i') _ j _ hc (List.getElem?_eq_getElem (by omega))
        rw [hes, Nat.add_mul, ← Nat.add_assoc] at hv
        rw [hv]; rfl
      · intro i' c j x hi hj
        simp only [List.getElem?_map, Option.map_eq_some_iff] at hi
        obtain ⟨c', hc', rfl⟩ := hi
        simp only [List.getElem?_map, Option.map_eq_some_iff] at hj
        obtain ⟨y, hy, rfl⟩ := hj
        have hc2 : nd.l[i + i']? = some c' := by
          rw [List.getElem?_take] at hc'
          split at hc'
          · rwa [List.getElem?_drop] at hc'
          · cases hc'
        obtain ⟨v, hv, hcv⟩ := ho.cells (i + i') c' j y hc2 hy
        rw [hes, Nat.add_mul, ← Nat.add_assoc] at hv
        simp only [hv, Option.getD_some]
        refine (Cell.tree hcv (ht c' (List.mem_of_getElem? hc2) y (List.mem_of_getElem? hy))).unown (fun b h => labFz_none h) ?_
        intro b' q hq
        exact labFz_hit (by rw [hq]; rfl)
    · exact hV _ _ (hR.slots s' x hx)
  · intro k nk hk
    simp only [St.obj, look] at hk
    split at hk
    · simp at hk
    · rename_i hne
      have hne' : k ≠ id := fun e => hne e
      obtain ⟨b, base, hl, ho⟩ := hR.objs k nk hk
      refine ⟨b, base, by rw [if_neg hne']; exact hl, labFz_other ho.hlab hne', ho.blk, ho.es, ?_⟩
      intro i2 c2 j2 z hi hj
      obtain ⟨v, hv, hcv⟩ := ho.cells i2 c2 j2 z hi hj
      refine ⟨v, hv, hcv.imp (hV _ _) fun hT => hT.move (fun b _ h => ⟨labFz_none h, rfl⟩) ?_ (Nat.le_refl _)⟩
      intro b' q _ hq
      exact ⟨by rw [labFz_other (k := k) (q := (Lab.app (.obj k, [(i2, j2)]) q).2) (by rw [hq]; rfl) hne']; rfl, rfl⟩
  · intro k hk
    simp only [St.obj, look] at hk
    split at hk
    · rename_i e; simp [e]
    · have := hR.dead k hk
      split
      · rfl
      · exact this
  · have e := hR.ext
    refine ⟨e.size, e.os, e.out, ?_, e.blk⟩
    intro b hb hs
    obtain ⟨k1, k2⟩ := e.kept b hb hs
    exact ⟨by rw [labFz_still (by rw [k1]; exact hs), k1], k2⟩

theorem AW.freeze {code : Code} (s id : Nat) {es i len : Nat} {nd : Node} {l' : List (List AV)} (h1 : st.obj id = some nd) (h2 : st.slot s = some (.sl id es i len)) (hes : nd.es = es) (hb : i + len ≤ nd.l.length) (ht : ∀ c ∈ nd.l, ∀ x ∈ c, AV.tree x = true)
    (hl : ((nd.l.drop i).take len).map (·.map unown) = l')
    (h : AW P code ⟨st.n, (s, .isl es l') :: st.slots, (id, none) :: st.objs⟩ K) : AW P code st K := by
  subst hl
  exact AW.ghost (fun _ _ _ _ ⟨_, _, hR⟩ => ⟨_, _, hR.freeze h1 h2 hes hb ht⟩) h
end
end Go.AM
namespace Go.AM
section
variable {P : Program} {st : St} {K : Exit → St → Prop}
end
end Go.AM
namespace Go.AM
theorem owc_cases (es : Nat) (l : List (List AV)) : (owc es l = .isl es [] ∧ l = []) ∨ (owc es l = .osl es l ∧ l ≠ []) := by
  cases l with
  | nil => exact Or.inl ⟨rfl, rfl⟩
  | cons x r => exact Or.inr ⟨rfl, by simp⟩
/-- a node's marks -/
def fN (k : Int) (x : Int) : List AV := [.int .i64 (k + 4 * x), .int .i64 (k + 4 * x + 1), .int .i64 (k + 4 * x + 2), .int .i64 (k + 4 * x + 3)]
theorem fN_eq (k : Int) (i : Nat) : fN k (0 + i) = [.int .i64 (k + 4 * (i : Int)), .int .i64 (k + 4 * (i : Int) + 1), .int .i64 (k + 4 * (i : Int) + 2), .int .i64 (k + 4 * (i : Int) + 3)] := by simp [fN]
def TStep.mn (x : TStep) : Nat := 4 + 4 * x.cond.length + 4 * x.expr.length
def mkS (l : List TStep) : Nat := (l.map TStep.mn).sum
theorem mkS_take {l : List TStep} {i : Nat} {x : TStep} (h : l[i]? = some x) : mkS (l.take (i + 1)) = mkS (l.take i) + x.mn := by
  unfold mkS; rw [List.map_take, List.map_take]; exact sum_take h
theorem mkS_le (l : List TStep) (i : Nat) : mkS (l.take i) ≤ mkS l := by
  unfold mkS; rw [List.map_take]; exact sum_le
theorem mkS_len (l : List TStep) : l.length ≤ mkS l := by
  unfold mkS
  induction l with
  | nil => simp
  | cons x l ih => simp only [List.map_cons, List.sum_cons, List.length_cons, TStep.mn] at *; omega
theorem mkS_sz (l : List TStep) : mkS l ≤ 4 * (l.length + (l.map TStep.sz).sum) := by
  unfold mkS
  induction l with
  | nil => simp
  | cons x l ih => simp only [List.map_cons, List.sum_cons, List.length_cons, TStep.mn, TStep.sz] at *; omega
end Go.AM
namespace Go.AM
theorem not_ids_set {l : List (List AV)} {i : Nat} {c : List AV} {n : Nat} (h : l.flatMap idsL = []) (hc : ¬ n ∈ idsL c) : (∀ x, x ∈ l.set i c → ¬ n ∈ idsL x) ↔ True := by
  have h' : ∀ x ∈ l, idsL x = [] := List.flatMap_eq_nil_iff.1 h
  refine ⟨fun _ => True.intro, fun _ x hx => ?_⟩
  cases List.mem_or_eq_of_mem_set hx with
  | inl hx => rw [h' x hx]; simp
  | inr e => rw [e]; exact hc
end Go.AM
namespace Go.AM
def nodeM (k : Int) : TNode := ⟨k, k + 1, k + 2, k + 3⟩
def mN (n : Nat) (k : Int) : List TNode := (List.range n).map fun (i : Nat) => nodeM (k + 4 * (i : Int))
theorem mN_len {n : Nat} {k : Int} : (mN n k).length = n := by simp [mN]
theorem mkN_end {l : List TNode} {k : Int} : mkP (fN k) (l.map TNode.ro) 0 l.length = (mN l.length k).map TNode.ro := by
  unfold mkP mN
  rw [List.drop_eq_nil_of_le (by simp), List.append_nil, List.map_map]
  apply List.map_congr_left
  intro i _
  simp [fN, nodeM, TNode.ro]
def stepM (k : Int) (x : TStep) : TStep := ⟨k, k + 1, mt (k + 2), k + 3, mN x.cond.length (k + 4), mN x.expr.length (k + 4 + 4 * (x.cond.length : Int))⟩
def mSt (k : Int) (l : List TStep) : List TStep := l.mapIdx fun j x => stepM (k + (mkS (l.take j) : Int)) x
theorem mSt_len {k : Int} {l : List TStep} : (mSt k l).length = l.length := by simp [mSt]
theorem mSt_at {k : Int} {l : List TStep} {i : Nat} {x : TStep} (h : l[i]? = some x) : (mSt k l)[i]? = some (stepM (k + (mkS (l.take i) : Int)) x) := by simp [mSt, h]
def mix {α : Type} (a b : List α) (i : Nat) : List α := a.take i ++ b.drop i
theorem mix_len {α : Type} {a b : List α} {i : Nat} (h : a.length = b.length) (hi : i ≤ b.length) : (mix a b i).length = b.length := by simp [mix]; omega
theorem mix_at {α : Type} {a b : List α} {i : Nat} {x : α} (hl : a.length = b.length) (h : b[i]? = some x) : (mix a b i)[i]? = some x := by
  have hi := at_lt h
  unfold mix
  rw [List.getElem?_append_right (by simp; omega), List.getElem?_drop]
  rw [show i + (i - (a.take i).length) = i by simp; omega]
  exact h
theorem mix_set {α : Type} {a b : List α} {i : Nat} {y : α} (hl : a.length = b.length) (h : a[i]? = some y) : (mix a b i).set i y = mix a b (i + 1) := by
  have hi := at_lt h
  unfold mix
  rw [List.set_append, if_neg (by simp; omega), show i - (a.take i).length = 0 by simp; omega, List.drop_eq_getElem_cons (by omega), List.set_cons_zero, List.take_add_one, h]
  simp
theorem mix_zero {α : Type} (a b : List α) : mix a b 0 = b := by simp [mix]
theorem mix_end {α : Type} {a b : List α} {i : Nat} (hl : a.length = b.length) (h : b.length ≤ i) : mix a b i = a := by
  unfold mix; rw [List.take_of_length_le (by omega), List.drop_eq_nil_of_le h, List.append_nil]
theorem ocids (l : List TStep) : (l.map TStep.oc).flatMap idsL = [] := flatids (f := TStep.oc) (by intro x; simp [go_sem]) l
theorem ncases (l : List TNode) : (owc 4 (l.map TNode.ro) = .isl 4 [] ∧ (∀ K, owc 4 ((mN l.length K).map TNode.ro) = .isl 4 []) ∧ l.length = 0) ∨
    (owc 4 (l.map TNode.ro) = .osl 4 (l.map TNode.ro) ∧ (∀ K, owc 4 ((mN l.length K).map TNode.ro) = .osl 4 ((mN l.length K).map TNode.ro)) ∧ 0 < l.length) := by
  cases l with
  | nil => exact Or.inl ⟨rfl, fun _ => rfl, rfl⟩
  | cons x r =>
    refine Or.inr ⟨rfl, fun K => ?_, by simp⟩
    have : (mN (x :: r).length K).map TNode.ro ≠ [] := by intro h; have := congrArg List.length h; simp [mN] at this
    rcases owc_cases 4 ((mN (x :: r).length K).map TNode.ro) with ⟨_, h⟩ | ⟨h, _⟩
    · exact absurd h this
    · exact h
end Go.AM
namespace Go.AM
/-- the first i steps, owned -/
def cpS (l : List TStep) (i : Nat) : List (List AV) := (l.take i).map TStep.oc
theorem cpS_ids (l : List TStep) (i : Nat) : (cpS l i).flatMap idsL = [] := ocids _
theorem cpS_no (l : List TStep) (i n : Nat) : (∀ x, x ∈ cpS l i → ¬ n ∈ idsL x) ↔ True := by
  have h := cpS_ids l i
  rw [List.flatMap_eq_nil_iff] at h
  exact ⟨fun _ => True.intro, fun _ x hx => by rw [h x hx]; simp⟩
theorem cpS_zero (l : List TStep) : cpS l 0 = [] := rfl
attribute [go_sem] cpS_ids cpS_no cpS_zero
end Go.AM
namespace Go.AM
/-- the first i processes, owned -/
def cpP (l : List TProc) (i : Nat) : List (List AV) := (l.take i).map fun p => [.osl 6 (p.steps.map TStep.oc)]
theorem cpP_ids (l : List TProc) (i : Nat) : (cpP l i).flatMap idsL = [] := flatids (by intro x; simp [go_sem]) _
theorem cpP_no (l : List TProc) (i n : Nat) : (∀ x, x ∈ cpP l i → ¬ n ∈ idsL x) ↔ True := by
  have h := cpP_ids l i
  rw [List.flatMap_eq_nil_iff] at h
  exact ⟨fun _ => True.intro, fun _ x hx => by rw [h x hx]; simp⟩
theorem cpP_zero (l : List TProc) : cpP l 0 = [] := rfl
attribute [go_sem] cpP_ids cpP_no cpP_zero
end Go.AM
namespace Go.AM
/-- how many marks the steps of processes take -/
def mkPr (l : List TProc) : Nat := (l.map fun p => mkS p.steps).sum
theorem mkPr_take {l : List TProc} {i : Nat} {x : TProc} (h : l[i]? = some x) : mkPr (l.take (i + 1)) = mkPr (l.take i) + mkS x.steps := by
  unfold mkPr; rw [List.take_add_one, h]; simp
theorem mkPr_le (l : List TProc) (i : Nat) : mkPr (l.take i) ≤ mkPr l := by
  unfold mkPr
  conv => rhs; rw [← List.take_append_drop i l]
  rw [List.map_append, List.sum_append]; omega
theorem mkPr_sz (l : List TProc) : mkPr l ≤ 4 * (l.map TProc.sz).sum := by
  induction l with
  | nil => simp [mkPr]
  | cons x r ih =>
    have := mkS_sz x.steps
    unfold mkPr at *
    simp only [List.map_cons, List.sum_cons]
    unfold TProc.sz at *
    omega
def procM (k : Int) (x : TProc) : TProc := ⟨mSt k x.steps⟩
def mPr (k : Int) (l : List TProc) : List TProc := l.mapIdx fun j x => procM (k + (mkPr (l.take j) : Int)) x
theorem mPr_len {k : Int} {l : List TProc} : (mPr k l).length = l.length := by simp [mPr]
theorem mPr_at {k : Int} {l : List TProc} {i : Nat} {x : TProc} (h : l[i]? = some x) : (mPr k l)[i]? = some (procM (k + (mkPr (l.take i) : Int)) x) := by simp [mPr, h]
theorem mSt_ne {K : Int} {l : List TStep} (h : l ≠ []) : (mSt K l).map TStep.oc ≠ [] := by
  intro h2; have := congrArg List.length h2; simp [mSt] at this; exact h this
theorem pcids (l : List TProc) : (l.map TProc.oc).flatMap idsL = [] := TProc_oc_idsL l
theorem pcases (l : List TStep) : (owc 6 (l.map TStep.oc) = .isl 6 [] ∧ (∀ K, owc 6 ((mSt K l).map TStep.oc) = .isl 6 []) ∧ l.length = 0 ∧ mkS l = 0) ∨
    (owc 6 (l.map TStep.oc) = .osl 6 (l.map TStep.oc) ∧ (∀ K, owc 6 ((mSt K l).map TStep.oc) = .osl 6 ((mSt K l).map TStep.oc)) ∧ 0 < l.length ∧ 0 ≤ mkS l) := by
  cases l with
  | nil => exact Or.inl ⟨rfl, fun _ => rfl, rfl, rfl⟩
  | cons x r =>
    refine Or.inr ⟨rfl, fun K => ?_, by simp, Nat.zero_le _⟩
    rcases owc_cases 6 ((mSt K (x :: r)).map TStep.oc) with ⟨_, h⟩ | ⟨h, _⟩
    · exact absurd h (mSt_ne (by simp))
    · exact h
theorem set_same {α : Type} {l : List α} {i : Nat} {a : α} (h : l[i]? = some a) : l.set i a = l := by
  obtain ⟨hi, hx⟩ := List.getElem?_eq_some_iff.1 h
  subst hx; exact List.set_getElem_self hi
end Go.AM
namespace Go.AM
end Go.AM
