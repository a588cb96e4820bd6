/- Joined texts: Am23 Pu Ty Rd T1 T2 Pv Pw M1 Px Py Pz En2 Pe Pf Pg Ph Am24 Am25 Am26 Po Pp Pr O5 O6 O7 Pt2 Pt3 Pt4 Q7 Pj. -/
import Derived.Test.YtilmgakneefdmaaGreatB1
import Derived.Test.YtilmgakneefdmaaGreatB2
import Derived.ChangeArms
import Derived.WideKeyArgs
import Derived.Test.YtilmgakneefdmaaGreatProg
set_option linter.unusedVariables false
set_option linter.unusedSimpArgs false
/-! ### Am23 -/
set_option linter.unusedVariables false
set_option linter.unusedSimpArgs false
namespace Go.AM
open Go.ChangeShapes Go.WideShapes Go.RowKit

/-- cells that read as abstract values -/
def RdC (w : World) (cs : List Value) (ys : List AV) : Prop :=
  ys.length = cs.length ∧ (∀ (j : Nat) y v, ys[j]? = some y → cs[j]? = some v → I w (fun _ => none) y v) ∧ ∀ y ∈ ys, AV.plain y = true

theorem RdC.nil {w : World} {cs : List Value} (h : cs = []) : RdC w cs [] := by subst h; exact ⟨rfl, by intro j y v h; simp at h, by simp⟩

theorem RdC.one {w : World} {v : Value} {y : AV} (h : I w (fun _ => none) y v) (hp : y.plain = true) : RdC w [v] [y] := by
  refine ⟨rfl, ?_, by simpa using hp⟩
  intro j y' v' hy hv
  cases j with
  | zero => simp at hy hv; subst hy; subst hv; exact h
  | succ j => simp at hy

theorem RdC.cons {w : World} {cs : List Value} {o s : Nat} {ys zs : List AV} (h1 : RdC w ((cs.drop o).take s) ys) (h2 : RdC w (cs.drop (o + s)) zs) : RdC w (cs.drop o) (ys ++ zs) := by
  have e : cs.drop o = (cs.drop o).take s ++ cs.drop (o + s) := by rw [← List.drop_drop, List.take_append_drop]
  rw [e]
  obtain ⟨a1, a2, a3⟩ := h1
  obtain ⟨b1, b2, b3⟩ := h2
  refine ⟨by rw [List.length_append, List.length_append, a1, b1], ?_, ?_⟩
  · intro j y v hy hv
    rw [List.getElem?_append] at hy hv
    rw [a1] at hy
    split at hy
    · rename_i h; rw [if_pos h] at hv; exact a2 j y v hy hv
    · rename_i h; rw [if_neg h] at hv; exact b2 _ y v hy hv
  · intro y hy
    rcases List.mem_append.1 hy with hy | hy
    · exact a3 y hy
    · exact b3 y hy

/-- a type's data, read -/
structure Rd (P : Program) (t : TypeId) (α : Type) (f : α → List AV) (ok : α → Prop) (n : Nat) : Prop where
  size : P.cellsOf t = n
  read : ∀ {H : Type} (enc : TypeId × Value → H) (w : World) (base : Nat) (spare : Nat → Bool) (held : Bool) (fuel : Nat) (cs : List Value) (x : DataW H × List MemPlace),
    DataW.trod enc P w base spare held fuel t cs = some x → ∃ a : α, ok a ∧ RdC w cs (f a) ∧ cs.length = n

theorem cellsOf_of {P : Program} {ti : TI} (hT : TOk P ti) {t : Nat} {i : TInfo} (h : ti t = some i) : P.cellsOf t = i.size := by
  obtain ⟨info, h1, h2, _⟩ := (hT t i h).info
  simp [Program.cellsOf, h1, h2]

section
variable {P : Program} {t : TypeId}

theorem trod_int' {k : IntKind} {H : Type} {enc : TypeId × Value → H} {w : World} {base : Nat} {spare : Nat → Bool} {held : Bool} {fuel : Nat} {cs : List Value} {x : DataW H × List MemPlace} (ht : P.underlying t = some (.int k))
    (h : DataW.trod enc P w base spare held fuel t cs = some x) : ∃ n, cs = [.int k n] ∧ (Lit.int k n).wf = true := by
  cases fuel with
  | zero => simp [DataW.trod] at h
  | succ m =>
    unfold DataW.trod at h
    rw [ht] at h
    split at h <;> simp_all

theorem Rd.int (hs : P.cellsOf t = 1) (ht : P.underlying t = some (.int .i64)) : Rd P t Int I1 (fun n => -9223372036854775808 ≤ n ∧ n ≤ 9223372036854775807) 1 := by
  refine ⟨hs, ?_⟩
  intro H enc w base spare held fuel cs x h
  obtain ⟨n, rfl, hw⟩ := trod_int' ht h
  refine ⟨n, ?_, .one (.int _ _) rfl, rfl⟩
  simp [Lit.wf, IntKind.min, IntKind.max, IntKind.bits, IntKind.signed] at hw
  first | exact hw | omega

theorem trod_str' {H : Type} {enc : TypeId × Value → H} {w : World} {base : Nat} {spare : Nat → Bool} {held : Bool} {fuel : Nat} {cs : List Value} {x : DataW H × List MemPlace} (ht : P.underlying t = some .string)
    (h : DataW.trod enc P w base spare held fuel t cs = some x) : ∃ s, cs = [.string s] ∧ s.size ≤ maxLen := by
  cases fuel with
  | zero => simp [DataW.trod] at h
  | succ m =>
    unfold DataW.trod at h
    rw [ht] at h
    split at h <;> simp_all

theorem Rd.str (hs : P.cellsOf t = 1) (ht : P.underlying t = some .string) : Rd P t (List UInt8) S1 (fun s => s.length ≤ 9223372036854775807) 1 := by
  refine ⟨hs, ?_⟩
  intro H enc w base spare held fuel cs x h
  obtain ⟨s, rfl, hw⟩ := trod_str' ht h
  refine ⟨s.data.toList, ?_, .one (I.ofString s) rfl, rfl⟩
  unfold maxLen at hw
  exact hw

theorem cell_spot {w : World} {a : Addr} {v : Value} (h : w.cell? a = some v) : a.spot = none ∧ a.block < w.heap.size := by
  unfold World.cell? at h
  split at h
  · rename_i hb
    refine ⟨?_, ?_⟩
    · split at h
      · cases h
      · rename_i hs; simpa using hs
    rcases Nat.lt_or_ge a.block w.heap.size with h1 | h1
    · exact h1
    · simp [Array.getElem?_eq_none h1] at hb
  · cases h

theorem mapM_get {α β : Type} {f : α → Option β} : ∀ {l : List α} {r : List β}, l.mapM f = some r → r.length = l.length ∧ ∀ (i : Nat) a, l[i]? = some a → f a = r[i]? := by
  intro l
  induction l with
  | nil => intro r h; simp at h; subst h; exact ⟨rfl, by intro i a h; simp at h⟩
  | cons x l ih =>
    intro r h
    simp only [List.mapM_cons, Option.bind_eq_bind] at h
    cases hx : f x with
    | none => simp [hx] at h
    | some y =>
      cases hl : l.mapM f with
      | none => simp [hx, hl] at h
      | some ys =>
        simp [hx, hl] at h
        subst h
        obtain ⟨h1, h2⟩ := ih hl
        refine ⟨by simp [h1], ?_⟩
        intro i a hi
        cases i with
        | zero => simp at hi; subst hi; simp [hx]
        | succ i => simpa using h2 i a (by simpa using hi)

theorem Rd.slice {e : TypeId} {α : Type} {f : α → List AV} {ok : α → Prop} {n : Nat} (he : Rd P e α f ok n) (hn : 0 < n) (hs : P.cellsOf t = 1) (ht : P.underlying t = some (.slice e)) :
    Rd P t (List α) (fun l => [.isl n (l.map f)]) (fun l => l.length ≤ 9223372036854775807 ∧ ∀ a ∈ l, ok a) 1 := by
  refine ⟨hs, ?_⟩
  intro H enc w base spare held fuel cs x h
  rcases DataW.trod_slice ht h with ⟨rfl, _⟩ | ⟨a, len, cap, elems, rest, m, rfl, rfl, _, hb, hlc, hcap, hel, hget, _⟩
  · exact ⟨[], ⟨Nat.zero_le _, by simp⟩, .one (.nsl _) rfl, rfl⟩
  · rw [he.size] at hget
    have hrow : ∀ i, i < len → ∃ (b : α) (vs : List Value), ok b ∧ RdC w vs (f b) ∧ vs.length = n ∧ ∀ j, j < n → w.cell? ((a.add (i * n)).add j) = vs[j]? := by
      intro i hi
      have h1 := hget i hi
      have h2 : ∃ y, elems[i]? = some y := ⟨elems[i]'(by omega), List.getElem?_eq_getElem _⟩
      obtain ⟨y, hy⟩ := h2
      rw [hy, Option.bind_eq_some_iff] at h1
      obtain ⟨vs, h3, h4⟩ := h1
      obtain ⟨b, h5, h6, h7⟩ := he.read enc w base spare held m vs y h4
      refine ⟨b, vs, h5, h6, h7, ?_⟩
      unfold World.cells? at h3
      split at h3
      · obtain ⟨_, h8⟩ := mapM_get h3
        intro j hj
        exact h8 j j (by simp [hj])
      · cases h3
    by_cases hz : len = 0
    · subst hz
      exact ⟨[], ⟨Nat.zero_le _, by simp⟩, .one (.esl _ _ _) rfl, rfl⟩
    obtain ⟨b0, vs0, hb0⟩ := hrow 0 (by omega)
    obtain ⟨g, gv, hg⟩ : ∃ (g : Nat → α) (gv : Nat → List Value), ∀ i, i < len → ok (g i) ∧ RdC w (gv i) (f (g i)) ∧ (gv i).length = n ∧ ∀ j, j < n → w.cell? ((a.add (i * n)).add j) = (gv i)[j]? := by
      refine ⟨fun i => if h : i < len then (hrow i h).choose else b0, fun i => if h : i < len then (hrow i h).choose_spec.choose else vs0, ?_⟩
      intro i hi
      simp only [dif_pos hi]
      exact (hrow i hi).choose_spec.choose_spec
    have hsp : a.spot = none ∧ a.block < w.heap.size := by
      obtain ⟨_, _, h3, h4⟩ := hg 0 (by omega)
      have h5 := h4 0 hn
      have h6 : ∃ v, (gv 0)[0]? = some v := ⟨(gv 0)[0]'(by omega), List.getElem?_eq_getElem _⟩
      obtain ⟨v, h6⟩ := h6
      rw [h6] at h5
      have h7 := cell_spot h5
      simpa [Addr.add] using h7
    obtain ⟨ab, ao, asp⟩ := a
    obtain ⟨hsp1, hsp2⟩ := hsp
    simp only at hsp1 hsp2
    subst hsp1
    simp only [addr_add] at hg
    have hmap : ∀ i, i < len → ((List.range len).map g)[i]? = some (g i) := by intro i hi; simp [hi]
    refine ⟨(List.range len).map g, ⟨by simp; unfold maxLen at hcap; omega, ?_⟩, .one ?_ rfl, rfl⟩
    · intro b hb
      obtain ⟨i, hi, rfl⟩ := List.mem_map.1 hb
      exact (hg i (by simpa using hi)).1
    · have := I.isl (w := w) (lab := fun _ => none) n (((List.range len).map g).map f) ab ao cap (fun i j => (gv i).getD j undef) rfl hsp2 (by simpa using hlc) ?_ ?_ ?_ ?_
      · simpa using this
      · intro c hc
        obtain ⟨b, hb, rfl⟩ := List.mem_map.1 hc
        obtain ⟨i, hi, rfl⟩ := List.mem_map.1 hb
        obtain ⟨_, h2, h3, _⟩ := hg i (by simpa using hi)
        rw [h2.1, h3]
      · intro c hc y hy
        obtain ⟨b, hb, rfl⟩ := List.mem_map.1 hc
        obtain ⟨i, hi, rfl⟩ := List.mem_map.1 hb
        exact (hg i (by simpa using hi)).2.1.2.2 y hy
      · intro i j hi hj
        have hi : i < len := by simpa using hi
        obtain ⟨_, h2, h3, h4⟩ := hg i hi
        rw [h4 j hj]
        simp [List.getD, h3, hj]
      · intro i c j y hi hj
        have hi' : i < len := by have := (List.getElem?_eq_some_iff.1 hi).1; simpa using this
        obtain ⟨_, h2, h3, h4⟩ := hg i hi'
        rw [List.getElem?_map, hmap i hi'] at hi
        cases hi
        have hj' : j < (gv i).length := by rw [← h2.1]; exact (List.getElem?_eq_some_iff.1 hj).1
        have := h2.2.1 j y (gv i)[j] hj (List.getElem?_eq_getElem hj')
        simpa [List.getD, hj'] using this

/-- an argument, read -/
theorem Rd.arg {α : Type} {f : α → List AV} {ok : α → Prop} {n : Nat} (h : Rd P t α f ok n) {w : World} {H : Type} {enc : TypeId × Value → H} {base : Nat} {spare : Nat → Bool} {held : Bool} {v : Value} {d : DataW H} {ps : List MemPlace}
    (hd : DataW.Trod enc P w base spare held t v d ps) : ∃ a, ok a ∧ RdC w v.cells.toList (f a) := by
  obtain ⟨fuel, hd⟩ := hd
  obtain ⟨a, h1, h2, _⟩ := h.read enc w base spare held fuel _ _ hd
  exact ⟨a, h1, h2⟩

theorem RdC.agg {w : World} {cs : Array Value} {ys : List AV} (h : RdC w cs.toList ys) : I w (fun _ => none) (.agg ys) (.agg cs) := by
  have := I.agg (w := w) (lab := fun _ => none) ys cs.toList h.1 h.2.1
  simpa using this

theorem cells_agg {w : World} {base : Nat} {fs : Array Field} {v : Value} (ht : P.underlying t = some (.struct fs)) (hv : Value.okWide P w .any base t v) : ∃ cs, v = .agg cs := by
  unfold Value.okWide at hv
  rw [ht] at hv
  obtain ⟨cs, h, _⟩ := hv
  exact ⟨cs, h⟩

/-- an argument of a struct's type -/
theorem Rd.argS {α : Type} {f : α → List AV} {ok : α → Prop} {n : Nat} (h : Rd P t α f ok n) {fs : Array Field} (ht : P.underlying t = some (.struct fs)) {w : World} {H : Type} {enc : TypeId × Value → H} {base base' : Nat} {spare : Nat → Bool} {held : Bool} {v : Value} {d : DataW H} {ps : List MemPlace}
    (hv : Value.okWide P w .any base' t v) (hd : DataW.Trod enc P w base spare held t v d ps) : ∃ a, ok a ∧ I w (fun _ => none) (.agg (f a)) v := by
  obtain ⟨cs, rfl⟩ := cells_agg ht hv
  obtain ⟨a, h1, h2⟩ := h.arg hd
  exact ⟨a, h1, h2.agg⟩

/-- an argument reads behind the call as it did -/
theorem Kept.trod {H : Type} {enc : TypeId × Value → H} (hl : laidOutB P = true) (hr : P.readableRec t = true) (hrow : t < P.types.size) {W W' : World} {v : Value} {d : DataW H} {ps : List MemPlace} (hk : Kept W W')
    (h : DataW.Trod enc P W 0 (fun _ => true) true t v d ps) (hlt : ∀ x ∈ ps, x.block < W.heap.size) {sp : Nat → Bool} (hs : ∀ p ∈ ps, sp p.block = true) : DataW.Trod enc P W' 0 sp true t v d ps := by
  refine WideElems.Trod_stays hl hr hrow h (fun x hx => ?_) hs
  cases x with
  | cell b o => exact World.cell?_of_block (w := W) (hk.heap b (hlt _ hx))
  | map b => exact hk.heap b (hlt _ hx)
end
end Go.AM

/-! ### Pu -/
set_option linter.unusedVariables false
set_option linter.unusedSimpArgs false
namespace Go.AM

theorem wrap64 {n : Int} (h1 : -9223372036854775808 ≤ n) (h2 : n ≤ 9223372036854775807) : IntKind.wrap .i64 n = n := by
  simp [IntKind.wrap, IntKind.bits, IntKind.signed]
  omega
theorem wrapi {i n : Nat} (h : i < n) (hn : n ≤ 9223372036854775807) : IntKind.wrap .i64 ((i : Int) + 1) = (i : Int) + 1 := wrap64 (by omega) (by omega)

/-! sizes -/
def subz (z : Int) (n : Nat) : Int := if z < n then -1 else z - n
theorem subz_neg {z : Int} {n : Nat} : subz z n < 0 ↔ z < n := by unfold subz; split <;> omega
theorem subz_nn {z : Int} {n : Nat} : 0 ≤ subz z n ↔ n ≤ z := by unfold subz; split <;> omega
theorem subz_ok {z : Int} {n : Nat} (h : n ≤ z) : subz z n = z - n := by unfold subz; split <;> omega
theorem subz_no {z : Int} {n : Nat} (h : z < n) : subz z n = -1 := by unfold subz; rw [if_pos h]
theorem sum_take {α : Type} {l : List α} {i : Nat} {x : α} {f : α → Nat} (h : l[i]? = some x) : ((l.map f).take (i + 1)).sum = ((l.map f).take i).sum + f x := by
  rw [List.take_add_one, List.getElem?_map, h]; simp
theorem sum_le {α : Type} {f : α → Nat} {l : List α} {i : Nat} : ((l.map f).take i).sum ≤ (l.map f).sum := by
  conv => rhs; rw [← List.take_append_drop i (l.map f), List.sum_append]
  omega
theorem sum_mem {α : Type} {f : α → Nat} {l : List α} {x : α} (h : x ∈ l) : f x ≤ (l.map f).sum := by
  induction l with
  | nil => cases h
  | cons y l ih =>
    simp only [List.map_cons, List.sum_cons]
    rcases List.mem_cons.1 h with rfl | h
    · omega
    · have := ih h; omega
theorem at_some {α : Type} {l : List α} {i : Nat} (h : i < l.length) : ∃ x, l[i]? = some x := ⟨l[i], List.getElem?_eq_getElem h⟩
theorem at_lt {α : Type} {l : List α} {i : Nat} {x : α} (h : l[i]? = some x) : i < l.length := (List.getElem?_eq_some_iff.1 h).1

/-! equal slices -/
theorem eq_ne_len {α : Type} [DecidableEq α] {a b : List α} (h : ¬ a.length = b.length) : decide (a = b) = false := by
  rw [decide_eq_false_iff_not]; rintro rfl; exact h rfl
theorem eq_ne_at {α : Type} [DecidableEq α] {a b : List α} {i : Nat} {x y : α} (hx : a[i]? = some x) (hy : b[i]? = some y) (h : ¬ x = y) : decide (a = b) = false := by
  rw [decide_eq_false_iff_not]; rintro rfl; rw [hx] at hy; cases hy; exact h rfl
theorem eq_end {α : Type} [DecidableEq α] {a b : List α} {i : Nat} (hl : a.length = b.length) (h : a.take i = b.take i) (hi : a.length ≤ i) : decide (a = b) = true := by
  rw [decide_eq_true_eq]; rwa [List.take_of_length_le hi, List.take_of_length_le (by omega)] at h
theorem take_step {α : Type} {a b : List α} {i : Nat} {x y : α} (hx : a[i]? = some x) (hy : b[i]? = some y) (e : x = y) (h : a.take i = b.take i) : a.take (i + 1) = b.take (i + 1) := by
  rw [List.take_add_one, List.take_add_one, h, hx, hy, e]

/-! slices that are filled -/
def fill {α : Type} (f : α → List AV) (z : List AV) (l : List α) (i : Nat) : List (List AV) := (l.take i).map f ++ List.replicate (l.length - i) z
theorem fill_len {α : Type} {f : α → List AV} {z : List AV} {l : List α} {i : Nat} (h : i ≤ l.length) : (fill f z l i).length = l.length := by simp [fill]; omega
theorem fill_at {α : Type} {f : α → List AV} {z : List AV} {l : List α} {i : Nat} (h : i < l.length) : (fill f z l i)[i]? = some z := by
  unfold fill
  rw [List.getElem?_append_right (by simp; omega), List.getElem?_replicate, if_pos (by simp; omega)]
theorem fill_set {α : Type} {f : α → List AV} {z : List AV} {l : List α} {i : Nat} {x : α} (h : l[i]? = some x) : (fill f z l i).set i (f x) = fill f z l (i + 1) := by
  obtain ⟨hi, hx⟩ := List.getElem?_eq_some_iff.1 h
  unfold fill
  have e : l.length - i = (l.length - (i + 1)) + 1 := by omega
  rw [e, List.replicate_succ, List.set_append, if_neg (by simp; omega), List.take_add_one, h]
  have e2 : i - ((l.take i).map f).length = 0 := by simp; omega
  rw [e2]
  simp
theorem fill_zero {α : Type} (f : α → List AV) (z : List AV) (l : List α) : fill f z l 0 = List.replicate l.length z := by simp [fill]
theorem fill_end {α : Type} {f : α → List AV} {z : List AV} {l : List α} {i : Nat} (h : l.length ≤ i) : fill f z l i = l.map f := by
  unfold fill; rw [List.take_of_length_le h, show l.length - i = 0 by omega]; simp
theorem fill_ids {α : Type} {f : α → List AV} {z : List AV} {l : List α} {i : Nat} (hf : ∀ x, idsL (f x) = []) (hz : idsL z = []) : (fill f z l i).flatMap idsL = [] := by
  unfold fill
  rw [List.flatMap_append, flatids hf]
  simp [hz]

def TStep.gok (x : TStep) : Prop := x.name.length ≤ 9223372036854775807 ∧ x.cond.length ≤ 9223372036854775807 ∧ x.expr.length ≤ 9223372036854775807
def TChart.gok (x : TChart) : Prop := x.vars.length ≤ 9223372036854775807 ∧ x.acts.length ≤ 9223372036854775807 ∧ x.dues.length ≤ 9223372036854775807
def TProc.gok (x : TProc) : Prop := (x.steps.length ≤ 9223372036854775807 ∧ ∀ e ∈ x.steps, e.gok)
def TInst.gok (x : TInst) : Prop := x.chart.gok
def TEngine.gok (x : TEngine) : Prop := (x.procs.length ≤ 9223372036854775807 ∧ ∀ e ∈ x.procs, e.gok) ∧ (x.insts.length ≤ 9223372036854775807 ∧ ∀ e ∈ x.insts, e.gok)
def TDesk.gok (x : TDesk) : Prop := x.engine.gok ∧ x.claims.length ≤ 9223372036854775807
end Go.AM

/-! ### Ty -/
set_option linter.unusedVariables false
set_option linter.unusedSimpArgs false
namespace Go.AM
open Go.Proofs

def i2 : TInfo := ⟨(.int .i64), 1, 8, some [.int .i64 0], false⟩
theorem tyok2 : TOk1 Tryz.prog 2 i2 := tok1 Tryz.typeInfo2 rfl rfl (tz1 _ rfl rfl rfl rfl) Tryz.underlying2 (fun h => absurd h (by decide))
def i3 : TInfo := ⟨(.int .i64), 1, 8, some [.int .i64 0], false⟩
theorem tyok3 : TOk1 Tryz.prog 3 i3 := tok1 Tryz.typeInfo3 rfl rfl (tz1 _ rfl rfl rfl rfl) Tryz.underlying3 (fun h => absurd h (by decide))
def i4 : TInfo := ⟨.bool, 1, 1, some [.bool false], false⟩
theorem tyok4 : TOk1 Tryz.prog 4 i4 := tok1 Tryz.typeInfo4 rfl rfl (tz1 _ rfl rfl rfl rfl) Tryz.underlying4 (fun h => absurd h (by decide))
def i5 : TInfo := ⟨(.int .u8), 1, 1, some [.int .u8 0], false⟩
theorem tyok5 : TOk1 Tryz.prog 5 i5 := tok1 Tryz.typeInfo5 rfl rfl (tz1 _ rfl rfl rfl rfl) Tryz.underlying5 (fun h => absurd h (by decide))
def i9 : TInfo := ⟨.str, 1, 16, some [.str []], false⟩
theorem tyok9 : TOk1 Tryz.prog 9 i9 := tok1 Tryz.typeInfo9 rfl rfl (tz1 _ rfl rfl rfl rfl) Tryz.underlying9 (fun h => absurd h (by decide))
def i21 : TInfo := ⟨(.int .i32), 1, 4, some [.int .i32 0], false⟩
theorem tyok21 : TOk1 Tryz.prog 21 i21 := tok1 Tryz.typeInfo21 rfl rfl (tz1 _ rfl rfl rfl rfl) Tryz.underlying21 (fun h => absurd h (by decide))
def i22 : TInfo := ⟨(.slice 77), 1, 24, some [.nils], false⟩
theorem tyok22 : TOk1 Tryz.prog 22 i22 := tok1 Tryz.typeInfo22 rfl rfl (tz1 _ rfl rfl rfl rfl) Tryz.underlying22 (fun h => absurd h (by decide))
def i24 : TInfo := ⟨(.slice 82), 1, 24, some [.nils], false⟩
theorem tyok24 : TOk1 Tryz.prog 24 i24 := tok1 Tryz.typeInfo24 rfl rfl (tz1 _ rfl rfl rfl rfl) Tryz.underlying24 (fun h => absurd h (by decide))
def i25 : TInfo := ⟨(.slice 110), 1, 24, some [.nils], false⟩
theorem tyok25 : TOk1 Tryz.prog 25 i25 := tok1 Tryz.typeInfo25 rfl rfl (tz1 _ rfl rfl rfl rfl) Tryz.underlying25 (fun h => absurd h (by decide))
def i27 : TInfo := ⟨(.struct [(0, 24), (1, 25), (2, 2)]), 3, 56, some [.nils, .nils, .int .i64 0], false⟩
theorem tyok27 : TOk1 Tryz.prog 27 i27 := tok1 Tryz.typeInfo27 rfl rfl (tz1 _ rfl rfl rfl rfl) (kstruct Tryz.underlying27 rfl) (fun h => absurd h (by decide))
def i28 : TInfo := ⟨(.slice 96), 1, 24, some [.nils], false⟩
theorem tyok28 : TOk1 Tryz.prog 28 i28 := tok1 Tryz.typeInfo28 rfl rfl (tz1 _ rfl rfl rfl rfl) Tryz.underlying28 (fun h => absurd h (by decide))
def i30 : TInfo := ⟨(.struct [(0, 27), (3, 28)]), 4, 80, some [.nils, .nils, .int .i64 0, .nils], false⟩
theorem tyok30 : TOk1 Tryz.prog 30 i30 := tok1 Tryz.typeInfo30 rfl rfl (tz1 _ rfl rfl rfl rfl) (kstruct Tryz.underlying30 rfl) (fun h => absurd h (by decide))
def i31 : TInfo := ⟨(.slice 5), 1, 24, some [.nils], false⟩
theorem tyok31 : TOk1 Tryz.prog 31 i31 := tok1 Tryz.typeInfo31 rfl rfl (tz1 _ rfl rfl rfl rfl) Tryz.underlying31 (fun h => absurd h (by decide))
def i33 : TInfo := ⟨(.struct [(0, 31), (1, 31)]), 2, 48, some [.nils, .nils], false⟩
theorem tyok33 : TOk1 Tryz.prog 33 i33 := tok1 Tryz.typeInfo33 rfl rfl (tz1 _ rfl rfl rfl rfl) (kstruct Tryz.underlying33 rfl) (fun h => absurd h (by decide))
def i35 : TInfo := ⟨(.struct [(0, 30), (4, 33)]), 6, 128, some [.nils, .nils, .int .i64 0, .nils, .nils, .nils], false⟩
theorem tyok35 : TOk1 Tryz.prog 35 i35 := tok1 Tryz.typeInfo35 rfl rfl (tz1 _ rfl rfl rfl rfl) (kstruct Tryz.underlying35 rfl) (fun h => absurd h (by decide))
def i37 : TInfo := ⟨(.struct [(0, 2), (1, 2), (2, 2), (3, 35)]), 9, 152, some [.int .i64 0, .int .i64 0, .int .i64 0, .nils, .nils, .int .i64 0, .nils, .nils, .nils], false⟩
theorem tyok37 : TOk1 Tryz.prog 37 i37 := tok1 Tryz.typeInfo37 rfl rfl (tz1 _ rfl rfl rfl rfl) (kstruct Tryz.underlying37 rfl) (fun h => absurd h (by decide))
def i45 : TInfo := ⟨(.slice 156), 1, 24, some [.nils], false⟩
theorem tyok45 : TOk1 Tryz.prog 45 i45 := tok1 Tryz.typeInfo45 rfl rfl (tz1 _ rfl rfl rfl rfl) Tryz.underlying45 (fun h => absurd h (by decide))
def i47 : TInfo := ⟨(.struct [(0, 22), (1, 45), (2, 2)]), 3, 56, some [.nils, .nils, .int .i64 0], false⟩
theorem tyok47 : TOk1 Tryz.prog 47 i47 := tok1 Tryz.typeInfo47 rfl rfl (tz1 _ rfl rfl rfl rfl) (kstruct Tryz.underlying47 rfl) (fun h => absurd h (by decide))
def i48 : TInfo := ⟨(.slice 148), 1, 24, some [.nils], false⟩
theorem tyok48 : TOk1 Tryz.prog 48 i48 := tok1 Tryz.typeInfo48 rfl rfl (tz1 _ rfl rfl rfl rfl) Tryz.underlying48 (fun h => absurd h (by decide))
def i50 : TInfo := ⟨(.struct [(0, 47), (3, 48)]), 4, 80, some [.nils, .nils, .int .i64 0, .nils], false⟩
theorem tyok50 : TOk1 Tryz.prog 50 i50 := tok1 Tryz.typeInfo50 rfl rfl (tz1 _ rfl rfl rfl rfl) (kstruct Tryz.underlying50 rfl) (fun h => absurd h (by decide))
def i58 : TInfo := ⟨(.struct [(0, 2), (1, 2), (2, 27)]), 5, 72, some [.int .i64 0, .int .i64 0, .nils, .nils, .int .i64 0], false⟩
theorem tyok58 : TOk1 Tryz.prog 58 i58 := tok1 Tryz.typeInfo58 rfl rfl (tz1 _ rfl rfl rfl rfl) (kstruct Tryz.underlying58 rfl) (fun h => absurd h (by decide))
def i67 : TInfo := ⟨(.struct [(0, 2), (1, 28)]), 2, 32, some [.int .i64 0, .nils], false⟩
theorem tyok67 : TOk1 Tryz.prog 67 i67 := tok1 Tryz.typeInfo67 rfl rfl (tz1 _ rfl rfl rfl rfl) (kstruct Tryz.underlying67 rfl) (fun h => absurd h (by decide))
def i75 : TInfo := ⟨(.slice 168), 1, 24, some [.nils], false⟩
theorem tyok75 : TOk1 Tryz.prog 75 i75 := tok1 Tryz.typeInfo75 rfl rfl (tz1 _ rfl rfl rfl rfl) Tryz.underlying75 (fun h => absurd h (by decide))
def i77 : TInfo := ⟨(.struct [(0, 75)]), 1, 24, some [.nils], false⟩
theorem tyok77 : TOk1 Tryz.prog 77 i77 := tok1 Tryz.typeInfo77 rfl rfl (tz1 _ rfl rfl rfl rfl) (kstruct Tryz.underlying77 rfl) (fun h => absurd h (by decide))
def i80 : TInfo := ⟨(.slice 140), 1, 24, some [.nils], false⟩
theorem tyok80 : TOk1 Tryz.prog 80 i80 := tok1 Tryz.typeInfo80 rfl rfl (tz1 _ rfl rfl rfl rfl) Tryz.underlying80 (fun h => absurd h (by decide))
def i82 : TInfo := ⟨(.struct [(0, 80)]), 1, 24, some [.nils], false⟩
theorem tyok82 : TOk1 Tryz.prog 82 i82 := tok1 Tryz.typeInfo82 rfl rfl (tz1 _ rfl rfl rfl rfl) (kstruct Tryz.underlying82 rfl) (fun h => absurd h (by decide))
def i90 : TInfo := ⟨(.pointer 30), 1, 8, some [.nilp], false⟩
theorem tyok90 : TOk1 Tryz.prog 90 i90 := tok1 Tryz.typeInfo90 rfl rfl (tz1 _ rfl rfl rfl rfl) Tryz.underlying90 (fun h => absurd h (by decide))
def i96 : TInfo := ⟨(.struct [(0, 2), (1, 2), (2, 2)]), 3, 24, some [.int .i64 0, .int .i64 0, .int .i64 0], true⟩
theorem tyok96 : TOk1 Tryz.prog 96 i96 := tok1 Tryz.typeInfo96 rfl rfl (tz1 _ rfl rfl rfl rfl) (kstruct Tryz.underlying96 rfl) (fun _ => flatEq (fs := [{ name := "Inst", type := 2, offset := 0, embedded := false, tag := "", pkgPath := "", byteOffset := 0 }, { name := "Step", type := 2, offset := 1, embedded := false, tag := "", pkgPath := "", byteOffset := 8 }, { name := "User", type := 2, offset := 2, embedded := false, tag := "", pkgPath := "", byteOffset := 16 }]) (by kernel_rfl) (by kernel_rfl) (by kernel_rfl) (by kernel_rfl) rfl (by intro j f h; match j, h with | 0, h => (cases h; exact ⟨rfl, by decide, Tryz.underlying2⟩) | 1, h => (cases h; exact ⟨rfl, by decide, Tryz.underlying2⟩) | 2, h => (cases h; exact ⟨rfl, by decide, Tryz.underlying2⟩) | (n + 3), h => simp at h))
def i104 : TInfo := ⟨(.pointer 27), 1, 8, some [.nilp], false⟩
theorem tyok104 : TOk1 Tryz.prog 104 i104 := tok1 Tryz.typeInfo104 rfl rfl (tz1 _ rfl rfl rfl rfl) Tryz.underlying104 (fun h => absurd h (by decide))
def i106 : TInfo := ⟨(.slice 2), 1, 24, some [.nils], false⟩
theorem tyok106 : TOk1 Tryz.prog 106 i106 := tok1 Tryz.typeInfo106 rfl rfl (tz1 _ rfl rfl rfl rfl) Tryz.underlying106 (fun h => absurd h (by decide))
def i108 : TInfo := ⟨(.struct [(0, 2), (1, 2), (2, 106), (3, 106), (4, 106)]), 5, 88, some [.int .i64 0, .int .i64 0, .nils, .nils, .nils], false⟩
theorem tyok108 : TOk1 Tryz.prog 108 i108 := tok1 Tryz.typeInfo108 rfl rfl (tz1 _ rfl rfl rfl rfl) (kstruct Tryz.underlying108 rfl) (fun h => absurd h (by decide))
def i110 : TInfo := ⟨(.struct [(0, 2), (1, 108)]), 6, 96, some [.int .i64 0, .int .i64 0, .int .i64 0, .nils, .nils, .nils], false⟩
theorem tyok110 : TOk1 Tryz.prog 110 i110 := tok1 Tryz.typeInfo110 rfl rfl (tz1 _ rfl rfl rfl rfl) (kstruct Tryz.underlying110 rfl) (fun h => absurd h (by decide))
def i113 : TInfo := ⟨(.pointer 108), 1, 8, some [.nilp], false⟩
theorem tyok113 : TOk1 Tryz.prog 113 i113 := tok1 Tryz.typeInfo113 rfl rfl (tz1 _ rfl rfl rfl rfl) Tryz.underlying113 (fun h => absurd h (by decide))
def i117 : TInfo := ⟨(.pointer 120), 1, 8, some [.nilp], false⟩
theorem tyok117 : TOk1 Tryz.prog 117 i117 := tok1 Tryz.typeInfo117 rfl rfl (tz1 _ rfl rfl rfl rfl) Tryz.underlying117 (fun h => absurd h (by decide))
def i120 : TInfo := ⟨(.struct [(0, 80), (1, 108)]), 6, 112, some [.nils, .int .i64 0, .int .i64 0, .nils, .nils, .nils], false⟩
theorem tyok120 : TOk1 Tryz.prog 120 i120 := tok1 Tryz.typeInfo120 rfl rfl (tz1 _ rfl rfl rfl rfl) (kstruct Tryz.underlying120 rfl) (fun h => absurd h (by decide))
def i138 : TInfo := ⟨(.slice 175), 1, 24, some [.nils], false⟩
theorem tyok138 : TOk1 Tryz.prog 138 i138 := tok1 Tryz.typeInfo138 rfl rfl (tz1 _ rfl rfl rfl rfl) Tryz.underlying138 (fun h => absurd h (by decide))
def i140 : TInfo := ⟨(.struct [(0, 2), (1, 2), (2, 9), (3, 2), (4, 138), (5, 138)]), 6, 88, some [.int .i64 0, .int .i64 0, .str [], .int .i64 0, .nils, .nils], false⟩
theorem tyok140 : TOk1 Tryz.prog 140 i140 := tok1 Tryz.typeInfo140 rfl rfl (tz1 _ rfl rfl rfl rfl) (kstruct Tryz.underlying140 rfl) (fun h => absurd h (by decide))
def i148 : TInfo := ⟨(.struct [(0, 2), (1, 2), (2, 2)]), 3, 24, some [.int .i64 0, .int .i64 0, .int .i64 0], true⟩
theorem tyok148 : TOk1 Tryz.prog 148 i148 := tok1 Tryz.typeInfo148 rfl rfl (tz1 _ rfl rfl rfl rfl) (kstruct Tryz.underlying148 rfl) (fun _ => flatEq (fs := [{ name := "Inst", type := 2, offset := 0, embedded := false, tag := "", pkgPath := "", byteOffset := 0 }, { name := "Step", type := 2, offset := 1, embedded := false, tag := "", pkgPath := "", byteOffset := 8 }, { name := "User", type := 2, offset := 2, embedded := false, tag := "", pkgPath := "", byteOffset := 16 }]) (by kernel_rfl) (by kernel_rfl) (by kernel_rfl) (by kernel_rfl) rfl (by intro j f h; match j, h with | 0, h => (cases h; exact ⟨rfl, by decide, Tryz.underlying2⟩) | 1, h => (cases h; exact ⟨rfl, by decide, Tryz.underlying2⟩) | 2, h => (cases h; exact ⟨rfl, by decide, Tryz.underlying2⟩) | (n + 3), h => simp at h))
def i154 : TInfo := ⟨(.struct [(0, 2), (1, 2), (2, 106), (3, 106), (4, 106)]), 5, 88, some [.int .i64 0, .int .i64 0, .nils, .nils, .nils], false⟩
theorem tyok154 : TOk1 Tryz.prog 154 i154 := tok1 Tryz.typeInfo154 rfl rfl (tz1 _ rfl rfl rfl rfl) (kstruct Tryz.underlying154 rfl) (fun h => absurd h (by decide))
def i156 : TInfo := ⟨(.struct [(0, 2), (1, 154)]), 6, 96, some [.int .i64 0, .int .i64 0, .int .i64 0, .nils, .nils, .nils], false⟩
theorem tyok156 : TOk1 Tryz.prog 156 i156 := tok1 Tryz.typeInfo156 rfl rfl (tz1 _ rfl rfl rfl rfl) (kstruct Tryz.underlying156 rfl) (fun h => absurd h (by decide))
def i163 : TInfo := ⟨(.pointer 110), 1, 8, some [.nilp], false⟩
theorem tyok163 : TOk1 Tryz.prog 163 i163 := tok1 Tryz.typeInfo163 rfl rfl (tz1 _ rfl rfl rfl rfl) Tryz.underlying163 (fun h => absurd h (by decide))
def i166 : TInfo := ⟨(.slice 211), 1, 24, some [.nils], false⟩
theorem tyok166 : TOk1 Tryz.prog 166 i166 := tok1 Tryz.typeInfo166 rfl rfl (tz1 _ rfl rfl rfl rfl) Tryz.underlying166 (fun h => absurd h (by decide))
def i168 : TInfo := ⟨(.struct [(0, 2), (1, 2), (2, 9), (3, 2), (4, 166), (5, 166)]), 6, 88, some [.int .i64 0, .int .i64 0, .str [], .int .i64 0, .nils, .nils], false⟩
theorem tyok168 : TOk1 Tryz.prog 168 i168 := tok1 Tryz.typeInfo168 rfl rfl (tz1 _ rfl rfl rfl rfl) (kstruct Tryz.underlying168 rfl) (fun h => absurd h (by decide))
def i175 : TInfo := ⟨(.struct [(0, 2), (1, 2), (2, 2), (3, 2)]), 4, 32, some [.int .i64 0, .int .i64 0, .int .i64 0, .int .i64 0], true⟩
theorem tyok175 : TOk1 Tryz.prog 175 i175 := tok1 Tryz.typeInfo175 rfl rfl (tz1 _ rfl rfl rfl rfl) (kstruct Tryz.underlying175 rfl) (fun _ => flatEq (fs := [{ name := "Kind", type := 2, offset := 0, embedded := false, tag := "", pkgPath := "", byteOffset := 0 }, { name := "Value", type := 2, offset := 1, embedded := false, tag := "", pkgPath := "", byteOffset := 8 }, { name := "Left", type := 2, offset := 2, embedded := false, tag := "", pkgPath := "", byteOffset := 16 }, { name := "Right", type := 2, offset := 3, embedded := false, tag := "", pkgPath := "", byteOffset := 24 }]) (by kernel_rfl) (by kernel_rfl) (by kernel_rfl) (by kernel_rfl) rfl (by intro j f h; match j, h with | 0, h => (cases h; exact ⟨rfl, by decide, Tryz.underlying2⟩) | 1, h => (cases h; exact ⟨rfl, by decide, Tryz.underlying2⟩) | 2, h => (cases h; exact ⟨rfl, by decide, Tryz.underlying2⟩) | 3, h => (cases h; exact ⟨rfl, by decide, Tryz.underlying2⟩) | (n + 4), h => simp at h))
def i181 : TInfo := ⟨(.slice 3), 1, 24, some [.nils], false⟩
theorem tyok181 : TOk1 Tryz.prog 181 i181 := tok1 Tryz.typeInfo181 rfl rfl (tz1 _ rfl rfl rfl rfl) Tryz.underlying181 (fun h => absurd h (by decide))
def i186 : TInfo := ⟨(.int .u64), 1, 8, some [.int .u64 0], false⟩
theorem tyok186 : TOk1 Tryz.prog 186 i186 := tok1 Tryz.typeInfo186 rfl rfl (tz1 _ rfl rfl rfl rfl) Tryz.underlying186 (fun h => absurd h (by decide))
def i191 : TInfo := ⟨(.pointer 193), 1, 8, some [.nilp], false⟩
theorem tyok191 : TOk1 Tryz.prog 191 i191 := tok1 Tryz.typeInfo191 rfl rfl (tz1 _ rfl rfl rfl rfl) Tryz.underlying191 (fun h => absurd h (by decide))
def i193 : TInfo := ⟨(.struct [(0, 106), (1, 106)]), 2, 48, some [.nils, .nils], false⟩
theorem tyok193 : TOk1 Tryz.prog 193 i193 := tok1 Tryz.typeInfo193 rfl rfl (tz1 _ rfl rfl rfl rfl) (kstruct Tryz.underlying193 rfl) (fun h => absurd h (by decide))
def i201 : TInfo := ⟨(.pointer 140), 1, 8, some [.nilp], false⟩
theorem tyok201 : TOk1 Tryz.prog 201 i201 := tok1 Tryz.typeInfo201 rfl rfl (tz1 _ rfl rfl rfl rfl) Tryz.underlying201 (fun h => absurd h (by decide))
def i211 : TInfo := ⟨(.struct [(0, 2), (1, 2), (2, 2), (3, 2)]), 4, 32, some [.int .i64 0, .int .i64 0, .int .i64 0, .int .i64 0], true⟩
theorem tyok211 : TOk1 Tryz.prog 211 i211 := tok1 Tryz.typeInfo211 rfl rfl (tz1 _ rfl rfl rfl rfl) (kstruct Tryz.underlying211 rfl) (fun _ => flatEq (fs := [{ name := "Kind", type := 2, offset := 0, embedded := false, tag := "", pkgPath := "", byteOffset := 0 }, { name := "Value", type := 2, offset := 1, embedded := false, tag := "", pkgPath := "", byteOffset := 8 }, { name := "Left", type := 2, offset := 2, embedded := false, tag := "", pkgPath := "", byteOffset := 16 }, { name := "Right", type := 2, offset := 3, embedded := false, tag := "", pkgPath := "", byteOffset := 24 }]) (by kernel_rfl) (by kernel_rfl) (by kernel_rfl) (by kernel_rfl) rfl (by intro j f h; match j, h with | 0, h => (cases h; exact ⟨rfl, by decide, Tryz.underlying2⟩) | 1, h => (cases h; exact ⟨rfl, by decide, Tryz.underlying2⟩) | 2, h => (cases h; exact ⟨rfl, by decide, Tryz.underlying2⟩) | 3, h => (cases h; exact ⟨rfl, by decide, Tryz.underlying2⟩) | (n + 4), h => simp at h))
def i216 : TInfo := ⟨(.struct [(0, 2), (1, 2)]), 2, 16, some [.int .i64 0, .int .i64 0], true⟩
theorem tyok216 : TOk1 Tryz.prog 216 i216 := tok1 Tryz.typeInfo216 rfl rfl (tz1 _ rfl rfl rfl rfl) (kstruct Tryz.underlying216 rfl) (fun _ => flatEq (fs := [{ name := "Code", type := 2, offset := 0, embedded := false, tag := "", pkgPath := "", byteOffset := 0 }, { name := "Value", type := 2, offset := 1, embedded := false, tag := "", pkgPath := "", byteOffset := 8 }]) (by kernel_rfl) (by kernel_rfl) (by kernel_rfl) (by kernel_rfl) rfl (by intro j f h; match j, h with | 0, h => (cases h; exact ⟨rfl, by decide, Tryz.underlying2⟩) | 1, h => (cases h; exact ⟨rfl, by decide, Tryz.underlying2⟩) | (n + 2), h => simp at h))
def i222 : TInfo := ⟨(.pointer 175), 1, 8, some [.nilp], false⟩
theorem tyok222 : TOk1 Tryz.prog 222 i222 := tok1 Tryz.typeInfo222 rfl rfl (tz1 _ rfl rfl rfl rfl) Tryz.underlying222 (fun h => absurd h (by decide))
def i236 : TInfo := ⟨(.int .u32), 1, 4, some [.int .u32 0], false⟩
theorem tyok236 : TOk1 Tryz.prog 236 i236 := tok1 Tryz.typeInfo236 rfl rfl (tz1 _ rfl rfl rfl rfl) Tryz.underlying236 (fun h => absurd h (by decide))
def i240 : TInfo := ⟨(.pointer 5), 1, 8, some [.nilp], false⟩
theorem tyok240 : TOk1 Tryz.prog 240 i240 := tok1 Tryz.typeInfo240 rfl rfl (tz1 _ rfl rfl rfl rfl) Tryz.underlying240 (fun h => absurd h (by decide))
def i248 : TInfo := ⟨(.slice 9), 1, 24, some [.nils], false⟩
theorem tyok248 : TOk1 Tryz.prog 248 i248 := tok1 Tryz.typeInfo248 rfl rfl (tz1 _ rfl rfl rfl rfl) Tryz.underlying248 (fun h => absurd h (by decide))
def ti : TI := tiAdd 2 i2 (tiAdd 3 i3 (tiAdd 4 i4 (tiAdd 5 i5 (tiAdd 9 i9 (tiAdd 21 i21 (tiAdd 22 i22 (tiAdd 24 i24 (tiAdd 25 i25 (tiAdd 27 i27 (tiAdd 28 i28 (tiAdd 30 i30 (tiAdd 31 i31 (tiAdd 33 i33 (tiAdd 35 i35 (tiAdd 37 i37 (tiAdd 45 i45 (tiAdd 47 i47 (tiAdd 48 i48 (tiAdd 50 i50 (tiAdd 58 i58 (tiAdd 67 i67 (tiAdd 75 i75 (tiAdd 77 i77 (tiAdd 80 i80 (tiAdd 82 i82 (tiAdd 90 i90 (tiAdd 96 i96 (tiAdd 104 i104 (tiAdd 106 i106 (tiAdd 108 i108 (tiAdd 110 i110 (tiAdd 113 i113 (tiAdd 117 i117 (tiAdd 120 i120 (tiAdd 138 i138 (tiAdd 140 i140 (tiAdd 148 i148 (tiAdd 154 i154 (tiAdd 156 i156 (tiAdd 163 i163 (tiAdd 166 i166 (tiAdd 168 i168 (tiAdd 175 i175 (tiAdd 181 i181 (tiAdd 186 i186 (tiAdd 191 i191 (tiAdd 193 i193 (tiAdd 201 i201 (tiAdd 211 i211 (tiAdd 216 i216 (tiAdd 222 i222 (tiAdd 236 i236 (tiAdd 240 i240 (tiAdd 248 i248 (fun _ => none)))))))))))))))))))))))))))))))))))))))))))))))))))))))
theorem tiOk : TOk Tryz.prog ti := tok_add tyok2 (tok_add tyok3 (tok_add tyok4 (tok_add tyok5 (tok_add tyok9 (tok_add tyok21 (tok_add tyok22 (tok_add tyok24 (tok_add tyok25 (tok_add tyok27 (tok_add tyok28 (tok_add tyok30 (tok_add tyok31 (tok_add tyok33 (tok_add tyok35 (tok_add tyok37 (tok_add tyok45 (tok_add tyok47 (tok_add tyok48 (tok_add tyok50 (tok_add tyok58 (tok_add tyok67 (tok_add tyok75 (tok_add tyok77 (tok_add tyok80 (tok_add tyok82 (tok_add tyok90 (tok_add tyok96 (tok_add tyok104 (tok_add tyok106 (tok_add tyok108 (tok_add tyok110 (tok_add tyok113 (tok_add tyok117 (tok_add tyok120 (tok_add tyok138 (tok_add tyok140 (tok_add tyok148 (tok_add tyok154 (tok_add tyok156 (tok_add tyok163 (tok_add tyok166 (tok_add tyok168 (tok_add tyok175 (tok_add tyok181 (tok_add tyok186 (tok_add tyok191 (tok_add tyok193 (tok_add tyok201 (tok_add tyok211 (tok_add tyok216 (tok_add tyok222 (tok_add tyok236 (tok_add tyok240 (tok_add tyok248 (tok_nil)))))))))))))))))))))))))))))))))))))))))))))))))))))))
@[go_sem] theorem ti_2 : ti 2 = some ⟨(.int .i64), 1, 8, some [.int .i64 0], false⟩ := rfl
@[go_sem] theorem ti_3 : ti 3 = some ⟨(.int .i64), 1, 8, some [.int .i64 0], false⟩ := rfl
@[go_sem] theorem ti_4 : ti 4 = some ⟨.bool, 1, 1, some [.bool false], false⟩ := rfl
@[go_sem] theorem ti_5 : ti 5 = some ⟨(.int .u8), 1, 1, some [.int .u8 0], false⟩ := rfl
@[go_sem] theorem ti_9 : ti 9 = some ⟨.str, 1, 16, some [.str []], false⟩ := rfl
@[go_sem] theorem ti_21 : ti 21 = some ⟨(.int .i32), 1, 4, some [.int .i32 0], false⟩ := rfl
@[go_sem] theorem ti_22 : ti 22 = some ⟨(.slice 77), 1, 24, some [.nils], false⟩ := rfl
@[go_sem] theorem ti_24 : ti 24 = some ⟨(.slice 82), 1, 24, some [.nils], false⟩ := rfl
@[go_sem] theorem ti_25 : ti 25 = some ⟨(.slice 110), 1, 24, some [.nils], false⟩ := rfl
@[go_sem] theorem ti_27 : ti 27 = some ⟨(.struct [(0, 24), (1, 25), (2, 2)]), 3, 56, some [.nils, .nils, .int .i64 0], false⟩ := rfl
@[go_sem] theorem ti_28 : ti 28 = some ⟨(.slice 96), 1, 24, some [.nils], false⟩ := rfl
@[go_sem] theorem ti_30 : ti 30 = some ⟨(.struct [(0, 27), (3, 28)]), 4, 80, some [.nils, .nils, .int .i64 0, .nils], false⟩ := rfl
@[go_sem] theorem ti_31 : ti 31 = some ⟨(.slice 5), 1, 24, some [.nils], false⟩ := rfl
@[go_sem] theorem ti_33 : ti 33 = some ⟨(.struct [(0, 31), (1, 31)]), 2, 48, some [.nils, .nils], false⟩ := rfl
@[go_sem] theorem ti_35 : ti 35 = some ⟨(.struct [(0, 30), (4, 33)]), 6, 128, some [.nils, .nils, .int .i64 0, .nils, .nils, .nils], false⟩ := rfl
@[go_sem] theorem ti_37 : ti 37 = some ⟨(.struct [(0, 2), (1, 2), (2, 2), (3, 35)]), 9, 152, some [.int .i64 0, .int .i64 0, .int .i64 0, .nils, .nils, .int .i64 0, .nils, .nils, .nils], false⟩ := rfl
@[go_sem] theorem ti_45 : ti 45 = some ⟨(.slice 156), 1, 24, some [.nils], false⟩ := rfl
@[go_sem] theorem ti_47 : ti 47 = some ⟨(.struct [(0, 22), (1, 45), (2, 2)]), 3, 56, some [.nils, .nils, .int .i64 0], false⟩ := rfl
@[go_sem] theorem ti_48 : ti 48 = some ⟨(.slice 148), 1, 24, some [.nils], false⟩ := rfl
@[go_sem] theorem ti_50 : ti 50 = some ⟨(.struct [(0, 47), (3, 48)]), 4, 80, some [.nils, .nils, .int .i64 0, .nils], false⟩ := rfl
@[go_sem] theorem ti_58 : ti 58 = some ⟨(.struct [(0, 2), (1, 2), (2, 27)]), 5, 72, some [.int .i64 0, .int .i64 0, .nils, .nils, .int .i64 0], false⟩ := rfl
@[go_sem] theorem ti_67 : ti 67 = some ⟨(.struct [(0, 2), (1, 28)]), 2, 32, some [.int .i64 0, .nils], false⟩ := rfl
@[go_sem] theorem ti_75 : ti 75 = some ⟨(.slice 168), 1, 24, some [.nils], false⟩ := rfl
@[go_sem] theorem ti_77 : ti 77 = some ⟨(.struct [(0, 75)]), 1, 24, some [.nils], false⟩ := rfl
@[go_sem] theorem ti_80 : ti 80 = some ⟨(.slice 140), 1, 24, some [.nils], false⟩ := rfl
@[go_sem] theorem ti_82 : ti 82 = some ⟨(.struct [(0, 80)]), 1, 24, some [.nils], false⟩ := rfl
@[go_sem] theorem ti_90 : ti 90 = some ⟨(.pointer 30), 1, 8, some [.nilp], false⟩ := rfl
@[go_sem] theorem ti_96 : ti 96 = some ⟨(.struct [(0, 2), (1, 2), (2, 2)]), 3, 24, some [.int .i64 0, .int .i64 0, .int .i64 0], true⟩ := rfl
@[go_sem] theorem ti_104 : ti 104 = some ⟨(.pointer 27), 1, 8, some [.nilp], false⟩ := rfl
@[go_sem] theorem ti_106 : ti 106 = some ⟨(.slice 2), 1, 24, some [.nils], false⟩ := rfl
@[go_sem] theorem ti_108 : ti 108 = some ⟨(.struct [(0, 2), (1, 2), (2, 106), (3, 106), (4, 106)]), 5, 88, some [.int .i64 0, .int .i64 0, .nils, .nils, .nils], false⟩ := rfl
@[go_sem] theorem ti_110 : ti 110 = some ⟨(.struct [(0, 2), (1, 108)]), 6, 96, some [.int .i64 0, .int .i64 0, .int .i64 0, .nils, .nils, .nils], false⟩ := rfl
@[go_sem] theorem ti_113 : ti 113 = some ⟨(.pointer 108), 1, 8, some [.nilp], false⟩ := rfl
@[go_sem] theorem ti_117 : ti 117 = some ⟨(.pointer 120), 1, 8, some [.nilp], false⟩ := rfl
@[go_sem] theorem ti_120 : ti 120 = some ⟨(.struct [(0, 80), (1, 108)]), 6, 112, some [.nils, .int .i64 0, .int .i64 0, .nils, .nils, .nils], false⟩ := rfl
@[go_sem] theorem ti_138 : ti 138 = some ⟨(.slice 175), 1, 24, some [.nils], false⟩ := rfl
@[go_sem] theorem ti_140 : ti 140 = some ⟨(.struct [(0, 2), (1, 2), (2, 9), (3, 2), (4, 138), (5, 138)]), 6, 88, some [.int .i64 0, .int .i64 0, .str [], .int .i64 0, .nils, .nils], false⟩ := rfl
@[go_sem] theorem ti_148 : ti 148 = some ⟨(.struct [(0, 2), (1, 2), (2, 2)]), 3, 24, some [.int .i64 0, .int .i64 0, .int .i64 0], true⟩ := rfl
@[go_sem] theorem ti_154 : ti 154 = some ⟨(.struct [(0, 2), (1, 2), (2, 106), (3, 106), (4, 106)]), 5, 88, some [.int .i64 0, .int .i64 0, .nils, .nils, .nils], false⟩ := rfl
@[go_sem] theorem ti_156 : ti 156 = some ⟨(.struct [(0, 2), (1, 154)]), 6, 96, some [.int .i64 0, .int .i64 0, .int .i64 0, .nils, .nils, .nils], false⟩ := rfl
@[go_sem] theorem ti_163 : ti 163 = some ⟨(.pointer 110), 1, 8, some [.nilp], false⟩ := rfl
@[go_sem] theorem ti_166 : ti 166 = some ⟨(.slice 211), 1, 24, some [.nils], false⟩ := rfl
@[go_sem] theorem ti_168 : ti 168 = some ⟨(.struct [(0, 2), (1, 2), (2, 9), (3, 2), (4, 166), (5, 166)]), 6, 88, some [.int .i64 0, .int .i64 0, .str [], .int .i64 0, .nils, .nils], false⟩ := rfl
@[go_sem] theorem ti_175 : ti 175 = some ⟨(.struct [(0, 2), (1, 2), (2, 2), (3, 2)]), 4, 32, some [.int .i64 0, .int .i64 0, .int .i64 0, .int .i64 0], true⟩ := rfl
@[go_sem] theorem ti_181 : ti 181 = some ⟨(.slice 3), 1, 24, some [.nils], false⟩ := rfl
@[go_sem] theorem ti_186 : ti 186 = some ⟨(.int .u64), 1, 8, some [.int .u64 0], false⟩ := rfl
@[go_sem] theorem ti_191 : ti 191 = some ⟨(.pointer 193), 1, 8, some [.nilp], false⟩ := rfl
@[go_sem] theorem ti_193 : ti 193 = some ⟨(.struct [(0, 106), (1, 106)]), 2, 48, some [.nils, .nils], false⟩ := rfl
@[go_sem] theorem ti_201 : ti 201 = some ⟨(.pointer 140), 1, 8, some [.nilp], false⟩ := rfl
@[go_sem] theorem ti_211 : ti 211 = some ⟨(.struct [(0, 2), (1, 2), (2, 2), (3, 2)]), 4, 32, some [.int .i64 0, .int .i64 0, .int .i64 0, .int .i64 0], true⟩ := rfl
@[go_sem] theorem ti_216 : ti 216 = some ⟨(.struct [(0, 2), (1, 2)]), 2, 16, some [.int .i64 0, .int .i64 0], true⟩ := rfl
@[go_sem] theorem ti_222 : ti 222 = some ⟨(.pointer 175), 1, 8, some [.nilp], false⟩ := rfl
@[go_sem] theorem ti_236 : ti 236 = some ⟨(.int .u32), 1, 4, some [.int .u32 0], false⟩ := rfl
@[go_sem] theorem ti_240 : ti 240 = some ⟨(.pointer 5), 1, 8, some [.nilp], false⟩ := rfl
@[go_sem] theorem ti_248 : ti 248 = some ⟨(.slice 9), 1, 24, some [.nils], false⟩ := rfl

section
variable {st : St} {K : Exit → St → Prop} {id : Nat} {ops : Array Oper} {draw : Bool} {y : Code} {K' : Exit → St → Prop}
theorem rg (ks : List Nat) (h : ∀ k : St → Prop, (∀ s, AW Tryz.prog y s K → k s) → opsGo Tryz.prog ti (fun _ => []) ops 0 ops.toList st (fun es s => Chk draw ops es ∧ k (s.keep ks)) .mk) : AW Tryz.prog (.seq (.region id ops draw) y) st K := AW.reg tiOk _ ks h
theorem rgN (ks : List Nat) (hK : ∀ s, AW Tryz.prog y s K' → K .normal s) (h : ∀ k : St → Prop, (∀ s, AW Tryz.prog y s K' → k s) → opsGo Tryz.prog ti (fun _ => []) ops 0 ops.toList st (fun es s => Chk draw ops es ∧ k (s.keep ks)) .mk) : AW Tryz.prog (.region id ops draw) st K := AW.regN tiOk _ ks hK h
theorem rgN0 (ks : List Nat) (hK : ∀ s, AW Tryz.prog y s K' → K .normal s) (h : ∀ k : St → Prop, (∀ s, AW Tryz.prog y s K' → k s) → opsGo Tryz.prog ti (fun _ => []) ops 0 ops.toList st (fun es s => Chk draw ops es ∧ k (s.keep0 ks)) .mk) : AW Tryz.prog (.region id ops draw) st K := AW.regN0 tiOk _ ks hK h
theorem rgK (h : ∀ k : St → Prop, (∀ s, K .normal s → k s) → opsGo Tryz.prog ti (fun _ => []) ops 0 ops.toList st (fun es s => Chk draw ops es ∧ k s) .mk) : AW Tryz.prog (.region id ops draw) st K := AW.regK tiOk _ h
theorem rt {rs : List ResultVar} {ow : List Nat} {muts : List (Nat × AV)} {res : AV} (h : (muts.all fun q => match st.slot q.1 with | some x => !isFn x | none => true) = true ∧ finOk ti rs ow muts st res)
    (hk : (muts.all fun q => match st.slot q.1 with | some x => !isFn x | none => true) = true ∧ finOk ti rs ow muts st res → K .ret st := by exact fun h => And.intro (.inr rfl) h) : AW Tryz.prog .ret st K := AW.retF h hk
end
end Go.AM

/-! ### Rd -/
set_option linter.unusedVariables false
set_option linter.unusedSimpArgs false
namespace Go.AM
open Go.Proofs
open Go.ChangeShapes Go.WideShapes Go.RowKit
set_option linter.unusedVariables false

abbrev rd_2 := Rd.int (t := 2) (cellsOf_of tiOk ti_2) Tryz.underlying2
abbrev rd_9 := Rd.str (t := 9) (cellsOf_of tiOk ti_9) Tryz.underlying9
theorem rd_211 : Rd Tryz.prog 211 TNode TNode.ro (fun _ => True) 4 := by
  refine ⟨cellsOf_of tiOk ti_211, ?_⟩
  intro H enc w base spare held fuel cs x h
  obtain ⟨xs, n, rfl, rfl, hl, hn, hf⟩ := DataW.trod_struct Tryz.underlying211 h
  have hl : cs.length = 4 := by rw [hl]; exact cellsOf_of tiOk ti_211
  have e0 : DataW.trod enc Tryz.prog w base spare held n 2 ((cs.drop 0).take (Tryz.prog.cellsOf 2)) = xs[0]? := hf 0 _ rfl
  obtain ⟨y0, hy0⟩ : ∃ y, xs[0]? = some y := ⟨xs[0]'(by rw [hn]; decide), List.getElem?_eq_getElem _⟩
  rw [hy0, rd_2.size] at e0
  obtain ⟨a0, o0, r0, _⟩ := rd_2.read enc w base spare held n _ _ e0
  have e1 : DataW.trod enc Tryz.prog w base spare held n 2 ((cs.drop 1).take (Tryz.prog.cellsOf 2)) = xs[1]? := hf 1 _ rfl
  obtain ⟨y1, hy1⟩ : ∃ y, xs[1]? = some y := ⟨xs[1]'(by rw [hn]; decide), List.getElem?_eq_getElem _⟩
  rw [hy1, rd_2.size] at e1
  obtain ⟨a1, o1, r1, _⟩ := rd_2.read enc w base spare held n _ _ e1
  have e2 : DataW.trod enc Tryz.prog w base spare held n 2 ((cs.drop 2).take (Tryz.prog.cellsOf 2)) = xs[2]? := hf 2 _ rfl
  obtain ⟨y2, hy2⟩ : ∃ y, xs[2]? = some y := ⟨xs[2]'(by rw [hn]; decide), List.getElem?_eq_getElem _⟩
  rw [hy2, rd_2.size] at e2
  obtain ⟨a2, o2, r2, _⟩ := rd_2.read enc w base spare held n _ _ e2
  have e3 : DataW.trod enc Tryz.prog w base spare held n 2 ((cs.drop 3).take (Tryz.prog.cellsOf 2)) = xs[3]? := hf 3 _ rfl
  obtain ⟨y3, hy3⟩ : ∃ y, xs[3]? = some y := ⟨xs[3]'(by rw [hn]; decide), List.getElem?_eq_getElem _⟩
  rw [hy3, rd_2.size] at e3
  obtain ⟨a3, o3, r3, _⟩ := rd_2.read enc w base spare held n _ _ e3
  refine ⟨⟨a0, a1, a2, a3⟩, trivial, ?_, hl⟩
  exact RdC.cons (o := 0) (s := 1) r0 (RdC.cons (o := 1) (s := 1) r1 (RdC.cons (o := 2) (s := 1) r2 (RdC.cons (o := 3) (s := 1) r3 (RdC.nil (List.drop_eq_nil_of_le (show cs.length ≤ 4 by omega))))))
abbrev rd_166 := Rd.slice (t := 166) rd_211 (by decide) (cellsOf_of tiOk ti_166) Tryz.underlying166
theorem rd_168 : Rd Tryz.prog 168 TStep TStep.ro TStep.gok 6 := by
  refine ⟨cellsOf_of tiOk ti_168, ?_⟩
  intro H enc w base spare held fuel cs x h
  obtain ⟨xs, n, rfl, rfl, hl, hn, hf⟩ := DataW.trod_struct Tryz.underlying168 h
  have hl : cs.length = 6 := by rw [hl]; exact cellsOf_of tiOk ti_168
  have e0 : DataW.trod enc Tryz.prog w base spare held n 2 ((cs.drop 0).take (Tryz.prog.cellsOf 2)) = xs[0]? := hf 0 _ rfl
  obtain ⟨y0, hy0⟩ : ∃ y, xs[0]? = some y := ⟨xs[0]'(by rw [hn]; decide), List.getElem?_eq_getElem _⟩
  rw [hy0, rd_2.size] at e0
  obtain ⟨a0, o0, r0, _⟩ := rd_2.read enc w base spare held n _ _ e0
  have e1 : DataW.trod enc Tryz.prog w base spare held n 2 ((cs.drop 1).take (Tryz.prog.cellsOf 2)) = xs[1]? := hf 1 _ rfl
  obtain ⟨y1, hy1⟩ : ∃ y, xs[1]? = some y := ⟨xs[1]'(by rw [hn]; decide), List.getElem?_eq_getElem _⟩
  rw [hy1, rd_2.size] at e1
  obtain ⟨a1, o1, r1, _⟩ := rd_2.read enc w base spare held n _ _ e1
  have e2 : DataW.trod enc Tryz.prog w base spare held n 9 ((cs.drop 2).take (Tryz.prog.cellsOf 9)) = xs[2]? := hf 2 _ rfl
  obtain ⟨y2, hy2⟩ : ∃ y, xs[2]? = some y := ⟨xs[2]'(by rw [hn]; decide), List.getElem?_eq_getElem _⟩
  rw [hy2, rd_9.size] at e2
  obtain ⟨a2, o2, r2, _⟩ := rd_9.read enc w base spare held n _ _ e2
  have e3 : DataW.trod enc Tryz.prog w base spare held n 2 ((cs.drop 3).take (Tryz.prog.cellsOf 2)) = xs[3]? := hf 3 _ rfl
  obtain ⟨y3, hy3⟩ : ∃ y, xs[3]? = some y := ⟨xs[3]'(by rw [hn]; decide), List.getElem?_eq_getElem _⟩
  rw [hy3, rd_2.size] at e3
  obtain ⟨a3, o3, r3, _⟩ := rd_2.read enc w base spare held n _ _ e3
  have e4 : DataW.trod enc Tryz.prog w base spare held n 166 ((cs.drop 4).take (Tryz.prog.cellsOf 166)) = xs[4]? := hf 4 _ rfl
  obtain ⟨y4, hy4⟩ : ∃ y, xs[4]? = some y := ⟨xs[4]'(by rw [hn]; decide), List.getElem?_eq_getElem _⟩
  rw [hy4, rd_166.size] at e4
  obtain ⟨a4, o4, r4, _⟩ := rd_166.read enc w base spare held n _ _ e4
  have e5 : DataW.trod enc Tryz.prog w base spare held n 166 ((cs.drop 5).take (Tryz.prog.cellsOf 166)) = xs[5]? := hf 5 _ rfl
  obtain ⟨y5, hy5⟩ : ∃ y, xs[5]? = some y := ⟨xs[5]'(by rw [hn]; decide), List.getElem?_eq_getElem _⟩
  rw [hy5, rd_166.size] at e5
  obtain ⟨a5, o5, r5, _⟩ := rd_166.read enc w base spare held n _ _ e5
  refine ⟨⟨a0, a1, a2, a3, a4, a5⟩, ⟨o2, o4.1, o5.1⟩, ?_, hl⟩
  exact RdC.cons (o := 0) (s := 1) r0 (RdC.cons (o := 1) (s := 1) r1 (RdC.cons (o := 2) (s := 1) r2 (RdC.cons (o := 3) (s := 1) r3 (RdC.cons (o := 4) (s := 1) r4 (RdC.cons (o := 5) (s := 1) r5 (RdC.nil (List.drop_eq_nil_of_le (show cs.length ≤ 6 by omega))))))))
abbrev rd_75 := Rd.slice (t := 75) rd_168 (by decide) (cellsOf_of tiOk ti_75) Tryz.underlying75
theorem rd_77 : Rd Tryz.prog 77 TProc TProc.ro TProc.gok 1 := by
  refine ⟨cellsOf_of tiOk ti_77, ?_⟩
  intro H enc w base spare held fuel cs x h
  obtain ⟨xs, n, rfl, rfl, hl, hn, hf⟩ := DataW.trod_struct Tryz.underlying77 h
  have hl : cs.length = 1 := by rw [hl]; exact cellsOf_of tiOk ti_77
  have e0 : DataW.trod enc Tryz.prog w base spare held n 75 ((cs.drop 0).take (Tryz.prog.cellsOf 75)) = xs[0]? := hf 0 _ rfl
  obtain ⟨y0, hy0⟩ : ∃ y, xs[0]? = some y := ⟨xs[0]'(by rw [hn]; decide), List.getElem?_eq_getElem _⟩
  rw [hy0, rd_75.size] at e0
  obtain ⟨a0, o0, r0, _⟩ := rd_75.read enc w base spare held n _ _ e0
  refine ⟨⟨a0⟩, o0, ?_, hl⟩
  exact RdC.cons (o := 0) (s := 1) r0 (RdC.nil (List.drop_eq_nil_of_le (show cs.length ≤ 1 by omega)))
abbrev rd_22 := Rd.slice (t := 22) rd_77 (by decide) (cellsOf_of tiOk ti_22) Tryz.underlying22
abbrev rd_106 := Rd.slice (t := 106) rd_2 (by decide) (cellsOf_of tiOk ti_106) Tryz.underlying106
theorem rd_154 : Rd Tryz.prog 154 TChart TChart.ro TChart.gok 5 := by
  refine ⟨cellsOf_of tiOk ti_154, ?_⟩
  intro H enc w base spare held fuel cs x h
  obtain ⟨xs, n, rfl, rfl, hl, hn, hf⟩ := DataW.trod_struct Tryz.underlying154 h
  have hl : cs.length = 5 := by rw [hl]; exact cellsOf_of tiOk ti_154
  have e0 : DataW.trod enc Tryz.prog w base spare held n 2 ((cs.drop 0).take (Tryz.prog.cellsOf 2)) = xs[0]? := hf 0 _ rfl
  obtain ⟨y0, hy0⟩ : ∃ y, xs[0]? = some y := ⟨xs[0]'(by rw [hn]; decide), List.getElem?_eq_getElem _⟩
  rw [hy0, rd_2.size] at e0
  obtain ⟨a0, o0, r0, _⟩ := rd_2.read enc w base spare held n _ _ e0
  have e1 : DataW.trod enc Tryz.prog w base spare held n 2 ((cs.drop 1).take (Tryz.prog.cellsOf 2)) = xs[1]? := hf 1 _ rfl
  obtain ⟨y1, hy1⟩ : ∃ y, xs[1]? = some y := ⟨xs[1]'(by rw [hn]; decide), List.getElem?_eq_getElem _⟩
  rw [hy1, rd_2.size] at e1
  obtain ⟨a1, o1, r1, _⟩ := rd_2.read enc w base spare held n _ _ e1
  have e2 : DataW.trod enc Tryz.prog w base spare held n 106 ((cs.drop 2).take (Tryz.prog.cellsOf 106)) = xs[2]? := hf 2 _ rfl
  obtain ⟨y2, hy2⟩ : ∃ y, xs[2]? = some y := ⟨xs[2]'(by rw [hn]; decide), List.getElem?_eq_getElem _⟩
  rw [hy2, rd_106.size] at e2
  obtain ⟨a2, o2, r2, _⟩ := rd_106.read enc w base spare held n _ _ e2
  have e3 : DataW.trod enc Tryz.prog w base spare held n 106 ((cs.drop 3).take (Tryz.prog.cellsOf 106)) = xs[3]? := hf 3 _ rfl
  obtain ⟨y3, hy3⟩ : ∃ y, xs[3]? = some y := ⟨xs[3]'(by rw [hn]; decide), List.getElem?_eq_getElem _⟩
  rw [hy3, rd_106.size] at e3
  obtain ⟨a3, o3, r3, _⟩ := rd_106.read enc w base spare held n _ _ e3
  have e4 : DataW.trod enc Tryz.prog w base spare held n 106 ((cs.drop 4).take (Tryz.prog.cellsOf 106)) = xs[4]? := hf 4 _ rfl
  obtain ⟨y4, hy4⟩ : ∃ y, xs[4]? = some y := ⟨xs[4]'(by rw [hn]; decide), List.getElem?_eq_getElem _⟩
  rw [hy4, rd_106.size] at e4
  obtain ⟨a4, o4, r4, _⟩ := rd_106.read enc w base spare held n _ _ e4
  refine ⟨⟨a0, a1, a2, a3, a4⟩, ⟨o2.1, o3.1, o4.1⟩, ?_, hl⟩
  exact RdC.cons (o := 0) (s := 1) r0 (RdC.cons (o := 1) (s := 1) r1 (RdC.cons (o := 2) (s := 1) r2 (RdC.cons (o := 3) (s := 1) r3 (RdC.cons (o := 4) (s := 1) r4 (RdC.nil (List.drop_eq_nil_of_le (show cs.length ≤ 5 by omega)))))))
theorem rd_156 : Rd Tryz.prog 156 TInst TInst.ro TInst.gok 6 := by
  refine ⟨cellsOf_of tiOk ti_156, ?_⟩
  intro H enc w base spare held fuel cs x h
  obtain ⟨xs, n, rfl, rfl, hl, hn, hf⟩ := DataW.trod_struct Tryz.underlying156 h
  have hl : cs.length = 6 := by rw [hl]; exact cellsOf_of tiOk ti_156
  have e0 : DataW.trod enc Tryz.prog w base spare held n 2 ((cs.drop 0).take (Tryz.prog.cellsOf 2)) = xs[0]? := hf 0 _ rfl
  obtain ⟨y0, hy0⟩ : ∃ y, xs[0]? = some y := ⟨xs[0]'(by rw [hn]; decide), List.getElem?_eq_getElem _⟩
  rw [hy0, rd_2.size] at e0
  obtain ⟨a0, o0, r0, _⟩ := rd_2.read enc w base spare held n _ _ e0
  have e1 : DataW.trod enc Tryz.prog w base spare held n 154 ((cs.drop 1).take (Tryz.prog.cellsOf 154)) = xs[1]? := hf 1 _ rfl
  obtain ⟨y1, hy1⟩ : ∃ y, xs[1]? = some y := ⟨xs[1]'(by rw [hn]; decide), List.getElem?_eq_getElem _⟩
  rw [hy1, rd_154.size] at e1
  obtain ⟨a1, o1, r1, _⟩ := rd_154.read enc w base spare held n _ _ e1
  refine ⟨⟨a0, a1⟩, o1, ?_, hl⟩
  exact RdC.cons (o := 0) (s := 1) r0 (RdC.cons (o := 1) (s := 5) r1 (RdC.nil (List.drop_eq_nil_of_le (show cs.length ≤ 6 by omega))))
abbrev rd_45 := Rd.slice (t := 45) rd_156 (by decide) (cellsOf_of tiOk ti_45) Tryz.underlying45
theorem rd_47 : Rd Tryz.prog 47 TEngine TEngine.ro TEngine.gok 3 := by
  refine ⟨cellsOf_of tiOk ti_47, ?_⟩
  intro H enc w base spare held fuel cs x h
  obtain ⟨xs, n, rfl, rfl, hl, hn, hf⟩ := DataW.trod_struct Tryz.underlying47 h
  have hl : cs.length = 3 := by rw [hl]; exact cellsOf_of tiOk ti_47
  have e0 : DataW.trod enc Tryz.prog w base spare held n 22 ((cs.drop 0).take (Tryz.prog.cellsOf 22)) = xs[0]? := hf 0 _ rfl
  obtain ⟨y0, hy0⟩ : ∃ y, xs[0]? = some y := ⟨xs[0]'(by rw [hn]; decide), List.getElem?_eq_getElem _⟩
  rw [hy0, rd_22.size] at e0
  obtain ⟨a0, o0, r0, _⟩ := rd_22.read enc w base spare held n _ _ e0
  have e1 : DataW.trod enc Tryz.prog w base spare held n 45 ((cs.drop 1).take (Tryz.prog.cellsOf 45)) = xs[1]? := hf 1 _ rfl
  obtain ⟨y1, hy1⟩ : ∃ y, xs[1]? = some y := ⟨xs[1]'(by rw [hn]; decide), List.getElem?_eq_getElem _⟩
  rw [hy1, rd_45.size] at e1
  obtain ⟨a1, o1, r1, _⟩ := rd_45.read enc w base spare held n _ _ e1
  have e2 : DataW.trod enc Tryz.prog w base spare held n 2 ((cs.drop 2).take (Tryz.prog.cellsOf 2)) = xs[2]? := hf 2 _ rfl
  obtain ⟨y2, hy2⟩ : ∃ y, xs[2]? = some y := ⟨xs[2]'(by rw [hn]; decide), List.getElem?_eq_getElem _⟩
  rw [hy2, rd_2.size] at e2
  obtain ⟨a2, o2, r2, _⟩ := rd_2.read enc w base spare held n _ _ e2
  refine ⟨⟨a0, a1, a2⟩, ⟨o0, o1⟩, ?_, hl⟩
  exact RdC.cons (o := 0) (s := 1) r0 (RdC.cons (o := 1) (s := 1) r1 (RdC.cons (o := 2) (s := 1) r2 (RdC.nil (List.drop_eq_nil_of_le (show cs.length ≤ 3 by omega)))))
theorem rd_148 : Rd Tryz.prog 148 TClaim TClaim.ro (fun _ => True) 3 := by
  refine ⟨cellsOf_of tiOk ti_148, ?_⟩
  intro H enc w base spare held fuel cs x h
  obtain ⟨xs, n, rfl, rfl, hl, hn, hf⟩ := DataW.trod_struct Tryz.underlying148 h
  have hl : cs.length = 3 := by rw [hl]; exact cellsOf_of tiOk ti_148
  have e0 : DataW.trod enc Tryz.prog w base spare held n 2 ((cs.drop 0).take (Tryz.prog.cellsOf 2)) = xs[0]? := hf 0 _ rfl
  obtain ⟨y0, hy0⟩ : ∃ y, xs[0]? = some y := ⟨xs[0]'(by rw [hn]; decide), List.getElem?_eq_getElem _⟩
  rw [hy0, rd_2.size] at e0
  obtain ⟨a0, o0, r0, _⟩ := rd_2.read enc w base spare held n _ _ e0
  have e1 : DataW.trod enc Tryz.prog w base spare held n 2 ((cs.drop 1).take (Tryz.prog.cellsOf 2)) = xs[1]? := hf 1 _ rfl
  obtain ⟨y1, hy1⟩ : ∃ y, xs[1]? = some y := ⟨xs[1]'(by rw [hn]; decide), List.getElem?_eq_getElem _⟩
  rw [hy1, rd_2.size] at e1
  obtain ⟨a1, o1, r1, _⟩ := rd_2.read enc w base spare held n _ _ e1
  have e2 : DataW.trod enc Tryz.prog w base spare held n 2 ((cs.drop 2).take (Tryz.prog.cellsOf 2)) = xs[2]? := hf 2 _ rfl
  obtain ⟨y2, hy2⟩ : ∃ y, xs[2]? = some y := ⟨xs[2]'(by rw [hn]; decide), List.getElem?_eq_getElem _⟩
  rw [hy2, rd_2.size] at e2
  obtain ⟨a2, o2, r2, _⟩ := rd_2.read enc w base spare held n _ _ e2
  refine ⟨⟨a0, a1, a2⟩, trivial, ?_, hl⟩
  exact RdC.cons (o := 0) (s := 1) r0 (RdC.cons (o := 1) (s := 1) r1 (RdC.cons (o := 2) (s := 1) r2 (RdC.nil (List.drop_eq_nil_of_le (show cs.length ≤ 3 by omega)))))
abbrev rd_48 := Rd.slice (t := 48) rd_148 (by decide) (cellsOf_of tiOk ti_48) Tryz.underlying48
theorem rd_50 : Rd Tryz.prog 50 TDesk TDesk.ro TDesk.gok 4 := by
  refine ⟨cellsOf_of tiOk ti_50, ?_⟩
  intro H enc w base spare held fuel cs x h
  obtain ⟨xs, n, rfl, rfl, hl, hn, hf⟩ := DataW.trod_struct Tryz.underlying50 h
  have hl : cs.length = 4 := by rw [hl]; exact cellsOf_of tiOk ti_50
  have e0 : DataW.trod enc Tryz.prog w base spare held n 47 ((cs.drop 0).take (Tryz.prog.cellsOf 47)) = xs[0]? := hf 0 _ rfl
  obtain ⟨y0, hy0⟩ : ∃ y, xs[0]? = some y := ⟨xs[0]'(by rw [hn]; decide), List.getElem?_eq_getElem _⟩
  rw [hy0, rd_47.size] at e0
  obtain ⟨a0, o0, r0, _⟩ := rd_47.read enc w base spare held n _ _ e0
  have e1 : DataW.trod enc Tryz.prog w base spare held n 48 ((cs.drop 3).take (Tryz.prog.cellsOf 48)) = xs[1]? := hf 1 _ rfl
  obtain ⟨y1, hy1⟩ : ∃ y, xs[1]? = some y := ⟨xs[1]'(by rw [hn]; decide), List.getElem?_eq_getElem _⟩
  rw [hy1, rd_48.size] at e1
  obtain ⟨a1, o1, r1, _⟩ := rd_48.read enc w base spare held n _ _ e1
  refine ⟨⟨a0, a1⟩, ⟨o0, o1.1⟩, ?_, hl⟩
  exact RdC.cons (o := 0) (s := 3) r0 (RdC.cons (o := 3) (s := 1) r1 (RdC.nil (List.drop_eq_nil_of_le (show cs.length ≤ 4 by omega))))
end Go.AM

/-! ### T1 -/
set_option linter.unusedVariables false
set_option linter.unusedSimpArgs false
set_option maxHeartbeats 600000
set_option maxRecDepth 100000
namespace Go.AM
open Go.Proofs

/-- laws.szInt64S -/
theorem dc_laws_szInt64S (l : List Int) (z : Int) (hz : 0 ≤ z ∧ z ≤ 1048576) (hl : l.length ≤ 9223372036854775807) : DC Tryz.prog 155 [.isl 1 (l.map I1), .int .i64 z] (.int .i64 (subz z l.length)) [] := by
 have hw : IntKind.wrap .i64 (z - (l.length : Int)) = z - (l.length : Int) := wrap64 (by omega) (by omega)
 refine DC.intro tiOk Tryz.func155 rfl rfl rfl rfl rfl rfl rfl rfl [] ?_
 refine rg [0,1] ?_
 intro k hk; simp -dsimp [go_sem, -decide_eq_true_eq, -decide_eq_false_iff_not, hw]
 repeat' first | apply And.intro | refine hk _ ?_ | intro hg | omega | exact True.intro
 all_goals clear hk k
 refine rg [1] ?_
 intro k hk; simp -dsimp [go_sem, -decide_eq_true_eq, -decide_eq_false_iff_not, hw]
 repeat' first | apply And.intro | refine hk _ ?_ | intro hg | omega | exact True.intro
 all_goals clear hk k
 refine AW.seq ?_
 refine rg [1,10] ?_
 intro k hk; simp -dsimp [go_sem, -decide_eq_true_eq, -decide_eq_false_iff_not, hw]
 repeat' first | apply And.intro | refine hk _ ?_ | intro hg | omega | exact True.intro
 all_goals clear hk k
 refine AW.cond rfl ?_ ?_
 ·intro hc; try simp at hc
  all_goals (
   refine rg [4] ?_
   intro k hk; simp -dsimp [go_sem, -decide_eq_true_eq, -decide_eq_false_iff_not, hw]
   repeat' first | apply And.intro | refine hk _ ?_ | intro hg | omega | exact True.intro
   all_goals clear hk k
   refine rt ?_
   simp [go_sem, Tryz.results155]; unfold subz; split <;> omega)
 ·intro hc; try simp at hc
  all_goals (
   refine AW.skipN (fun _ h => h) ?_
   refine rg [4] ?_
   intro k hk; simp -dsimp [go_sem, -decide_eq_true_eq, -decide_eq_false_iff_not, hw]
   repeat' first | apply And.intro | refine hk _ ?_ | intro hg | omega | exact True.intro
   all_goals clear hk k
   refine rt ?_
   simp [go_sem, Tryz.results155]; unfold subz; split <;> omega)

/-- laws.toInt64S -/
theorem dc_laws_toInt64S (l : List Int) (hl : l.length ≤ 1048576) : DC Tryz.prog 156 [.isl 1 (l.map I1)] (.osl 1 (l.map I1)) [] := by
 have idz : ∀ i, (fill I1 [.int .i64 0] l i).flatMap idsL = [] := fun i => fill_ids (by intro x; simp [go_sem]) (by simp [go_sem])
 refine DC.intro tiOk Tryz.func156 rfl rfl rfl rfl rfl rfl rfl rfl [1000] ?_
 refine rg [0] ?_
 intro k hk; simp -dsimp [go_sem, -decide_eq_true_eq, -decide_eq_false_iff_not]
 repeat' first | apply And.intro | refine hk _ ?_ | intro hg | omega | exact True.intro
 all_goals clear hk k
 refine rg [0,3] ?_
 intro k hk; simp -dsimp [go_sem, -decide_eq_true_eq, -decide_eq_false_iff_not]
 repeat' first | apply And.intro | refine hk _ ?_ | intro hg | omega | exact True.intro
 all_goals clear hk k
 refine AW.seq ?_
 refine rg [0,3,4] ?_
 intro k hk; simp -dsimp [go_sem, -decide_eq_true_eq, -decide_eq_false_iff_not]
 repeat' first | apply And.intro | refine hk _ ?_ | intro hg | omega | exact True.intro
 all_goals clear hk k
 refine AW.block ?_
 refine AW.loopI (fun i : Nat => ⟨22, [(0, .isl 1 (l.map I1)), (3, .sl 7 1 0 l.length), (4, .int .i64 i)], [(7, some ⟨1, fill I1 [.int .i64 0] l i⟩)]⟩) (fun i => i ≤ l.length) (fun i => l.length - i) (0) (by simp) (Less.of rfl (by simp [go_sem]) (by simp [go_sem, fill_zero])) ?_
 rintro i hi
 refine AW.seq ?_
 refine rg [0,3,4,11] ?_
 intro k hk; simp -dsimp [go_sem, -decide_eq_true_eq, -decide_eq_false_iff_not]
 repeat' first | apply And.intro | refine hk _ ?_ | intro hg | omega | exact True.intro
 all_goals clear hk k
 refine AW.cond rfl ?_ ?_
 ·intro hc; try simp at hc
  all_goals (
   have hlt : i < l.length := by assumption
   obtain ⟨x, hx⟩ := at_some hlt
   have hf := fill_len (f := I1) (z := [.int .i64 0]) hi
   have hf2 := fill_at (f := I1) (z := [.int .i64 0]) hlt
   refine AW.skipN (fun _ h => h) ?_
   refine AW.seq ?_
   refine AW.block ?_
   refine rgN [0,3,4] (fun _ h => h) ?_
   intro k hk; simp -dsimp (maxSteps := 2000000) [go_sem, -decide_eq_true_eq, -decide_eq_false_iff_not, hx, hf, hf2, idz]
   repeat' first | apply And.intro | refine hk _ ?_ | intro hg | omega | exact True.intro
   all_goals clear hk k
   refine rgK ?_
   intro k hk; simp -dsimp [go_sem, -decide_eq_true_eq, -decide_eq_false_iff_not, hx, hf, hf2, idz]
   repeat' first | apply And.intro | refine hk _ ?_ | intro hg | omega | exact True.intro
   all_goals clear hk k
   show ∃ _, _
   have hw := wrapi hlt (by omega)
   have hs := fill_set (f := I1) (z := [.int .i64 0]) hx
   simp [go_sem] at hs
   refine ⟨i + 1, by omega, by omega, Less.of rfl (by simp [go_sem, hw]) (by simp [go_sem, List.set_set, ← hs])⟩)
 ·intro hc; try simp at hc
  all_goals (
   refine AW.exitN (fun _ h => h) ?_
   refine rg [2] ?_
   intro k hk; simp -dsimp [go_sem, -decide_eq_true_eq, -decide_eq_false_iff_not]
   repeat' first | apply And.intro | refine hk _ ?_ | intro hg | omega | exact True.intro
   all_goals clear hk k
   refine rt ?_
   have he := fill_end (f := I1) (z := [.int .i64 0]) (show l.length ≤ i by omega); simp [go_sem, Tryz.results156, he])

/-- laws.eqInt64S -/
theorem dc_laws_eqInt64S (a b : List Int) (ha : a.length ≤ 9223372036854775807) : DC Tryz.prog 157 [.isl 1 (a.map I1), .isl 1 (b.map I1)] (.bool (decide (a = b))) [] := by
 refine DC.intro tiOk Tryz.func157 rfl rfl rfl rfl rfl rfl rfl rfl [] ?_
 refine rg [0,1] ?_
 intro k hk; simp -dsimp [go_sem, -decide_eq_true_eq, -decide_eq_false_iff_not]
 repeat' first | apply And.intro | refine hk _ ?_ | intro hg | omega | exact True.intro
 all_goals clear hk k
 refine AW.seq ?_
 refine rg [0,1,10] ?_
 intro k hk; simp -dsimp [go_sem, -decide_eq_true_eq, -decide_eq_false_iff_not]
 repeat' first | apply And.intro | refine hk _ ?_ | intro hg | omega | exact True.intro
 all_goals clear hk k
 refine AW.cond rfl ?_ ?_
 ·intro hc; try simp at hc
  all_goals (
   refine rg [4] ?_
   intro k hk; simp -dsimp [go_sem, -decide_eq_true_eq, -decide_eq_false_iff_not]
   repeat' first | apply And.intro | refine hk _ ?_ | intro hg | omega | exact True.intro
   all_goals clear hk k
   refine rt ?_
   first | (rw [eq_ne_at hx hy (by first | assumption | (intro e; subst e; omega))]; simp [go_sem, Tryz.results157]; done) | (rw [eq_end (by omega) hinv (by omega)]; simp [go_sem, Tryz.results157]; done) | (rw [eq_ne_len (by omega)]; simp [go_sem, Tryz.results157]))
 ·intro hc; try simp at hc
  all_goals (
   refine AW.skipN (fun _ h => h) ?_
   refine AW.seq ?_
   refine rg [0,1,5] ?_
   intro k hk; simp -dsimp [go_sem, -decide_eq_true_eq, -decide_eq_false_iff_not]
   repeat' first | apply And.intro | refine hk _ ?_ | intro hg | omega | exact True.intro
   all_goals clear hk k
   refine AW.block ?_
   refine AW.loopI (fun i : Nat => ⟨26, [(0, .isl 1 (a.map I1)), (1, .isl 1 (b.map I1)), (5, .int .i64 i)], []⟩) (fun i => i ≤ a.length ∧ a.take i = b.take i) (fun i => a.length - i) (0) (by simp) (Less.of rfl (by simp [go_sem]) (by simp [go_sem])) ?_
   rintro i ⟨hi, hinv⟩
   refine AW.seq ?_
   refine rg [0,1,5,14] ?_
   intro k hk; simp -dsimp [go_sem, -decide_eq_true_eq, -decide_eq_false_iff_not]
   repeat' first | apply And.intro | refine hk _ ?_ | intro hg | omega | exact True.intro
   all_goals clear hk k
   refine AW.cond rfl ?_ ?_
   ·intro hc; try simp at hc
    all_goals (
     have hlt : i < a.length := by assumption
     obtain ⟨x, hx⟩ := at_some hlt
     obtain ⟨y, hy⟩ := at_some (l := b) (show i < b.length by omega)
     have hla := at_lt hy
     refine AW.skipN (fun _ h => h) ?_
     refine AW.seq ?_
     refine AW.block ?_
     refine rg [0,1,5,25] ?_
     intro k hk; simp -dsimp (maxSteps := 2000000) [go_sem, -decide_eq_true_eq, -decide_eq_false_iff_not, hx, hy]
     repeat' first | apply And.intro | (refine Chk.keys ?_; simp only [go_sem, List.map_cons, List.map_nil, List.flatMap_cons, List.flatMap_nil, List.flatMap_append, List.append_nil, List.nil_append, List.cons_append]; decide +kernel) | refine hk _ ?_ | intro hg | omega | exact True.intro
     all_goals clear hk k
     refine AW.cond rfl ?_ ?_
     ·intro hc; try simp at hc
      all_goals (
       refine rg [4] ?_
       intro k hk; simp -dsimp [go_sem, -decide_eq_true_eq, -decide_eq_false_iff_not, hx, hy]
       repeat' first | apply And.intro | refine hk _ ?_ | intro hg | omega | exact True.intro
       all_goals clear hk k
       refine rt ?_
       first | (rw [eq_ne_at hx hy (by first | assumption | (intro e; subst e; omega))]; simp [go_sem, Tryz.results157]; done) | (rw [eq_end (by omega) hinv (by omega)]; simp [go_sem, Tryz.results157]; done) | (rw [eq_ne_len (by omega)]; simp [go_sem, Tryz.results157]))
     ·intro hc; try simp at hc
      all_goals (
       refine AW.skipN (fun _ h => h) ?_
       refine rgK ?_
       intro k hk; simp -dsimp [go_sem, -decide_eq_true_eq, -decide_eq_false_iff_not, hx, hy]
       repeat' first | apply And.intro | refine hk _ ?_ | intro hg | omega | exact True.intro
       all_goals clear hk k
       show ∃ _, _
       have hw := wrapi hlt (by omega)
       refine ⟨i + 1, ⟨by omega, take_step hx hy (by first | assumption | (apply UInt8.toNat_inj.1; omega)) hinv⟩, by omega, Less.of rfl (by simp [go_sem, hw]) (by simp [go_sem])⟩))
   ·intro hc; try simp at hc
    all_goals (
     refine AW.exitN (fun _ h => h) ?_
     refine rg [4] ?_
     intro k hk; simp -dsimp [go_sem, -decide_eq_true_eq, -decide_eq_false_iff_not]
     repeat' first | apply And.intro | refine hk _ ?_ | intro hg | omega | exact True.intro
     all_goals clear hk k
     refine rt ?_
     first | (rw [eq_ne_at hx hy (by first | assumption | (intro e; subst e; omega))]; simp [go_sem, Tryz.results157]; done) | (rw [eq_end (by omega) hinv (by omega)]; simp [go_sem, Tryz.results157]; done) | (rw [eq_ne_len (by omega)]; simp [go_sem, Tryz.results157])))

/-- laws.szChart -/
theorem dc_laws_szChart (x : TChart) (z : Int) (hz : 0 ≤ z ∧ z ≤ 1048576) (hg : x.gok) : DC Tryz.prog 132 [.agg x.ro, .int .i64 z] (.int .i64 (subz z x.sz)) [] := by
 have hg' := hg
 unfold TChart.gok at hg'
 obtain ⟨h2, h3, h4⟩ := hg'
 refine DC.intro tiOk Tryz.func132 rfl rfl rfl rfl rfl rfl rfl rfl [] ?_
 refine rg [1,2] ?_
 intro k hk; simp -dsimp [go_sem, -decide_eq_true_eq, -decide_eq_false_iff_not]
 repeat' first | apply And.intro | refine hk _ ?_ | intro hg | omega | exact True.intro
 all_goals clear hk k
 refine rg [1,2] ?_
 intro k hk; simp -dsimp (maxSteps := 2000000) [go_sem, -decide_eq_true_eq, -decide_eq_false_iff_not]
 repeat' first | apply And.intro | refine hk _ ?_ | intro hg | (refine CallK.intro (dc_laws_szInt64S _ _ (by constructor <;> first | omega | grind [subz]) (by first | assumption | (constructor <;> assumption))) ?_; simp -dsimp (maxSteps := 2000000) [go_sem, -decide_eq_true_eq, -decide_eq_false_iff_not]) | omega | exact True.intro
 all_goals clear hk k
 refine AW.seq ?_
 refine rg [1,2,10] ?_
 intro k hk; simp -dsimp [go_sem, -decide_eq_true_eq, -decide_eq_false_iff_not]
 repeat' first | apply And.intro | refine hk _ ?_ | intro hg | omega | exact True.intro
 all_goals clear hk k
 refine AW.cond rfl ?_ ?_
 ·intro hc; try simp [subz_neg, subz_nn] at hc
  all_goals (
   refine rg [4] ?_
   intro k hk; simp -dsimp [go_sem, -decide_eq_true_eq, -decide_eq_false_iff_not]
   repeat' first | apply And.intro | refine hk _ ?_ | intro hg | omega | exact True.intro
   all_goals clear hk k
   refine rt ?_
   simp [go_sem, Tryz.results132]; simp only [subz, TChart.sz] at * <;> grind)
 ·intro hc; try simp [subz_neg, subz_nn] at hc
  all_goals (
   refine AW.skipN (fun _ h => h) ?_
   refine rg [1,2] ?_
   intro k hk; simp -dsimp (maxSteps := 2000000) [go_sem, -decide_eq_true_eq, -decide_eq_false_iff_not]
   repeat' first | apply And.intro | refine hk _ ?_ | intro hg | (refine CallK.intro (dc_laws_szInt64S _ _ (by constructor <;> first | omega | grind [subz]) (by first | assumption | (constructor <;> assumption))) ?_; simp -dsimp (maxSteps := 2000000) [go_sem, -decide_eq_true_eq, -decide_eq_false_iff_not]) | omega | exact True.intro
   all_goals clear hk k
   refine AW.seq ?_
   refine rg [1,2,16] ?_
   intro k hk; simp -dsimp [go_sem, -decide_eq_true_eq, -decide_eq_false_iff_not]
   repeat' first | apply And.intro | refine hk _ ?_ | intro hg | omega | exact True.intro
   all_goals clear hk k
   refine AW.cond rfl ?_ ?_
   ·intro hc; try simp [subz_neg, subz_nn] at hc
    all_goals (
     refine rg [4] ?_
     intro k hk; simp -dsimp [go_sem, -decide_eq_true_eq, -decide_eq_false_iff_not]
     repeat' first | apply And.intro | refine hk _ ?_ | intro hg | omega | exact True.intro
     all_goals clear hk k
     refine rt ?_
     simp [go_sem, Tryz.results132]; simp only [subz, TChart.sz] at * <;> grind)
   ·intro hc; try simp [subz_neg, subz_nn] at hc
    all_goals (
     refine AW.skipN (fun _ h => h) ?_
     refine rg [1] ?_
     intro k hk; simp -dsimp (maxSteps := 2000000) [go_sem, -decide_eq_true_eq, -decide_eq_false_iff_not]
     repeat' first | apply And.intro | refine hk _ ?_ | intro hg | (refine CallK.intro (dc_laws_szInt64S _ _ (by constructor <;> first | omega | grind [subz]) (by first | assumption | (constructor <;> assumption))) ?_; simp -dsimp (maxSteps := 2000000) [go_sem, -decide_eq_true_eq, -decide_eq_false_iff_not]) | omega | exact True.intro
     all_goals clear hk k
     refine AW.seq ?_
     refine rg [1,22] ?_
     intro k hk; simp -dsimp [go_sem, -decide_eq_true_eq, -decide_eq_false_iff_not]
     repeat' first | apply And.intro | refine hk _ ?_ | intro hg | omega | exact True.intro
     all_goals clear hk k
     refine AW.cond rfl ?_ ?_
     ·intro hc; try simp [subz_neg, subz_nn] at hc
      all_goals (
       refine rg [4] ?_
       intro k hk; simp -dsimp [go_sem, -decide_eq_true_eq, -decide_eq_false_iff_not]
       repeat' first | apply And.intro | refine hk _ ?_ | intro hg | omega | exact True.intro
       all_goals clear hk k
       refine rt ?_
       simp [go_sem, Tryz.results132]; simp only [subz, TChart.sz] at * <;> grind)
     ·intro hc; try simp [subz_neg, subz_nn] at hc
      all_goals (
       refine AW.skipN (fun _ h => h) ?_
       refine rg [4] ?_
       intro k hk; simp -dsimp [go_sem, -decide_eq_true_eq, -decide_eq_false_iff_not]
       repeat' first | apply And.intro | refine hk _ ?_ | intro hg | omega | exact True.intro
       all_goals clear hk k
       refine rt ?_
       simp [go_sem, Tryz.results132]; simp only [subz, TChart.sz] at * <;> grind)))

/-- laws.toChart -/
theorem dc_laws_toChart (x : TChart) (hs : x.sz ≤ 1048576) : DC Tryz.prog 134 [.agg x.ro] (.agg [.int .i64 x.status, .int .i64 x.now, .osl 1 (x.vars.map I1), .osl 1 (x.acts.map I1), .osl 1 (x.dues.map I1)]) [] := by
 unfold TChart.sz at hs
 have h2 : x.vars.length ≤ 1048576 := by omega
 have h3 : x.acts.length ≤ 1048576 := by omega
 have h4 : x.dues.length ≤ 1048576 := by omega
 refine DC.intro tiOk Tryz.func134 rfl rfl rfl rfl rfl rfl rfl rfl [1000] ?_
 refine rg [1,2] ?_
 intro k hk; simp -dsimp [go_sem, -decide_eq_true_eq, -decide_eq_false_iff_not]
 repeat' first | apply And.intro | refine hk _ ?_ | intro hg | omega | exact True.intro
 all_goals clear hk k
 refine rg [1,2,3] ?_
 intro k hk; simp -dsimp [go_sem, -decide_eq_true_eq, -decide_eq_false_iff_not]
 repeat' first | apply And.intro | refine hk _ ?_ | intro hg | omega | exact True.intro
 all_goals clear hk k
 refine rg [1,2,3] ?_
 intro k hk; simp -dsimp [go_sem, -decide_eq_true_eq, -decide_eq_false_iff_not]
 repeat' first | apply And.intro | refine hk _ ?_ | intro hg | omega | exact True.intro
 all_goals clear hk k
 refine rg [1,2,3] ?_
 intro k hk; simp -dsimp [go_sem, -decide_eq_true_eq, -decide_eq_false_iff_not]
 repeat' first | apply And.intro | refine hk _ ?_ | intro hg | omega | exact True.intro
 all_goals clear hk k
 refine rg [1,2,3] ?_
 intro k hk; simp -dsimp (maxSteps := 2000000) [go_sem, -decide_eq_true_eq, -decide_eq_false_iff_not]
 repeat' first | apply And.intro | refine hk _ ?_ | intro hg | (refine CallK.intro (dc_laws_toInt64S _ (by assumption)) ?_; simp -dsimp (maxSteps := 2000000) [go_sem, -decide_eq_true_eq, -decide_eq_false_iff_not]) | omega | exact True.intro
 all_goals clear hk k
 refine rg [1,2,3] ?_
 intro k hk; simp -dsimp (maxSteps := 2000000) [go_sem, -decide_eq_true_eq, -decide_eq_false_iff_not]
 repeat' first | apply And.intro | refine hk _ ?_ | intro hg | (refine CallK.intro (dc_laws_toInt64S _ (by assumption)) ?_; simp -dsimp (maxSteps := 2000000) [go_sem, -decide_eq_true_eq, -decide_eq_false_iff_not]) | omega | exact True.intro
 all_goals clear hk k
 refine rg [2,3] ?_
 intro k hk; simp -dsimp (maxSteps := 2000000) [go_sem, -decide_eq_true_eq, -decide_eq_false_iff_not]
 repeat' first | apply And.intro | refine hk _ ?_ | intro hg | (refine CallK.intro (dc_laws_toInt64S _ (by assumption)) ?_; simp -dsimp (maxSteps := 2000000) [go_sem, -decide_eq_true_eq, -decide_eq_false_iff_not]) | omega | exact True.intro
 all_goals clear hk k
 refine rg [2] ?_
 intro k hk; simp -dsimp [go_sem, -decide_eq_true_eq, -decide_eq_false_iff_not]
 repeat' first | apply And.intro | refine hk _ ?_ | intro hg | omega | exact True.intro
 all_goals clear hk k
 refine rt ?_
 simp [go_sem, Tryz.results134]

/-- laws.eqChart -/
theorem dc_laws_eqChart (a b : TChart) (hg : a.gok) : DC Tryz.prog 136 [.agg a.ro, .agg b.ro] (.bool (decide (a = b))) [] := by
 obtain ⟨h0, h1, h2⟩ := hg
 refine DC.intro tiOk Tryz.func136 rfl rfl rfl rfl rfl rfl rfl rfl [] ?_
 refine rg [2,3] ?_
 intro k hk; simp -dsimp [go_sem, -decide_eq_true_eq, -decide_eq_false_iff_not]
 repeat' first | apply And.intro | refine hk _ ?_ | intro hg | omega | exact True.intro
 all_goals clear hk k
 refine AW.seq ?_
 refine rg [2,3,9] ?_
 intro k hk; simp -dsimp [go_sem, -decide_eq_true_eq, -decide_eq_false_iff_not]
 repeat' first | apply And.intro | refine hk _ ?_ | intro hg | omega | exact True.intro
 all_goals clear hk k
 refine AW.cond rfl ?_ ?_
 ·intro hc; try simp at hc
  all_goals (
   refine rg [4] ?_
   intro k hk; simp -dsimp [go_sem, -decide_eq_true_eq, -decide_eq_false_iff_not]
   repeat' first | apply And.intro | refine hk _ ?_ | intro hg | omega | exact True.intro
   all_goals clear hk k
   refine rt ?_
   cases a; cases b; simp [go_sem, Tryz.results136] at *; simp [*])
 ·intro hc; try simp at hc
  all_goals (
   refine AW.skipN (fun _ h => h) ?_
   refine AW.seq ?_
   refine rg [2,3,14] ?_
   intro k hk; simp -dsimp [go_sem, -decide_eq_true_eq, -decide_eq_false_iff_not]
   repeat' first | apply And.intro | refine hk _ ?_ | intro hg | omega | exact True.intro
   all_goals clear hk k
   refine AW.cond rfl ?_ ?_
   ·intro hc; try simp at hc
    all_goals (
     refine rg [4] ?_
     intro k hk; simp -dsimp [go_sem, -decide_eq_true_eq, -decide_eq_false_iff_not]
     repeat' first | apply And.intro | refine hk _ ?_ | intro hg | omega | exact True.intro
     all_goals clear hk k
     refine rt ?_
     cases a; cases b; simp [go_sem, Tryz.results136] at *; simp [*])
   ·intro hc; try simp at hc
    all_goals (
     refine AW.skipN (fun _ h => h) ?_
     refine AW.seq ?_
     refine rg [2,3,20] ?_
     intro k hk; simp -dsimp (maxSteps := 2000000) [go_sem, -decide_eq_true_eq, -decide_eq_false_iff_not]
     repeat' first | apply And.intro | refine hk _ ?_ | intro hg | (refine CallK.intro (dc_laws_eqInt64S _ _ (by assumption)) ?_; simp -dsimp (maxSteps := 2000000) [go_sem, -decide_eq_true_eq, -decide_eq_false_iff_not]) | omega | exact True.intro
     all_goals clear hk k
     refine AW.cond rfl ?_ ?_
     ·intro hc; try simp at hc
      all_goals (
       refine rg [4] ?_
       intro k hk; simp -dsimp [go_sem, -decide_eq_true_eq, -decide_eq_false_iff_not]
       repeat' first | apply And.intro | refine hk _ ?_ | intro hg | omega | exact True.intro
       all_goals clear hk k
       refine rt ?_
       cases a; cases b; simp [go_sem, Tryz.results136] at *; simp [*])
     ·intro hc; try simp at hc
      all_goals (
       refine AW.skipN (fun _ h => h) ?_
       refine AW.seq ?_
       refine rg [2,3,26] ?_
       intro k hk; simp -dsimp (maxSteps := 2000000) [go_sem, -decide_eq_true_eq, -decide_eq_false_iff_not]
       repeat' first | apply And.intro | refine hk _ ?_ | intro hg | (refine CallK.intro (dc_laws_eqInt64S _ _ (by assumption)) ?_; simp -dsimp (maxSteps := 2000000) [go_sem, -decide_eq_true_eq, -decide_eq_false_iff_not]) | omega | exact True.intro
       all_goals clear hk k
       refine AW.cond rfl ?_ ?_
       ·intro hc; try simp at hc
        all_goals (
         refine rg [4] ?_
         intro k hk; simp -dsimp [go_sem, -decide_eq_true_eq, -decide_eq_false_iff_not]
         repeat' first | apply And.intro | refine hk _ ?_ | intro hg | omega | exact True.intro
         all_goals clear hk k
         refine rt ?_
         cases a; cases b; simp [go_sem, Tryz.results136] at *; simp [*])
       ·intro hc; try simp at hc
        all_goals (
         refine AW.skipN (fun _ h => h) ?_
         refine AW.seq ?_
         refine rg [32] ?_
         intro k hk; simp -dsimp (maxSteps := 2000000) [go_sem, -decide_eq_true_eq, -decide_eq_false_iff_not]
         repeat' first | apply And.intro | refine hk _ ?_ | intro hg | (refine CallK.intro (dc_laws_eqInt64S _ _ (by assumption)) ?_; simp -dsimp (maxSteps := 2000000) [go_sem, -decide_eq_true_eq, -decide_eq_false_iff_not]) | omega | exact True.intro
         all_goals clear hk k
         refine AW.cond rfl ?_ ?_
         ·intro hc; try simp at hc
          all_goals (
           refine rg [4] ?_
           intro k hk; simp -dsimp [go_sem, -decide_eq_true_eq, -decide_eq_false_iff_not]
           repeat' first | apply And.intro | refine hk _ ?_ | intro hg | omega | exact True.intro
           all_goals clear hk k
           refine rt ?_
           cases a; cases b; simp [go_sem, Tryz.results136] at *; simp [*])
         ·intro hc; try simp at hc
          all_goals (
           refine AW.skipN (fun _ h => h) ?_
           refine rg [4] ?_
           intro k hk; simp -dsimp [go_sem, -decide_eq_true_eq, -decide_eq_false_iff_not]
           repeat' first | apply And.intro | refine hk _ ?_ | intro hg | omega | exact True.intro
           all_goals clear hk k
           refine rt ?_
           cases a; cases b; simp [go_sem, Tryz.results136] at *; simp [*])))))

end Go.AM

/-! ### T2 -/
set_option linter.unusedVariables false
set_option linter.unusedSimpArgs false
set_option maxHeartbeats 600000
set_option maxRecDepth 100000
namespace Go.AM
open Go.Proofs

end Go.AM

/-! ### Pv -/
set_option linter.unusedVariables false
set_option linter.unusedSimpArgs false
namespace Go.AM

/-! chapter 1 -/
def inR (n lo hi : Int) : Bool := decide (lo ≤ n) && decide (n ≤ hi)
theorem inR_iff {n lo hi : Int} : inR n lo hi = true ↔ lo ≤ n ∧ n ≤ hi := by simp [inR]
theorem inR_not {n lo hi : Int} : inR n lo hi = false ↔ ¬ (lo ≤ n ∧ n ≤ hi) := by rw [← inR_iff]; simp
def isP (c : UInt8) : Bool := decide (32 ≤ (c.toNat : Int)) && decide ((c.toNat : Int) ≤ 126)
theorem all_take {α : Type} {s : List α} {p : α → Bool} {i : Nat} {x : α} (hx : s[i]? = some x) (h : (s.take i).all p = true) : (s.take (i + 1)).all p = p x := by
  rw [List.take_add_one, List.all_append, h, hx]; simp
theorem all_not {α : Type} {s : List α} {p : α → Bool} {i : Nat} {x : α} (hx : s[i]? = some x) (h : p x = false) : s.all p = false := by
  rw [List.all_eq_false]; exact ⟨x, List.mem_of_getElem? hx, by simp [h]⟩
theorem all_end {α : Type} {s : List α} {p : α → Bool} {i : Nat} (hi : s.length ≤ i) (h : (s.take i).all p = true) : s.all p = true := by rwa [List.take_of_length_le hi] at h

def firstC (l : List Int) : Int := (l.find? (fun n => decide (n ≠ 0))).getD 0
theorem firstC_step {l : List Int} {i : Nat} {x : Int} (h : l[i]? = some x) : firstC (l.drop i) = if x = 0 then firstC (l.drop (i + 1)) else x := by
  obtain ⟨hi, hx⟩ := List.getElem?_eq_some_iff.1 h
  rw [List.drop_eq_getElem_cons hi, hx]
  unfold firstC
  by_cases h0 : x = 0
  · simp [h0]
  · simp [h0]
theorem firstC_end {l : List Int} {i : Nat} (h : l.length ≤ i) : firstC (l.drop i) = 0 := by
  rw [List.drop_eq_nil_of_le h]; rfl
theorem firstC_nil : firstC [] = 0 := rfl
theorem firstC_cons (x : Int) (l : List Int) : firstC (x :: l) = if x = 0 then firstC l else x := by
  unfold firstC
  by_cases h0 : x = 0
  · simp [h0]
  · simp [h0]

def lineF (s : List UInt8) : Int := if s.length < 1 ∨ 40 < s.length then 2 else if s.all isP then 0 else 5
/-! slices of Go's library -/
/-- the first index of what is so, counted from i; -1: none -/
def idxF {α : Type} (p : α → Bool) : List α → Nat → Int
  | [], _ => -1
  | x :: r, i => if p x then i else idxF p r (i + 1)
theorem idxF_step {α : Type} {p : α → Bool} {l : List α} {i : Nat} {x : α} (h : l[i]? = some x) : idxF p (l.drop i) i = if p x then (i : Int) else idxF p (l.drop (i + 1)) (i + 1) := by
  obtain ⟨hi, hx⟩ := List.getElem?_eq_some_iff.1 h
  rw [List.drop_eq_getElem_cons hi, hx]; rfl
theorem idxF_end {α : Type} {p : α → Bool} {l : List α} {i : Nat} (h : l.length ≤ i) : idxF p (l.drop i) i = -1 := by rw [List.drop_eq_nil_of_le h]; rfl
theorem idxF_any {α : Type} {p : α → Bool} : ∀ (l : List α) (i : Nat), decide (0 ≤ idxF p l i) = l.any p := by
  intro l
  induction l with
  | nil => intro i; simp [idxF]
  | cons x l ih =>
    intro i
    simp only [idxF, List.any_cons]
    by_cases hp : p x = true
    · simp [hp]
    · simpa [hp] using ih (i + 1)

/-! chapter 3 -/
def small (n : Int) : Bool := inR n (-1000000) 1000000
def varsF (l : List Int) : Int := if l.length ≠ 4 then 2 else if l.all small then 0 else 3
theorem varsF_eq (l : List Int) : firstC [if (!decide ((l.length : Int) = 4)) = true then 2 else 0, if (l.any fun n => !small n) = true then 3 else 0] = varsF l := by
  simp only [firstC_cons, firstC_nil, varsF]
  have e : (l.any fun n => !small n) = !l.all small := by simp [List.all_eq_not_any_not]
  rw [e]
  by_cases h : l.length = 4
  · have h2 : (l.length : Int) = 4 := by omega
    by_cases hs : l.all small = true
    · simp [h, h2, hs]
    · simp [h, h2, hs]
  · have h2 : ¬ (l.length : Int) = 4 := by omega
    simp [h, h2]

/-! chapter 10 -/
end Go.AM

/-! ### Pw -/
set_option linter.unusedVariables false
set_option linter.unusedSimpArgs false
namespace Go.AM
def TOfferResult.gok (x : TOfferResult) : Prop := x.claims.length ≤ 9223372036854775807

/-! bytes -/
@[go_sem ↓ high] theorem encB_B1 (s : List UInt8) : encB s = s.map B1 := rfl
theorem byteOfCell_B1 (b : UInt8) : byteOfCell [.int .u8 b.toNat] = some b := by
  have := b.toNat_lt
  simp [byteOfCell]; omega
theorem decB_B1 (s : List UInt8) : decB (s.map B1) = some s := decB_encB s
attribute [go_sem ↓ high] decB_B1 byteOfCell_B1
def b8 (n : Int) : UInt8 := UInt8.ofNat (n % 256).toNat
@[go_sem] theorem wrap_u8 (n : Int) : IntKind.wrap .u8 n = ((b8 n).toNat : Int) := by
  have h : (UInt8.ofNat (n % 256).toNat).toNat = (n % 256).toNat := by rw [UInt8.toNat_ofNat']; omega
  simp only [b8, h, IntKind.wrap, IntKind.bits, IntKind.signed]
  simp
  omega

/-! the digits of a mark -/
def digs : Nat → Int → List UInt8 → List UInt8
  | 0, _, acc => acc
  | n + 1, k, acc => if 0 < k then digs n (k / 10) (b8 (48 + k % 10) :: acc) else acc
def mt (k : Int) : List UInt8 := if k ≤ 0 then [109, 48] else 109 :: digs k.toNat k []
theorem digs_more : ∀ (n m : Nat) (k : Int) (acc : List UInt8), k.toNat ≤ n → k.toNat ≤ m → digs n k acc = digs m k acc := by
  intro n
  induction n with
  | zero =>
    intro m k acc h _
    have : ¬ 0 < k := by omega
    cases m with
    | zero => rfl
    | succ m => simp [digs, this]
  | succ n ih =>
    intro m k acc h h2
    cases m with
    | zero =>
      have : ¬ 0 < k := by omega
      simp [digs, this]
    | succ m =>
      simp only [digs]
      split
      · exact ih m _ _ (by omega) (by omega)
      · rfl
theorem digs_zero {n : Nat} {k : Int} {acc : List UInt8} (h : k ≤ 0) : digs n k acc = acc := by
  cases n with
  | zero => rfl
  | succ n => simp only [digs]; rw [if_neg (by omega)]
theorem digs_step {k : Int} {acc : List UInt8} (h : 0 < k) : digs k.toNat k acc = digs (k / 10).toNat (k / 10) (b8 (48 + k % 10) :: acc) := by
  obtain ⟨n, hn⟩ : ∃ n, k.toNat = n + 1 := ⟨k.toNat - 1, by omega⟩
  rw [hn]
  simp only [digs]
  rw [if_pos h]
  exact digs_more _ _ _ _ (by omega) (by omega)
theorem mt_big {k : Int} {n : Nat} (h : 0 < k) (h2 : k * 10 ^ n ≤ 4611686018427387904) : k ≤ 4611686018427387904 := by
  have h10 : (1 : Int) ≤ 10 ^ n := by have : (0 : Int) < 10 ^ n := Int.pow_pos (by omega); omega
  have := Int.mul_le_mul_of_nonneg_left h10 (show 0 ≤ k by omega)
  omega
theorem mt_step {k : Int} {n : Nat} (h : 0 < k) (h2 : k * 10 ^ n ≤ 4611686018427387904) : n ≤ 18 ∧ (k / 10) * 10 ^ (n + 1) ≤ 4611686018427387904 := by
  have h10 : (0 : Int) ≤ 10 ^ n := Int.pow_nonneg (by omega)
  refine ⟨?_, ?_⟩
  · rcases Nat.lt_or_ge 18 n with hn | hn
    · exfalso
      have e : (10 : Int) ^ n = 10 ^ 19 * 10 ^ (n - 19) := by rw [← Int.pow_add]; congr 1; omega
      have h1 : (1 : Int) ≤ 10 ^ (n - 19) := by have : (0 : Int) < 10 ^ (n - 19) := Int.pow_pos (by omega); omega
      have h3 : (10 : Int) ^ 19 * 1 ≤ 10 ^ 19 * 10 ^ (n - 19) := Int.mul_le_mul_of_nonneg_left h1 (by decide)
      have h4 : 1 * (10 : Int) ^ n ≤ k * 10 ^ n := Int.mul_le_mul_of_nonneg_right (by omega) h10
      have h5 : (10 : Int) ^ 19 * 1 = 10000000000000000000 := by decide
      omega
    · exact hn
  · have e : (k / 10) * 10 ^ (n + 1) = (k / 10 * 10) * 10 ^ n := by rw [Int.pow_succ]; rw [Int.mul_comm (10 ^ n) 10, ← Int.mul_assoc]
    rw [e]
    have : (k / 10 * 10) * 10 ^ n ≤ k * 10 ^ n := Int.mul_le_mul_of_nonneg_right (by omega) h10
    omega

/-! marks -/
def mkP {α : Type} (f : Int → α) (l : List α) (k : Int) (i : Nat) : List α := (List.range i).map (fun (j : Nat) => f (k + j)) ++ l.drop i
def mkL {α : Type} (f : Int → α) (n : Nat) (k : Int) : List α := (List.range n).map fun (j : Nat) => f (k + j)
theorem mkL_len {α : Type} {f : Int → α} {n : Nat} {k : Int} : (mkL f n k).length = n := by simp [mkL]
theorem mkP_len {α : Type} {f : Int → α} {l : List α} {k : Int} {i : Nat} (h : i ≤ l.length) : (mkP f l k i).length = l.length := by simp [mkP]; omega
theorem mkP_zero {α : Type} (f : Int → α) (l : List α) (k : Int) : mkP f l k 0 = l := by simp [mkP]
theorem mkP_end {α : Type} {f : Int → α} {l : List α} {k : Int} {i : Nat} (h : i = l.length) : mkP f l k i = mkL f l.length k := by subst h; simp [mkP, mkL]
theorem mkP_set {α : Type} {f : Int → α} {l : List α} {k : Int} {i : Nat} (h : i < l.length) : (mkP f l k i).set i (f (k + i)) = mkP f l k (i + 1) := by
  unfold mkP
  rw [List.set_append, if_neg (by simp), List.range_succ, List.map_append]
  have e2 : i - ((List.range i).map fun (j : Nat) => f (k + j)).length = 0 := by simp
  rw [e2, List.drop_eq_getElem_cons h, List.set_cons_zero, List.append_assoc]
  rfl
theorem mkP_at {α : Type} {f : Int → α} {l : List α} {k : Int} {i : Nat} {x : α} (h : l[i]? = some x) : (mkP f l k i)[i]? = some x := by
  have hi := at_lt h
  unfold mkP
  rw [List.getElem?_append_right (by simp)]
  simp [h]
end Go.AM

/-! ### M1 -/
set_option linter.unusedVariables false
set_option linter.unusedSimpArgs false
set_option maxHeartbeats 600000
set_option maxRecDepth 100000
namespace Go.AM
open Go.Proofs

/-- laws.markText -/
theorem dc_laws_markText (k : Int) (hk : k ≤ 4611686018427387904) : DC Tryz.prog 90 [.int .i64 k] (.str (mt k)) [] := by
 refine DC.intro tiOk Tryz.func90 rfl rfl rfl rfl rfl rfl rfl rfl [] ?_
 refine rg [0] ?_
 intro k hk; simp -dsimp [go_sem, -decide_eq_true_eq, -decide_eq_false_iff_not]
 repeat' first | apply And.intro | refine hk _ ?_ | intro hg | omega | exact True.intro
 all_goals clear hk k
 refine AW.seq ?_
 refine rg [0,5] ?_
 intro k hk; simp -dsimp [go_sem, -decide_eq_true_eq, -decide_eq_false_iff_not]
 repeat' first | apply And.intro | refine hk _ ?_ | intro hg | omega | exact True.intro
 all_goals clear hk k
 refine AW.cond rfl ?_ ?_
 ·intro hc; try simp at hc
  all_goals (
   refine rg [2] ?_
   intro k hk; simp -dsimp [go_sem, -decide_eq_true_eq, -decide_eq_false_iff_not]
   repeat' first | apply And.intro | refine hk _ ?_ | intro hg | omega | exact True.intro
   all_goals clear hk k
   refine rt ?_
   first | (simp [go_sem, Tryz.results90, mt, *]; done) | (have hz := digs_zero (n := k'.toNat) (k := k') (acc := acc) (by simpa using hc); have hk0 : ¬ k ≤ 0 := (by omega); simp [go_sem, Tryz.results90, mt, hk0, h4, hz]))
 ·intro hc; try simp at hc
  all_goals (
   refine AW.skipN (fun _ h => h) ?_
   refine rg [0,3] ?_
   intro k hk; simp -dsimp [go_sem, -decide_eq_true_eq, -decide_eq_false_iff_not]
   repeat' first | apply And.intro | refine hk _ ?_ | intro hg | omega | exact True.intro
   all_goals clear hk k
   refine AW.seq ?_
   refine AW.block ?_
   refine AW.loopI (fun i : Int × List UInt8 => ⟨20, [(0, .int .i64 i.1), (3, .str i.2)], []⟩) (fun i => 0 ≤ i.1 ∧ i.1 * 10 ^ i.2.length ≤ 4611686018427387904 ∧ i.2.length ≤ 19 ∧ digs k.toNat k [] = digs i.1.toNat i.1 i.2) (fun i => i.1.toNat) ((k, [])) (by refine ⟨by omega, by simp; omega, by simp, rfl⟩) (Less.of rfl (by simp [go_sem]) (by simp [go_sem])) ?_
   rintro ⟨k', acc⟩ ⟨h1, h2, h3, h4⟩
   simp only at h1 h2 h3 h4
   refine AW.seq ?_
   refine rg [0,3,7] ?_
   intro k hk; simp -dsimp [go_sem, -decide_eq_true_eq, -decide_eq_false_iff_not]
   repeat' first | apply And.intro | refine hk _ ?_ | intro hg | omega | exact True.intro
   all_goals clear hk k
   refine AW.cond rfl ?_ ?_
   ·intro hc; try simp at hc
    all_goals (
     have hlt : 0 < k' := by simpa using hc
     have htm : k'.tmod 10 = k' % 10 := Int.tmod_eq_emod_of_nonneg h1
     have htd : k'.tdiv 10 = k' / 10 := Int.tdiv_eq_ediv_of_nonneg h1
     have hkb := mt_big hlt h2
     have hw1 : IntKind.wrap .i64 (48 + k' % 10) = 48 + k' % 10 := wrap64 (by omega) (by omega)
     have hw2 : IntKind.wrap .i64 (k' / 10) = k' / 10 := wrap64 (by omega) (by omega)
     obtain ⟨hs1, hs2⟩ := mt_step hlt h2
     refine AW.skipN (fun _ h => h) ?_
     refine AW.block ?_
     refine rg [0,3] ?_
     intro k hk; simp -dsimp (maxSteps := 2000000) [go_sem, -decide_eq_true_eq, -decide_eq_false_iff_not, htm, htd, hw1, hw2]
     repeat' first | apply And.intro | refine hk _ ?_ | intro hg | omega | exact True.intro
     all_goals clear hk k
     refine rgK ?_
     intro k hk; simp -dsimp [go_sem, -decide_eq_true_eq, -decide_eq_false_iff_not, htm, htd, hw1, hw2]
     repeat' first | apply And.intro | refine hk _ ?_ | intro hg | omega | exact True.intro
     all_goals clear hk k
     show ∃ _, _
     refine ⟨(k' / 10, b8 (48 + k' % 10) :: acc), ⟨by simp only; omega, by simpa using hs2, by simp; omega, ?_⟩, by simp only; omega, Less.of rfl (by simp [go_sem, hw2]) (by simp [go_sem])⟩
     rw [h4, digs_step hlt])
   ·intro hc; try simp at hc
    all_goals (
     refine AW.exitN (fun _ h => h) ?_
     refine rg [2] ?_
     intro k hk; simp -dsimp [go_sem, -decide_eq_true_eq, -decide_eq_false_iff_not]
     repeat' first | apply And.intro | refine hk _ ?_ | intro hg | omega | exact True.intro
     all_goals clear hk k
     refine rt ?_
     first | (simp [go_sem, Tryz.results90, mt, *]; done) | (have hz := digs_zero (n := k'.toNat) (k := k') (acc := acc) (by simpa using hc); have hk0 : ¬ k ≤ 0 := (by omega); simp [go_sem, Tryz.results90, mt, hk0, h4, hz])))

end Go.AM

/-! ### Px -/
set_option linter.unusedVariables false
set_option linter.unusedSimpArgs false
namespace Go.AM

/-! the first code that is not 0, of f i, f (i + 1) .. f (n - 1) -/
def scN (f : Nat → Int) : Nat → Nat → Int
  | 0, _ => 0
  | m + 1, i => if f i = 0 then scN f m (i + 1) else f i
def sc (f : Nat → Int) (n i : Nat) : Int := scN f (n - i) i
theorem sc_step {f : Nat → Int} {n i : Nat} (h : i < n) : sc f n i = if f i = 0 then sc f n (i + 1) else f i := by
  unfold sc
  rw [show n - i = (n - (i + 1)) + 1 by omega]; rfl
theorem sc_end {f : Nat → Int} {n i : Nat} (h : n ≤ i) : sc f n i = 0 := by
  unfold sc; rw [show n - i = 0 by omega]; rfl
theorem sc_go {f : Nat → Int} {n i : Nat} (h : i < n) (h0 : f i = 0) : sc f n i = sc f n (i + 1) := by rw [sc_step h, if_pos h0]
theorem sc_hit {f : Nat → Int} {n i : Nat} (h : i < n) (h0 : f i ≠ 0) : sc f n i = f i := by rw [sc_step h, if_neg h0]
theorem sc_zero {f : Nat → Int} {n : Nat} : ∀ {m i : Nat}, n - i = m → sc f n i = 0 → ∀ k, i ≤ k → k < n → f k = 0 := by
  intro m
  induction m with
  | zero => intro i hm _ k h1 h2; omega
  | succ m ih =>
    intro i hm h k h1 h2
    have hi : i < n := by omega
    rw [sc_step hi] at h
    split at h
    · rename_i h0
      rcases Nat.eq_or_lt_of_le h1 with rfl | h1
      · exact h0
      · exact ih (by omega) h k h1 h2
    · exact absurd h (by assumption)
theorem sc_all {f : Nat → Int} {n : Nat} (h : sc f n 0 = 0) : ∀ k, k < n → f k = 0 := fun k hk => sc_zero rfl h k (Nat.zero_le _) hk
/-! nodes -/
instance : Inhabited TNode := ⟨⟨0, 0, 0, 0⟩⟩
def nA (e : List TNode) (i : Nat) : TNode := e.getD i default
def isTwoB (k : Int) : Bool := inR k 3 9
/-- the code of a node at a place -/
def nodeF (n : TNode) (at_ : Int) : Int :=
  if n.kind < 1 ∨ 10 < n.kind then 1
  else if n.kind ≤ 2 then
    if n.left ≠ 0 ∨ n.right ≠ 0 then 1 else if n.val < 0 ∨ (if n.kind = 2 then 3 else 9999) < n.val then 3 else 0
  else if n.kind = 10 then
    if n.val ≠ 0 ∨ n.right ≠ 0 then 1 else if n.left < 0 ∨ at_ ≤ n.left then 3 else 0
  else if n.val ≠ 0 then 1 else if n.left < 0 ∨ at_ ≤ n.left ∨ n.right < 0 ∨ at_ ≤ n.right then 3 else 0
def nodeAt (e : List TNode) (i : Nat) : Int := nodeF (nA e i) i

/-- what is needed of the nodes: parts lie ahead -/
def PartsOk (e : List TNode) (n : Nat) : Prop := ∀ i, i < n → nodeAt e i = 0

theorem nodeF_parts {n : TNode} {i : Nat} (h : nodeF n i = 0) : (n.kind = 10 → 0 ≤ n.left ∧ n.left.toNat < i) ∧ (isTwoB n.kind = true → 0 ≤ n.left ∧ n.left.toNat < i ∧ 0 ≤ n.right ∧ n.right.toNat < i) ∧ 1 ≤ n.kind ∧ n.kind ≤ 10 ∧ (n.kind ≤ 2 ↔ (n.kind ≠ 10 ∧ isTwoB n.kind = false)) := by
  unfold nodeF at h
  split at h
  · cases h
  split at h
  · refine ⟨fun _ => by omega, fun h2 => ?_, by omega, by omega, ?_⟩
    · have := inR_iff.1 h2; omega
    · rw [isTwoB, inR_not]; omega
  split at h
  · split at h
    · cases h
    split at h
    · cases h
    · refine ⟨fun _ => by omega, fun h2 => ?_, by omega, by omega, ?_⟩
      · have := inR_iff.1 h2; omega
      · omega
  · split at h
    · cases h
    split at h
    · cases h
    · refine ⟨fun _ => by omega, fun _ => by omega, by omega, by omega, ?_⟩
      rw [isTwoB, inR_not]; omega

/-! sizes: as the program counts them -/
def sizeOf1 (e : List TNode) (s : List Int) (i : Nat) : Int :=
  let n := nA e i
  if n.kind = 10 then 1 + s.getD n.left.toNat 0 else if isTwoB n.kind then 1 + s.getD n.left.toNat 0 + s.getD n.right.toNat 0 else 1
def sizesL (e : List TNode) : Nat → List Int
  | 0 => []
  | i + 1 => sizesL e i ++ [sizeOf1 e (sizesL e i) i]
theorem sizesL_len (e : List TNode) (n : Nat) : (sizesL e n).length = n := by
  induction n with
  | zero => rfl
  | succ n ih => simp [sizesL, ih]
def szA (e : List TNode) (i : Nat) : Int := (sizesL e (i + 1)).getD i 0
theorem sizesL_get (e : List TNode) (i : Nat) : ∀ n, i < n → (sizesL e n).getD i 0 = szA e i := by
  intro n
  induction n with
  | zero => intro h; omega
  | succ n ih =>
    intro h
    rcases Nat.eq_or_lt_of_le (Nat.le_of_lt_succ h) with rfl | h'
    · rfl
    · have := ih h'
      rw [← this]
      simp [sizesL, List.getD, List.getElem?_append_left (show i < (sizesL e n).length by rw [sizesL_len]; exact h')]
theorem szA_eq (e : List TNode) (i : Nat) : szA e i = sizeOf1 e (sizesL e i) i := by
  unfold szA
  simp [sizesL, List.getD, sizesL_len]
/-- is a node out of order, as the program looks at it? -/
def wrong1 (e : List TNode) (i : Nat) : Bool :=
  let n := nA e i
  if n.kind = 10 then decide (n.left ≠ (i : Int) - 1)
  else if isTwoB n.kind then decide (n.right ≠ (i : Int) - 1) || decide (n.left ≠ (i : Int) - 1 - szA e n.right.toNat)
  else false
def wrongU (e : List TNode) (i : Nat) : Bool := (List.range i).any (wrong1 e)
theorem wrongU_step (e : List TNode) (i : Nat) : wrongU e (i + 1) = (wrongU e i || wrong1 e i) := by
  unfold wrongU; rw [List.range_succ, List.any_append]; simp

/-! the walk -/
/-- the order of a node and its parts -/
def post (e : List TNode) : Nat → Nat → List Nat
  | 0, _ => []
  | f + 1, i =>
    let n := nA e i
    if n.kind = 10 then post e f n.left.toNat ++ [i]
    else if isTwoB n.kind then post e f n.left.toNat ++ post e f n.right.toNat ++ [i]
    else [i]
def po (e : List TNode) (i : Nat) : List Nat := post e (i + 1) i
theorem post_more {e : List TNode} {n : Nat} (hp : PartsOk e n) : ∀ (f g i : Nat), i < n → i < f → i < g → post e f i = post e g i := by
  intro f
  induction f with
  | zero => intro g i _ h _; omega
  | succ f ih =>
    intro g i hn hf hg
    cases g with
    | zero => omega
    | succ g =>
      have hq := nodeF_parts (hp i hn)
      simp only [post]
      split
      · rename_i h10
        have := hq.1 h10
        rw [ih g _ (by omega) (by omega) (by omega)]
      · split
        · rename_i h2
          have := hq.2.1 h2
          rw [ih g _ (by omega) (by omega) (by omega), ih g _ (by omega) (by omega) (by omega)]
        · rfl
theorem po_eq {e : List TNode} {n i : Nat} (hp : PartsOk e n) (hi : i < n) : po e i = if (nA e i).kind = 10 then po e (nA e i).left.toNat ++ [i] else if isTwoB (nA e i).kind then po e (nA e i).left.toNat ++ po e (nA e i).right.toNat ++ [i] else [i] := by
  have hq := nodeF_parts (hp i hi)
  show post e (i + 1) i = _
  simp only [post]
  split
  · rename_i h10
    have := hq.1 h10
    rw [post_more hp i _ _ (by omega) (by omega) (Nat.lt_succ_self _)]; rfl
  · split
    · rename_i h2
      have := hq.2.1 h2
      rw [post_more hp i _ (nA e i).left.toNat (by omega) (by omega) (Nat.lt_succ_self _), post_more hp i _ (nA e i).right.toNat (by omega) (by omega) (Nat.lt_succ_self _)]; rfl
    · rfl

theorem po_len {e : List TNode} {n : Nat} (hp : PartsOk e n) : ∀ (k i : Nat), i ≤ k → i < n → ((po e i).length : Int) = szA e i ∧ 1 ≤ szA e i ∧ szA e i ≤ 2 ^ (i + 1) - 1 := by
  intro k
  induction k with
  | zero =>
    intro i hk hi
    have hq := nodeF_parts (hp i hi)
    obtain rfl : i = 0 := by omega
    rw [po_eq hp hi, szA_eq]
    unfold sizeOf1
    split
    · rename_i h10
      have := hq.1 h10; omega
    · split
      · rename_i h2
        have := hq.2.1 h2; omega
      · rename_i h1 h2; simp only [h1, h2, if_false, Bool.false_eq_true]; simp
  | succ k ih =>
    intro i hk hi
    have hq := nodeF_parts (hp i hi)
    rw [po_eq hp hi, szA_eq]
    unfold sizeOf1
    have pw : (2 : Int) ^ (i + 1) = 2 * 2 ^ i := by rw [Int.pow_succ]; omega
    have mono : ∀ j, j < i → (2 : Int) ^ (j + 1) ≤ 2 ^ i := fun j hj => by
      have := Nat.pow_le_pow_right (n := 2) (by decide) (show j + 1 ≤ i by omega)
      exact_mod_cast this
    have p1 : (1 : Int) ≤ 2 ^ i := by
      have := Nat.pow_le_pow_right (n := 2) (by decide) (Nat.zero_le i)
      exact_mod_cast this
    split
    · rename_i h10
      have hl := hq.1 h10
      have h1 := ih _ (show (nA e i).left.toNat ≤ k by omega) (by omega)
      have hm := mono _ hl.2
      simp only [h10, if_true]
      rw [sizesL_get e _ i hl.2]
      simp only [List.length_append, List.length_cons, List.length_nil]
      omega
    · split
      · rename_i h10 h2
        have hl := hq.2.1 h2
        have h1 := ih _ (show (nA e i).left.toNat ≤ k by omega) (by omega)
        have h3 := ih _ (show (nA e i).right.toNat ≤ k by omega) (by omega)
        have hm := mono _ hl.2.1
        have hm2 := mono _ hl.2.2.2
        simp only [h10, h2, if_true, if_false]
        rw [sizesL_get e _ i hl.2.1, sizesL_get e _ i hl.2.2.2]
        simp only [List.length_append, List.length_cons, List.length_nil]
        omega
      · rename_i h10 h2
        simp only [h10, h2, if_false, Bool.false_eq_true]
        simp; omega
theorem sz_bd {e : List TNode} {n i : Nat} (hp : PartsOk e n) (hi : i < n) (h16 : i ≤ 16) : 1 ≤ szA e i ∧ szA e i ≤ 131071 := by
  have h := (po_len hp i i (Nat.le_refl _) hi).2
  have : (2 : Int) ^ (i + 1) ≤ 2 ^ 17 := by
    have := Nat.pow_le_pow_right (n := 2) (by decide) (show i + 1 ≤ 17 by omega)
    exact_mod_cast this
  have e : (2 : Int) ^ 17 = 131072 := by decide
  omega

/-- a stretch of places -/
def stretch (a m : Nat) : List Nat := List.range' a m
theorem po_good {e : List TNode} {n : Nat} (hp : PartsOk e n) : ∀ (k i : Nat), i ≤ k → i < n → wrongU e (i + 1) = false → szA e i ≤ i + 1 ∧ po e i = stretch (i + 1 - (szA e i).toNat) (szA e i).toNat := by
  intro k
  induction k with
  | zero =>
    intro i hk hi hw
    have hq := nodeF_parts (hp i hi)
    obtain rfl : i = 0 := by omega
    have hs := po_len hp 0 0 (Nat.le_refl _) hi
    have hs1 : szA e 0 = 1 := by omega
    rw [hs1]
    refine ⟨by omega, ?_⟩
    rw [po_eq hp hi]
    split
    · rename_i h10
      have := hq.1 h10; omega
    · split
      · rename_i h2
        have := hq.2.1 h2; omega
      · rfl
  | succ k ih =>
    intro i hk hi hw
    have hq := nodeF_parts (hp i hi)
    rw [wrongU_step] at hw
    have hw1 : wrongU e i = false := by revert hw; cases wrongU e i <;> simp
    have hw2 : wrong1 e i = false := by revert hw; cases wrong1 e i <;> simp
    have sub : ∀ j, j < i → wrongU e (j + 1) = false := by
      intro j hj
      rw [Bool.eq_false_iff] at hw1 ⊢
      intro h; apply hw1
      unfold wrongU at h ⊢
      simp only [List.any_eq_true, List.mem_range] at h ⊢
      obtain ⟨x, h1, h2⟩ := h
      exact ⟨x, by omega, h2⟩
    have hl0 := po_len hp i i (Nat.le_refl _) hi
    have hszl : (po e i).length = (szA e i).toNat := by omega
    have he := szA_eq e i
    unfold sizeOf1 at he
    unfold wrong1 at hw2
    rw [po_eq hp hi]
    by_cases h10 : (nA e i).kind = 10
    · simp only [h10, if_true] at he hw2 ⊢
      have hl := hq.1 h10
      rw [sizesL_get e _ i hl.2] at he
      simp only [ne_eq, decide_not, Bool.not_eq_false', decide_eq_true_eq] at hw2
      have h1 := ih _ (show (nA e i).left.toNat ≤ k by omega) (by omega) (sub _ hl.2)
      have hb := (po_len hp _ _ (Nat.le_refl _) (show (nA e i).left.toNat < n by omega)).2.1
      refine ⟨by omega, ?_⟩
      rw [h1.2]
      unfold stretch
      have : (szA e i).toNat = (szA e (nA e i).left.toNat).toNat + 1 := by omega
      rw [this, List.range'_concat]
      rw [show i + 1 - ((szA e (nA e i).left.toNat).toNat + 1) = (nA e i).left.toNat + 1 - (szA e (nA e i).left.toNat).toNat by omega]
      congr 2; omega
    · by_cases h2 : isTwoB (nA e i).kind = true
      · simp only [h10, h2, if_true, if_false] at he hw2 ⊢
        have hl := hq.2.1 h2
        rw [sizesL_get e _ i hl.2.1, sizesL_get e _ i hl.2.2.2] at he
        simp only [Bool.or_eq_false_iff, ne_eq, decide_not, Bool.not_eq_false', decide_eq_true_eq] at hw2
        have h1 := ih _ (show (nA e i).left.toNat ≤ k by omega) (by omega) (sub _ hl.2.1)
        have h3 := ih _ (show (nA e i).right.toNat ≤ k by omega) (by omega) (sub _ hl.2.2.2)
        have hb := (po_len hp _ _ (Nat.le_refl _) (show (nA e i).left.toNat < n by omega)).2.1
        have hb2 := (po_len hp _ _ (Nat.le_refl _) (show (nA e i).right.toNat < n by omega)).2.1
        refine ⟨by omega, ?_⟩
        rw [h1.2, h3.2]
        unfold stretch
        generalize hA : (szA e (nA e i).left.toNat).toNat = A at *
        generalize hB : (szA e (nA e i).right.toNat).toNat = B at *
        have hC : (szA e i).toNat = A + B + 1 := by omega
        rw [hC, List.range'_concat, show A + B = B + A by omega]
        rw [show i + 1 - (B + A + 1) = (nA e i).left.toNat + 1 - A by omega]
        rw [show B + A = A + B by omega, ← List.range'_append_1]
        rw [show (nA e i).left.toNat + 1 - A + A = (nA e i).right.toNat + 1 - B by omega]
        congr 2; omega
      · simp only [h10, h2, if_false, Bool.false_eq_true] at he ⊢
        refine ⟨by omega, ?_⟩
        rw [he]
        simp [stretch]

/-- a part's order stands whole in the order -/
theorem po_infix {e : List TNode} {n : Nat} (hp : PartsOk e n) : ∀ (k r i : Nat), r ≤ k → r < n → i ∈ po e r → ∃ a b, po e r = a ++ po e i ++ b ∧ i ≤ r := by
  intro k
  induction k with
  | zero =>
    intro r i hk hr hi
    obtain rfl : r = 0 := by omega
    have hq := nodeF_parts (hp 0 hr)
    rw [po_eq hp hr] at hi
    split at hi
    · rename_i h10
      have := hq.1 h10; omega
    · split at hi
      · rename_i h2
        have := hq.2.1 h2; omega
      · simp at hi; subst hi; exact ⟨[], [], by simp, Nat.le_refl _⟩
  | succ k ih =>
    intro r i hk hr hi
    have hq := nodeF_parts (hp r hr)
    by_cases hir : i = r
    · subst hir; exact ⟨[], [], by simp, Nat.le_refl _⟩
    have e0 := po_eq hp hr
    rw [e0] at hi ⊢
    split at hi
    · rename_i h10
      have hl := hq.1 h10
      simp only [h10, if_true]
      simp only [List.mem_append, List.mem_singleton, hir, or_false] at hi
      obtain ⟨a, b, h1, h2⟩ := ih _ i (by omega) (by omega) hi
      exact ⟨a, b ++ [r], by rw [h1]; simp, by omega⟩
    · split at hi
      · rename_i h10 h2
        have hl := hq.2.1 h2
        simp only [h10, h2, if_true, if_false]
        simp only [List.mem_append, List.mem_singleton, hir, or_false] at hi
        rcases hi with hi | hi
        · obtain ⟨a, b, h1, h2⟩ := ih _ i (by omega) (by omega) hi
          exact ⟨a, b ++ po e (nA e r).right.toNat ++ [r], by rw [h1]; simp, by omega⟩
        · obtain ⟨a, b, h1, h2⟩ := ih _ i (by omega) (by omega) hi
          exact ⟨po e (nA e r).left.toNat ++ a, b ++ [r], by rw [h1]; simp, by omega⟩
      · simp at hi; exact absurd hi hir
theorem po_last {e : List TNode} {n i : Nat} (hp : PartsOk e n) (hi : i < n) : ∃ a, po e i = a ++ [i] := by
  rw [po_eq hp hi]
  split
  · exact ⟨_, rfl⟩
  · split
    · exact ⟨_, rfl⟩
    · exact ⟨[], rfl⟩
theorem range_at {n : Nat} {a b : List Nat} {i : Nat} (h : List.range n = a ++ i :: b) : a.length = i := by
  have := congrArg (fun l => l[a.length]?) h
  simp only [List.getElem?_append_right (Nat.le_refl _), Nat.sub_self, List.getElem?_cons_zero] at this
  obtain ⟨h1, h2⟩ := List.getElem?_eq_some_iff.1 this
  simpa using h2
theorem po_bad {e : List TNode} {n : Nat} (hp : PartsOk e n) (hn : 0 < n) (h : po e (n - 1) = List.range n) : wrongU e n = false ∧ szA e (n - 1) = n := by
  have hl := po_len hp (n - 1) (n - 1) (Nat.le_refl _) (by omega)
  rw [h, List.length_range] at hl
  refine ⟨?_, by omega⟩
  unfold wrongU
  rw [Bool.eq_false_iff]
  intro hw
  simp only [List.any_eq_true, List.mem_range] at hw
  obtain ⟨i, hi, hw⟩ := hw
  have hq := nodeF_parts (hp i hi)
  obtain ⟨a, b, h1, _⟩ := po_infix hp (n - 1) (n - 1) i (Nat.le_refl _) (by omega) (by rw [h]; exact List.mem_range.2 hi)
  rw [h] at h1
  unfold wrong1 at hw
  have e0 := po_eq hp hi
  by_cases h10 : (nA e i).kind = 10
  · simp only [h10, if_true] at hw e0
    have hl := hq.1 h10
    obtain ⟨c, hc⟩ := po_last hp (show (nA e i).left.toNat < n by omega)
    rw [e0, hc] at h1
    have p1 := range_at (i := i) (a := a ++ (c ++ [(nA e i).left.toNat])) (b := b) (by rw [h1]; simp)
    have p2 := range_at (i := (nA e i).left.toNat) (a := a ++ c) (b := i :: b) (by rw [h1]; simp)
    simp at p1 p2 hw
    omega
  · by_cases h2 : isTwoB (nA e i).kind = true
    · simp only [h10, h2, if_true, if_false] at hw e0
      have hl := hq.2.1 h2
      obtain ⟨c, hc⟩ := po_last hp (show (nA e i).left.toNat < n by omega)
      obtain ⟨d, hd⟩ := po_last hp (show (nA e i).right.toNat < n by omega)
      have hlen := (po_len hp _ _ (Nat.le_refl _) (show (nA e i).right.toNat < n by omega)).1
      rw [hd] at hlen
      rw [e0, hc, hd] at h1
      have p1 := range_at (i := i) (a := a ++ (c ++ [(nA e i).left.toNat]) ++ (d ++ [(nA e i).right.toNat])) (b := b) (by rw [h1]; simp)
      have p2 := range_at (i := (nA e i).left.toNat) (a := a ++ c) (b := (d ++ [(nA e i).right.toNat]) ++ i :: b) (by rw [h1]; simp)
      have p3 := range_at (i := (nA e i).right.toNat) (a := a ++ (c ++ [(nA e i).left.toNat]) ++ d) (b := i :: b) (by rw [h1]; simp)
      simp at p1 p2 p3 hw hlen
      omega
    · simp only [h10, h2, if_false, Bool.false_eq_true] at hw
/-- both tell the same -/
theorem po_iff {e : List TNode} {n : Nat} (hp : PartsOk e n) (hn : 0 < n) : po e (n - 1) = List.range n ↔ (wrongU e n = false ∧ szA e (n - 1) = n) := by
  constructor
  · exact po_bad hp hn
  · rintro ⟨h1, h2⟩
    have h := (po_good hp (n - 1) (n - 1) (Nat.le_refl _) (by omega) (by rwa [show n - 1 + 1 = n by omega])).2
    rw [h, h2]
    unfold stretch
    rw [List.range_eq_range', show n - 1 + 1 - (n : Int).toNat = 0 by omega]
    simp

/-- the walk that stops behind 16 -/
def walkC (e : List TNode) : Nat → Nat → List Nat → List Nat
  | 0, _, out => out
  | f + 1, i, out =>
    if 16 < out.length then out
    else
      let n := nA e i
      let o1 := if 2 < n.kind then walkC e f n.left.toNat out else out
      let o2 := if isTwoB n.kind then walkC e f n.right.toNat o1 else o1
      o2 ++ [i]
theorem walkC_mono {e : List TNode} : ∀ (f i : Nat) (out : List Nat), out.length ≤ (walkC e f i out).length := by
  intro f
  induction f with
  | zero => intro i out; exact Nat.le_refl _
  | succ f ih =>
    intro i out
    simp only [walkC]
    split
    · exact Nat.le_refl _
    · simp only [List.length_append, List.length_cons, List.length_nil]
      have h1 : out.length ≤ (if 2 < (nA e i).kind then walkC e f (nA e i).left.toNat out else out).length := by
        split
        · exact ih _ _
        · exact Nat.le_refl _
      generalize (if 2 < (nA e i).kind then walkC e f (nA e i).left.toNat out else out) = o1 at *
      split
      · have := ih (nA e i).right.toNat o1; omega
      · omega
theorem walkC_eq {e : List TNode} {n : Nat} (hp : PartsOk e n) : ∀ (f i : Nat) (out : List Nat), i < n → i < f → (out.length + (po e i).length ≤ 17 → walkC e f i out = out ++ po e i) ∧ (17 < out.length + (po e i).length → 17 ≤ (walkC e f i out).length) := by
  intro f
  induction f with
  | zero => intro i out _ h; omega
  | succ f ih =>
    intro i out hn hf
    have hq := nodeF_parts (hp i hn)
    have hl1 := (po_len hp i i (Nat.le_refl _) hn)
    have e0 := po_eq hp hn
    simp only [walkC]
    by_cases h16 : 16 < out.length
    · rw [if_pos h16]
      exact ⟨fun h => by omega, fun _ => by omega⟩
    · rw [if_neg h16]
      by_cases h10 : (nA e i).kind = 10
      · have hl := hq.1 h10
        have n2 : isTwoB (nA e i).kind = false := by rw [isTwoB, inR_not]; omega
        have i1 := ih (nA e i).left.toNat out (by omega) (by omega)
        rw [if_pos (show 2 < (nA e i).kind by omega)]
        simp only [n2, Bool.false_eq_true, if_false]
        rw [if_pos h10] at e0
        rw [e0]
        simp only [List.length_append, List.length_cons, List.length_nil]
        constructor
        · intro h
          rw [i1.1 (by omega)]; simp
        · intro h
          by_cases hh : out.length + (po e (nA e i).left.toNat).length ≤ 17
          · rw [i1.1 hh]; simp; omega
          · have := i1.2 (by omega); simp; omega
      · by_cases h2 : isTwoB (nA e i).kind = true
        · have hl := hq.2.1 h2
          have hk := inR_iff.1 h2
          have i1 := ih (nA e i).left.toNat out (by omega) (by omega)
          simp only [if_pos (show 2 < (nA e i).kind by omega), h10, h2, if_true, if_false] at e0 ⊢
          rw [e0]
          simp only [List.length_append, List.length_cons, List.length_nil]
          have hr1 := (po_len hp _ _ (Nat.le_refl _) (show (nA e i).right.toNat < n by omega))
          by_cases hh : out.length + (po e (nA e i).left.toNat).length ≤ 17
          · rw [i1.1 hh]
            have i2 := ih (nA e i).right.toNat (out ++ po e (nA e i).left.toNat) (by omega) (by omega)
            simp only [List.length_append] at i2
            constructor
            · intro h
              rw [i2.1 (by omega)]; simp
            · intro h
              by_cases h3 : out.length + (po e (nA e i).left.toNat).length + (po e (nA e i).right.toNat).length ≤ 17
              · rw [i2.1 h3]; simp; omega
              · have := i2.2 (by omega); omega
          · have h5 := i1.2 (by omega)
            have h6 := walkC_mono (e := e) f (nA e i).right.toNat (walkC e f (nA e i).left.toNat out)
            exact ⟨fun h => by omega, fun _ => by omega⟩
        · have hk : (nA e i).kind ≤ 2 := hq.2.2.2.2.2 ⟨h10, by simpa using h2⟩
          simp only [if_neg (show ¬ 2 < (nA e i).kind by omega), h10, h2, if_false, Bool.false_eq_true] at e0 ⊢
          rw [e0]
          simp only [List.length_append, List.length_cons, List.length_nil]
          exact ⟨fun _ => trivial, fun h => by omega⟩
def wkF (e : List TNode) (i : Nat) (out : List Nat) : List Nat := walkC e (i + 1) i out
theorem wk_iff {e : List TNode} {n : Nat} (hp : PartsOk e n) (hn : 0 < n) (h16 : n ≤ 16) : wkF e (n - 1) [] = List.range n ↔ (wrongU e n = false ∧ szA e (n - 1) = n) := by
  rw [← po_iff hp hn]
  have h := walkC_eq hp (n - 1 + 1) (n - 1) [] (by omega) (Nat.lt_succ_self _)
  unfold wkF
  simp only [List.length_nil, Nat.zero_add, List.nil_append] at h
  by_cases hh : (po e (n - 1)).length ≤ 17
  · rw [h.1 hh]
  · constructor
    · intro hw
      have := h.2 (by omega)
      rw [hw, List.length_range] at this; omega
    · intro hw
      rw [hw, List.length_range] at hh; omega

/-- the code of an expression -/
def exprF (e : List TNode) : Int :=
  if inR e.length 1 16 = false then 2
  else if sc (nodeAt e) e.length 0 ≠ 0 then sc (nodeAt e) e.length 0
  else if wrongU e e.length = true ∨ szA e (e.length - 1) ≠ e.length then 1 else 0
end Go.AM

/-! ### Py -/
set_option linter.unusedVariables false
set_option linter.unusedSimpArgs false
namespace Go.AM

theorem walkC_more {e : List TNode} {n : Nat} (hp : PartsOk e n) : ∀ (f g i : Nat) (out : List Nat), i < n → i < f → i < g → walkC e f i out = walkC e g i out := by
  intro f
  induction f with
  | zero => intro g i out _ h; omega
  | succ f ih =>
    intro g i out hn hf hg
    cases g with
    | zero => omega
    | succ g =>
      have hq := nodeF_parts (hp i hn)
      simp only [walkC]
      by_cases h10 : (nA e i).kind = 10
      · have hl := hq.1 h10
        have n2 : isTwoB (nA e i).kind = false := by rw [isTwoB, inR_not]; omega
        simp only [n2, Bool.false_eq_true, if_false]
        rw [ih g (nA e i).left.toNat out (by omega) (by omega) (by omega)]
      · by_cases h2 : isTwoB (nA e i).kind = true
        · have hl := hq.2.1 h2
          simp only [h2]
          rw [ih g (nA e i).left.toNat _ (by omega) (by omega) (by omega), ih g (nA e i).right.toNat _ (by omega) (by omega) (by omega)]
        · have hk : (nA e i).kind ≤ 2 := hq.2.2.2.2.2 ⟨h10, by simpa using h2⟩
          simp only [if_neg (show ¬ 2 < (nA e i).kind by omega), h2, Bool.false_eq_true, if_false]
theorem wkF_eq {e : List TNode} {n i : Nat} (hp : PartsOk e n) (hi : i < n) (out : List Nat) : wkF e i out = if 16 < out.length then out else
    (if isTwoB (nA e i).kind then wkF e (nA e i).right.toNat (if 2 < (nA e i).kind then wkF e (nA e i).left.toNat out else out) else (if 2 < (nA e i).kind then wkF e (nA e i).left.toNat out else out)) ++ [i] := by
  have hq := nodeF_parts (hp i hi)
  unfold wkF
  conv => lhs; unfold walkC
  split
  · rfl
  · simp only
    by_cases h10 : (nA e i).kind = 10
    · have hl := hq.1 h10
      have n2 : isTwoB (nA e i).kind = false := by rw [isTwoB, inR_not]; omega
      simp only [n2, Bool.false_eq_true, if_false]
      rw [walkC_more hp i ((nA e i).left.toNat + 1) (nA e i).left.toNat out (by omega) (by omega) (by omega)]
    · by_cases h2 : isTwoB (nA e i).kind = true
      · have hl := hq.2.1 h2
        simp only [h2]
        rw [walkC_more hp i ((nA e i).left.toNat + 1) (nA e i).left.toNat _ (by omega) (by omega) (by omega), walkC_more hp i ((nA e i).right.toNat + 1) (nA e i).right.toNat _ (by omega) (by omega) (by omega)]
      · have hk : (nA e i).kind ≤ 2 := hq.2.2.2.2.2 ⟨h10, by simpa using h2⟩
        simp only [if_neg (show ¬ 2 < (nA e i).kind by omega), h2, Bool.false_eq_true, if_false]

/-! types -/
def ownT (k : Int) : Int := if k ≤ 6 then 1 else 2
def partT (k : Int) : Int := if k ≤ 8 then 1 else 2
def typBad (e : List TNode) (i : Nat) : Bool :=
  let n := nA e i
  (decide (2 < n.kind) && decide (ownT (nA e n.left.toNat).kind ≠ partT n.kind)) || (isTwoB n.kind && decide (ownT (nA e n.right.toNat).kind ≠ partT n.kind))
def typU (e : List TNode) (i : Nat) : Bool := (List.range i).any (typBad e)
theorem typU_step (e : List TNode) (i : Nat) : typU e (i + 1) = (typU e i || typBad e i) := by
  unfold typU; rw [List.range_succ, List.any_append]; simp
theorem typU_mono {e : List TNode} {i n : Nat} (h : i ≤ n) (hu : typU e i = true) : typU e n = true := by
  unfold typU at *
  simp only [List.any_eq_true, List.mem_range] at *
  obtain ⟨x, h1, h2⟩ := hu
  exact ⟨x, by omega, h2⟩
def typC (e : List TNode) : Int := if exprF e ≠ 0 then exprF e else if typU e e.length = true then 7 else 0
def typV (e : List TNode) : Int := if typC e ≠ 0 then 0 else ownT (nA e (e.length - 1)).kind
/-- the code of an expression that has to have a type, if it is there -/
def typF (e : List TNode) (want : Int) : Int := if e.length = 0 then 0 else if typC e ≠ 0 then typC e else if typV e ≠ want then 7 else 0

/-! names -/
def isLow (c : UInt8) : Bool := decide (97 ≤ (c.toNat : Int)) && decide ((c.toNat : Int) ≤ 122)
def nameF (s : List UInt8) : Int := if s.all isLow = false ∨ s.length = 0 then 5 else if 8 < s.length then 2 else 0

/-! parents -/
/-- parents lie ahead -/
def ParOk (l : List Int) : Prop := ∀ k, k < l.length → -1 ≤ l.getD k 0 ∧ l.getD k 0 < k
def upF (l : List Int) : Nat → Int → Int → Bool
  | 0, _, _ => false
  | f + 1, a, par => if a < 0 then false else if a = par then true else upF l f (l.getD a.toNat 0) par
/-- is it on the way up from a place? -/
def upB (l : List Int) (a par : Int) : Bool := upF l (a + 1).toNat a par
theorem upF_more {l : List Int} (hl : ParOk l) {par : Int} : ∀ (f g : Nat) (a : Int), a < l.length → a < f → a < g → upF l f a par = upF l g a par := by
  intro f
  induction f with
  | zero =>
    intro g a _ hf _
    cases g with
    | zero => rfl
    | succ g => simp only [upF]; rw [if_pos (by omega)]
  | succ f ih =>
    intro g a hn hf hg
    cases g with
    | zero => simp only [upF]; rw [if_pos (by omega)]
    | succ g =>
      simp only [upF]
      split
      · rfl
      · split
        · rfl
        · have := hl a.toNat (by omega)
          exact ih g _ (by omega) (by omega) (by omega)
theorem upB_neg {l : List Int} {a par : Int} (h : a < 0) : upB l a par = false := by
  unfold upB
  rw [show (a + 1).toNat = 0 by omega]; rfl
theorem upB_eq {l : List Int} (hl : ParOk l) {a par : Int} (h0 : 0 ≤ a) (hn : a < l.length) : upB l a par = if a = par then true else upB l (l.getD a.toNat 0) par := by
  unfold upB
  obtain ⟨m, hm⟩ : ∃ m : Nat, a = m := ⟨a.toNat, by omega⟩
  subst hm
  rw [show ((m : Int) + 1).toNat = m + 1 by omega]
  simp only [upF]
  rw [if_neg (by omega)]
  split
  · rfl
  · have := hl m (by omega)
    rw [Int.toNat_natCast] at *
    exact upF_more hl m _ _ (by omega) (by omega) (by omega)
theorem upB_lt {l : List Int} (hl : ParOk l) {par : Int} : ∀ (k : Nat) (a : Int), a < k → a < l.length → a < par → upB l a par = false := by
  intro k
  induction k with
  | zero => intro a hk _ _; exact upB_neg (by omega)
  | succ k ih =>
    intro a hk hn hp
    by_cases h0 : a < 0
    · exact upB_neg h0
    · have := hl a.toNat (by omega)
      rw [upB_eq hl (by omega) hn, if_neg (by omega)]
      exact ih _ (by omega) (by omega) (by omega)
/-- the code of the next parent -/
def parF (l : List Int) (par : Int) : Int :=
  if (l.length = 0 ∧ par ≠ -1) ∨ (0 < l.length ∧ (par < 0 ∨ (l.length : Int) ≤ par)) then 3
  else if 0 < l.length ∧ upB l ((l.length : Int) - 1) par = false then 1 else 0
theorem ParOk.snoc {l : List Int} (hl : ParOk l) {par : Int} (h1 : -1 ≤ par) (h2 : par < l.length) : ParOk (l ++ [par]) := by
  intro k hk
  rw [List.length_append, List.length_singleton] at hk
  by_cases h : k < l.length
  · have := hl k h
    simpa [List.getD, List.getElem?_append_left h] using this
  · obtain rfl : k = l.length := by omega
    simp [List.getD]; omega
theorem parF_ok {l : List Int} {par : Int} (h : parF l par = 0) : -1 ≤ par ∧ par < l.length ∧ (0 < l.length → 0 ≤ par) := by
  unfold parF at h
  split at h
  · cases h
  · omega

/-- how many there are from a place up -/
def depF (l : List Int) : Nat → Int → Int
  | 0, _ => 0
  | f + 1, a => if a < 0 then 0 else 1 + depF l f (l.getD a.toNat 0)
def dep (l : List Int) (a : Int) : Int := depF l (a + 1).toNat a
theorem depF_more {l : List Int} (hl : ParOk l) : ∀ (f g : Nat) (a : Int), a < l.length → a < f → a < g → depF l f a = depF l g a := by
  intro f
  induction f with
  | zero =>
    intro g a _ hf _
    cases g with
    | zero => rfl
    | succ g => simp only [depF]; rw [if_pos (by omega)]
  | succ f ih =>
    intro g a hn hf hg
    cases g with
    | zero => simp only [depF]; rw [if_pos (by omega)]
    | succ g =>
      simp only [depF]
      split
      · rfl
      · have := hl a.toNat (by omega)
        rw [ih g _ (by omega) (by omega) (by omega)]
theorem dep_neg {l : List Int} {a : Int} (h : a < 0) : dep l a = 0 := by
  unfold dep
  rw [show (a + 1).toNat = 0 by omega]; rfl
theorem dep_eq {l : List Int} (hl : ParOk l) {a : Int} (h0 : 0 ≤ a) (hn : a < l.length) : dep l a = 1 + dep l (l.getD a.toNat 0) := by
  unfold dep
  obtain ⟨m, hm⟩ : ∃ m : Nat, a = m := ⟨a.toNat, by omega⟩
  subst hm
  rw [show ((m : Int) + 1).toNat = m + 1 by omega]
  simp only [depF]
  rw [if_neg (by omega)]
  have := hl m (by omega)
  rw [Int.toNat_natCast] at *
  rw [depF_more hl m (l.getD m 0 + 1).toNat (l.getD m 0) (by omega) (by omega) (by omega)]
theorem dep_bd {l : List Int} (hl : ParOk l) : ∀ (k : Nat) (a : Int), a < k → a < l.length → 0 ≤ dep l a ∧ (0 ≤ a → dep l a ≤ a + 1) := by
  intro k
  induction k with
  | zero => intro a hk _; rw [dep_neg (by omega)]; omega
  | succ k ih =>
    intro a hk hn
    by_cases h0 : a < 0
    · rw [dep_neg h0]; omega
    · have h1 := hl a.toNat (by omega)
      rw [dep_eq hl (by omega) hn]
      have h2 := ih (l.getD a.toNat 0) (by omega) (by omega)
      by_cases h3 : 0 ≤ l.getD a.toNat 0
      · have := h2.2 h3; omega
      · rw [dep_neg (show l.getD a.toNat 0 < 0 by omega)]; omega
theorem getD_left {l : List Int} {x : Int} {k : Nat} (h : k < l.length) : (l ++ [x]).getD k 0 = l.getD k 0 := by simp [List.getD, List.getElem?_append_left h]
theorem dep_snoc {l : List Int} (hl : ParOk l) {x : Int} : ∀ (k : Nat) (a : Int), a < k → a < l.length → -1 ≤ x → x < l.length → dep (l ++ [x]) a = dep l a := by
  intro k
  induction k with
  | zero => intro a hk _ _ _; rw [dep_neg (by omega), dep_neg (by omega)]
  | succ k ih =>
    intro a hk hn h1 h2
    by_cases h0 : a < 0
    · rw [dep_neg h0, dep_neg h0]
    · have h3 := hl a.toNat (by omega)
      rw [dep_eq hl (by omega) hn, dep_eq (hl.snoc h1 h2) (by omega) (by simp; omega), getD_left (by omega), ih _ (by omega) (by omega) h1 h2]

/-! steps -/
instance : Inhabited TStep := ⟨⟨0, 0, [], 0, [], []⟩⟩
def nS (p : List TStep) (i : Nat) : TStep := p.getD i default
def pars (p : List TStep) : List Int := p.map TStep.par
def highA (k : Int) : Int := if k = 5 then 9 else if k = 6 ∨ k = 8 then 99 else if k = 7 then 3 else 0
def lowA (k : Int) : Int := if k = 6 ∨ k = 8 then 1 else 0
def alien (s : TStep) : Bool := (decide (s.name ≠ []) && decide (s.kind ≠ 2)) || (decide (s.arg ≠ 0) && decide (highA s.kind = 0)) || (decide (0 < s.expr.length) && decide (s.kind ≠ 7))
/-- the code of a step by itself, behind a row of parents -/
def stepF (l : List Int) (s : TStep) : Int :=
  if s.kind < 1 ∨ 8 < s.kind ∨ alien s = true then 1
  else if parF l s.par ≠ 0 then parF l s.par
  else if 7 < dep (l ++ [s.par]) l.length then 2
  else if s.kind = 2 then nameF s.name
  else if s.arg < lowA s.kind ∨ highA s.kind < s.arg then 3
  else if s.kind = 7 then exprF s.expr else 0
def oneF (p : List TStep) (i : Nat) : Int := stepF ((pars p).take i) (nS p i)

def kidU (p : List TStep) (a : Int) (i : Nat) : List Int := ((List.range i).filter fun k => decide (0 < k) && decide ((nS p k).par = a)).map fun (k : Nat) => (k : Int)
def kids (p : List TStep) (a : Int) : List Int := kidU p a p.length
theorem kidU_step (p : List TStep) (a : Int) (i : Nat) : kidU p a (i + 1) = kidU p a i ++ (if 0 < i ∧ (nS p i).par = a then [(i : Int)] else []) := by
  unfold kidU
  rw [List.range_succ, List.filter_append, List.map_append]
  congr 1
  by_cases h : 0 < i ∧ (nS p i).par = a
  · rw [if_pos h]; simp [h]
  · rw [if_neg h]
    rw [List.filter_cons_of_neg (by simpa using h)]; rfl
theorem kidU_len (p : List TStep) (a : Int) (i : Nat) : (kidU p a i).length ≤ i := by
  unfold kidU; rw [List.length_map]; exact Nat.le_trans (List.length_filter_le _ _) (by simp)
theorem kids_mem {p : List TStep} {a k : Int} : k ∈ kids p a ↔ ∃ m : Nat, k = m ∧ 0 < m ∧ m < p.length ∧ (nS p m).par = a := by
  unfold kids kidU
  simp only [List.mem_map, List.mem_filter, List.mem_range, Bool.and_eq_true, decide_eq_true_eq]
  constructor
  · rintro ⟨m, ⟨h1, h2, h3⟩, rfl⟩; exact ⟨m, rfl, h2, h1, h3⟩
  · rintro ⟨m, rfl, h2, h1, h3⟩; exact ⟨m, ⟨h1, h2, h3⟩, rfl⟩

def lastI (l : List Int) : Int := l.getD (l.length - 1) 0
def headI (l : List Int) : Int := l.getD 0 0
def kidLo (k : Int) : Int := if k = 1 then 1 else if k = 3 ∨ k = 4 ∨ k = 8 then 2 else 0
def kidHi (k : Int) : Int := if k = 1 ∨ k = 3 ∨ k = 4 then 24 else if k = 8 then 2 else 0
def wants (p : List TStep) (i : Nat) : Bool :=
  decide (i ≠ 0) && decide ((nS p (nS p i).par.toNat).kind = 3) && decide ((i : Int) ≠ lastI (kids p (nS p i).par))
def shapeF (p : List TStep) (i : Nat) : Int :=
  let s := nS p i
  if inR (kids p i).length (kidLo s.kind) (kidHi s.kind) = false then 1
  else if decide (0 < s.cond.length) ≠ wants p i then 1
  else if 0 < s.cond.length then exprF s.cond else 0
def tyF (p : List TStep) (i : Nat) : Int := if typF (nS p i).cond 2 ≠ 0 then typF (nS p i).cond 2 else typF (nS p i).expr 1
/-- the code of a process -/
def procF (p : List TStep) : Int :=
  if inR p.length 1 24 = false then 2
  else if sc (oneF p) p.length 0 ≠ 0 then sc (oneF p) p.length 0
  else if sc (shapeF p) p.length 0 ≠ 0 then sc (shapeF p) p.length 0
  else sc (tyF p) p.length 0

/-- what is told of a row of steps that have no fault by themselves -/
theorem pars_len (p : List TStep) : (pars p).length = p.length := by simp [pars]
theorem pars_take {p : List TStep} {i : Nat} (h : i < p.length) : (pars p).take (i + 1) = (pars p).take i ++ [(nS p i).par] := by
  have e : (pars p)[i]? = some (nS p i).par := by simp [pars, nS, List.getD, List.getElem?_map, List.getElem?_eq_getElem h]
  rw [List.take_add_one, e]; rfl
theorem stepF_par {l : List Int} {s : TStep} (h : stepF l s = 0) : parF l s.par = 0 := by
  unfold stepF at h
  split at h
  · cases h
  · split at h
    · exact absurd h (by assumption)
    · rename_i h2; simpa using h2
theorem ones_ok {p : List TStep} : ∀ (i : Nat), i ≤ p.length → (∀ k, k < i → oneF p k = 0) → ParOk ((pars p).take i) := by
  intro i
  induction i with
  | zero => intro _ _ k hk; simp at hk
  | succ i ih =>
    intro hi h
    have h1 := ih (by omega) fun k hk => h k (by omega)
    have h2 := parF_ok (stepF_par (h i (by omega)))
    rw [pars_take (by omega)]
    exact h1.snoc h2.1 h2.2.1
end Go.AM

/-! ### Pz -/
set_option linter.unusedVariables false
set_option linter.unusedSimpArgs false
namespace Go.AM

def actA (c : TChart) (i : Int) : Int := c.acts.getD i.toNat 0
def dueA (c : TChart) (i : Int) : Int := c.dues.getD i.toNat 0
def stepA (p : List TStep) (i : Int) : TStep := nS p i.toNat
def cnt (c : TChart) (a : Int) (l : List Int) : Int := (l.countP fun k => decide (actA c k = a) : Nat)
theorem cnt_nil (c : TChart) (a : Int) : cnt c a [] = 0 := rfl
theorem cnt_step {c : TChart} {a : Int} {l : List Int} {i : Nat} {x : Int} (h : l[i]? = some x) : cnt c a (l.take (i + 1)) = cnt c a (l.take i) + if actA c x = a then 1 else 0 := by
  unfold cnt
  rw [List.take_add_one, h, List.countP_append]
  by_cases h0 : actA c x = a <;> simp [h0]
theorem cnt_le (c : TChart) (a : Int) (l : List Int) : 0 ≤ cnt c a l ∧ cnt c a l ≤ l.length := by
  unfold cnt
  have := List.countP_le_length (p := fun k => decide (actA c k = a)) (l := l)
  omega
theorem cnt_pos {c : TChart} {a k : Int} {l : List Int} (h : k ∈ l) (ha : actA c k = a) : 0 < cnt c a l := by
  unfold cnt
  have := List.countP_pos_iff (p := fun k => decide (actA c k = a)) (l := l) |>.2 ⟨k, h, by simpa using ha⟩
  omega
theorem cnt_zero {c : TChart} {a : Int} {l : List Int} (h : ∀ k ∈ l, actA c k ≠ a) : cnt c a l = 0 := by
  unfold cnt
  have := List.countP_eq_zero (p := fun k => decide (actA c k = a)) (l := l) |>.2 fun k hk => by simpa using h k hk
  omega
/-- the program's look at a step -/
def fits (p : List TStep) (c : TChart) (at_ : Int) : Bool :=
  let s := stepA p at_
  let a := actA c at_
  let l := kids p at_
  let on := cnt c 1 l
  let ov := cnt c 2 l
  if a = 2 ∧ (at_ = 0 ∨ (stepA p s.par).kind ≠ 4) then false
  else if a ≠ 1 then decide (on + ov = 0) && decide (dueA c at_ = 0)
  else if s.kind = 1 ∨ s.kind = 3 then decide (on = 1) && decide (dueA c at_ = 0)
  else if s.kind = 4 then decide (on ≠ 0) && decide (on + ov = l.length) && decide (dueA c at_ = 0)
  else if s.kind = 8 then decide (on = 1) && (decide (actA c (headI l) = 1) == decide (dueA c at_ ≠ 0))
  else if s.kind = 6 then decide (dueA c at_ ≠ 0)
  else if s.kind = 7 then false
  else decide (dueA c at_ = 0)
/-- the reference's look at a step -/
def wrong9 (p : List TStep) (c : TChart) (at_ : Int) : Bool :=
  let l := kids p at_
  let on := cnt c 1 l
  let ov := cnt c 2 l
  let due := decide (dueA c at_ ≠ 0)
  if actA c at_ ≠ 1 then decide (0 < on + ov) || due
  else if (stepA p at_).kind = 1 ∨ (stepA p at_).kind = 3 then decide (on ≠ 1) || decide (0 < ov) || due
  else if (stepA p at_).kind = 4 then decide (on < 1) || decide (on + ov ≠ l.length) || due
  else if (stepA p at_).kind = 8 then decide (on ≠ 1) || decide (0 < ov) || (due != decide (actA c (headI l) = 1))
  else if (stepA p at_).kind = 6 then !due
  else if (stepA p at_).kind = 7 then true
  else due
def allFit (p : List TStep) (c : TChart) (n : Nat) : Bool := (List.range n).all fun (i : Nat) => fits p c i
def someWrong (p : List TStep) (c : TChart) (n : Nat) : Bool := (List.range n).any fun (i : Nat) => wrong9 p c i
theorem allFit_step (p : List TStep) (c : TChart) (n : Nat) : allFit p c (n + 1) = (allFit p c n && fits p c n) := by
  unfold allFit; rw [List.range_succ, List.all_append]; simp
theorem someWrong_step (p : List TStep) (c : TChart) (n : Nat) : someWrong p c (n + 1) = (someWrong p c n || wrong9 p c n) := by
  unfold someWrong; rw [List.range_succ, List.any_append]; simp

/-- what a process without faults is known to be -/
structure ProcOk (p : List TStep) : Prop where
  len : 1 ≤ p.length ∧ p.length ≤ 24
  one : ∀ i, i < p.length → oneF p i = 0
  shape : ∀ i, i < p.length → shapeF p i = 0
  ty : ∀ i, i < p.length → tyF p i = 0
theorem procOk {p : List TStep} (h : procF p = 0) : ProcOk p := by
  unfold procF at h
  split at h
  · cases h
  rename_i h0
  split at h
  · exact absurd h (by assumption)
  rename_i h1
  split at h
  · exact absurd h (by assumption)
  rename_i h2
  have h0 : inR (↑p.length) 1 24 = true := by simpa using h0
  have h0 := inR_iff.1 h0
  exact ⟨by omega, sc_all (by simpa using h1), sc_all (by simpa using h2), sc_all h⟩
theorem ProcOk.par {p : List TStep} (h : ProcOk p) : ParOk (pars p) := by
  have := ones_ok p.length (Nat.le_refl _) h.one
  rwa [List.take_of_length_le (by rw [pars_len]; exact Nat.le_refl _)] at this
theorem ProcOk.par0 {p : List TStep} (h : ProcOk p) : (nS p 0).par = -1 := by
  have h1 := parF_ok (stepF_par (h.one 0 (by have := h.len; omega)))
  simp at h1; omega
theorem ProcOk.parI {p : List TStep} (h : ProcOk p) {i : Nat} (h0 : 0 < i) (hi : i < p.length) : 0 ≤ (nS p i).par ∧ (nS p i).par < i := by
  have h1 := parF_ok (stepF_par (h.one i hi))
  have hl : ((pars p).take i).length = i := by rw [List.length_take, pars_len]; omega
  rw [hl] at h1
  exact ⟨h1.2.2 h0, h1.2.1⟩
theorem ProcOk.kind {p : List TStep} (h : ProcOk p) {i : Nat} (hi : i < p.length) : 1 ≤ (nS p i).kind ∧ (nS p i).kind ≤ 8 := by
  have h1 := h.one i hi
  unfold oneF stepF at h1
  split at h1
  · cases h1
  · omega
theorem ProcOk.many {p : List TStep} (h : ProcOk p) {i : Nat} (hi : i < p.length) : kidLo (nS p i).kind ≤ (kids p i).length ∧ ((kids p i).length : Int) ≤ kidHi (nS p i).kind := by
  have h1 := h.shape i hi
  unfold shapeF at h1
  simp only at h1
  split at h1
  · cases h1
  · rename_i h2; exact inR_iff.1 (by simpa using h2)

/-- both look alike over all steps -/
theorem fits_iff {p : List TStep} {c : TChart} (hp : ProcOk p) : (allFit p c p.length = true ∧ actA c 0 = 1) ↔ (actA c 0 = 1 ∧ someWrong p c p.length = false) := by
  unfold allFit someWrong
  rw [Bool.eq_false_iff]
  simp only [List.all_eq_true, List.any_eq_true, List.mem_range, ne_eq, not_exists, not_and, Bool.not_eq_true]
  constructor
  · rintro ⟨h, h0⟩
    refine ⟨h0, fun i hi => ?_⟩
    have hf := h i hi
    have hov : (stepA p i).kind ≠ 4 → cnt c 2 (kids p i) = 0 := by
      intro hk
      refine cnt_zero fun k hk' => ?_
      obtain ⟨m, rfl, h1, h2, h3⟩ := kids_mem.1 hk'
      intro ha
      have hm := h m h2
      unfold fits at hm
      simp only at hm
      rw [if_pos ⟨ha, Or.inr (by simp only [stepA, Int.toNat_natCast] at hk ⊢; rw [h3]; simpa using hk)⟩] at hm
      cases hm
    unfold fits at hf
    unfold wrong9
    simp only at hf ⊢
    split at hf
    · cases hf
    split at hf
    · rename_i h1
      rw [if_pos h1]
      simp at hf ⊢; omega
    · rename_i h1
      rw [if_neg h1]
      split at hf
      · rename_i h2
        rw [if_pos h2, hov (by omega)]
        simp at hf ⊢; omega
      · rename_i h2
        rw [if_neg h2]
        split at hf
        · rename_i h3
          rw [if_pos h3]
          have := (cnt_le c 1 (kids p i)).1
          simp at hf ⊢; omega
        · rename_i h3
          rw [if_neg h3]
          split at hf
          · rename_i h4
            rw [if_pos h4, hov (by omega)]
            simp at hf ⊢
            refine ⟨hf.1, ?_⟩
            have := hf.2
            by_cases ha : actA c (headI (kids p i)) = 1 <;> by_cases hd : dueA c i = 0 <;> simp_all
          · rename_i h4
            rw [if_neg h4]
            split at hf
            · rename_i h5
              rw [if_pos h5]; simp at hf ⊢; exact hf
            · rename_i h5
              rw [if_neg h5]
              split at hf
              · cases hf
              · rename_i h6
                rw [if_neg h6]; simp at hf ⊢; exact hf
  · rintro ⟨h0, h⟩
    refine ⟨fun i hi => ?_, h0⟩
    have hf := h i hi
    have hov : actA c i = 2 → i ≠ 0 ∧ (stepA p (stepA p i).par).kind = 4 := by
      intro ha
      have hi0 : i ≠ 0 := by rintro rfl; rw [show ((0 : Nat) : Int) = 0 by rfl] at ha; omega
      refine ⟨hi0, ?_⟩
      have hpi := hp.parI (by omega) hi
      obtain ⟨m, hm⟩ : ∃ m : Nat, (nS p i).par = m := ⟨_, (Int.toNat_of_nonneg hpi.1).symm⟩
      have hmi : m < p.length := by omega
      have hmem : (i : Int) ∈ kids p m := kids_mem.2 ⟨i, rfl, by omega, hi, hm⟩
      have hpos := cnt_pos hmem ha
      have hge := (cnt_le c 1 (kids p m)).1
      have hw := h m hmi
      have hmany := (hp.many hmi).2
      have hkind := hp.kind hmi
      have hlen : 1 ≤ (kids p m).length := by
        have := List.length_pos_of_mem hmem; omega
      have e1 : stepA p (stepA p i).par = nS p m := by simp only [stepA, Int.toNat_natCast]; rw [hm]; simp
      rw [e1]
      unfold wrong9 at hw
      have e2 : stepA p (m : Int) = nS p m := by simp [stepA]
      simp only [e2] at hw
      generalize (nS p m).kind = kk at *
      unfold kidHi at hmany
      split at hw
      · simp at hw; omega
      · split at hw
        · simp at hw; omega
        · split at hw
          · assumption
          · split at hw
            · simp at hw; omega
            · exfalso
              first | omega | (split at hmany <;> first | omega | (split at hmany <;> omega))
    unfold wrong9 at hf
    unfold fits
    simp only at hf ⊢
    rw [if_neg (by
      rintro ⟨h1, h2⟩
      have := hov h1
      rcases h2 with h2 | h2
      · omega
      · exact h2 this.2)]
    split at hf
    · rename_i h1
      rw [if_pos h1]
      have g1 := (cnt_le c 1 (kids p i)).1
      have g2 := (cnt_le c 2 (kids p i)).1
      simp at hf ⊢; omega
    · rename_i h1
      rw [if_neg h1]
      split at hf
      · rename_i h2
        rw [if_pos h2]; simp at hf ⊢; omega
      · rename_i h2
        rw [if_neg h2]
        split at hf
        · rename_i h3
          rw [if_pos h3]; simp at hf ⊢; omega
        · rename_i h3
          rw [if_neg h3]
          split at hf
          · rename_i h4
            rw [if_pos h4]
            simp at hf ⊢
            refine ⟨hf.1.1, ?_⟩
            have := hf.2
            by_cases ha : actA c (headI (kids p i)) = 1 <;> by_cases hd : dueA c i = 0 <;> simp_all
          · rename_i h4
            rw [if_neg h4]
            split at hf
            · rename_i h5
              rw [if_pos h5]; simp at hf ⊢; exact hf
            · rename_i h5
              rw [if_neg h5]
              split at hf
              · cases hf
              · rename_i h6
                rw [if_neg h6]; simp at hf ⊢; exact hf

def zeros (l : List Int) : Bool := l.all fun n => decide (n = 0)
def smallB (l : List Int) (m : Int) : Bool := l.all fun n => inR n 0 m
theorem smallB_zero (l : List Int) : smallB l 0 = zeros l := by
  unfold smallB zeros
  congr 1; funext n
  rw [Bool.eq_iff_iff, inR_iff]; simp; omega
/-- the code of a chart of a process -/
def chartF (p : List TStep) (c : TChart) : Int :=
  if procF p ≠ 0 then procF p
  else if inR c.status 1 3 = false ∨ inR c.now 0 1000000 = false then 3
  else if varsF c.vars ≠ 0 then varsF c.vars
  else if c.acts.length ≠ p.length ∨ c.dues.length ≠ p.length then 2
  else if smallB c.acts 2 = false ∨ smallB c.dues (c.now + 99) = false then 3
  else if c.status ≠ 1 then (if zeros c.acts = true ∧ zeros c.dues = true then 0 else 1)
  else if actA c 0 = 1 ∧ someWrong p c p.length = false then 0 else 1

/-! chapter 11 -/
instance : Inhabited TProc := ⟨⟨[]⟩⟩
instance : Inhabited TChart := ⟨⟨0, 0, [], [], []⟩⟩
instance : Inhabited TInst := ⟨⟨0, default⟩⟩
def procAt (l : List TProc) (i : Nat) : Int := procF (l.getD i default).steps
def procsF (l : List TProc) : Int := if inR l.length 1 3 = false then 2 else sc (procAt l) l.length 0
def instF (e : TEngine) (x : TInst) : Int :=
  if inR x.proc 0 ((e.procs.length : Int) - 1) = false then 3
  else if chartF (e.procs.getD x.proc.toNat default).steps x.chart ≠ 0 then chartF (e.procs.getD x.proc.toNat default).steps x.chart
  else if x.chart.now ≠ e.now then 9 else 0
def instAt (e : TEngine) (i : Nat) : Int := instF e (e.insts.getD i default)
def engF (e : TEngine) : Int :=
  if 6 < e.insts.length then 2
  else if procsF e.procs ≠ 0 then procsF e.procs
  else if inR e.now 0 1000000 = false then 3
  else sc (instAt e) e.insts.length 0

/-! chapter 12 -/
instance : Inhabited TClaim := ⟨⟨0, 0, 0⟩⟩
def stepsOf (e : TEngine) (x : TInst) : List TStep := (e.procs.getD x.proc.toNat default).steps
def openT (e : TEngine) (inst step : Int) : Bool :=
  let x := e.insts.getD inst.toNat default
  inR step 0 (((stepsOf e x).length : Int) - 1) && decide ((stepA (stepsOf e x) step).kind = 2) && decide (actA x.chart step = 1)
def aheadC (a b : TClaim) : Bool := decide (a.inst < b.inst) || decide (a.inst = b.inst) && decide (a.step < b.step)
def claimF (d : TDesk) (i : Nat) : Int :=
  let x := d.claims.getD i default
  if inR x.inst 0 ((d.engine.insts.length : Int) - 1) = false ∨ inR x.user 1 9 = false then 3
  else if openT d.engine x.inst x.step = false then 4
  else if 0 < i ∧ aheadC (d.claims.getD (i - 1) default) x = false then 1 else 0
def deskF (d : TDesk) : Int :=
  if engF d.engine ≠ 0 then engF d.engine
  else if 60 < d.claims.length then 2
  else sc (claimF d) d.claims.length 0
end Go.AM

/-! ### En2 -/
set_option linter.unusedVariables false
set_option linter.unusedSimpArgs false
namespace Go.AM
def nlc (es : Nat) (l : List (List AV)) : AV := match l with
  | [] => .nils
  | x :: r => .osl es (x :: r)
@[go_sem high] theorem nlc_nil (es : Nat) : nlc es [] = .nils := rfl
@[go_sem high] theorem nlc_cons (es : Nat) (x : List AV) (r : List (List AV)) : nlc es (x :: r) = .osl es (x :: r) := rfl
theorem nlc_ne {es : Nat} {l : List (List AV)} (h : l ≠ []) : nlc es l = .osl es l := by cases l; exact absurd rfl h; rfl
@[go_sem high] theorem nlc_tree (es : Nat) (l : List (List AV)) : (nlc es l).tree = true := by cases l <;> rfl
@[go_sem high] theorem nlc_ids (es : Nat) (l : List (List AV)) : (nlc es l).ids = [] := by cases l <;> simp [nlc, AV.ids]
@[go_sem high] theorem nlc_ownd (es : Nat) (l : List (List AV)) : (nlc es l).ownd = owndLL l := by cases l <;> simp [nlc, AV.ownd, owndLL]
@[go_sem high] theorem nlc_le (es : Nat) (l m : List (List AV)) : leA0 (.osl es l) (nlc es m) ↔ l = m ∧ m ≠ [] := by
  cases m with
  | nil => simp [nlc, leA0]
  | cons y r => simp [nlc, leA0]
@[go_sem high] theorem nlc_lenil (es : Nat) (m : List (List AV)) : leA0 .nils (nlc es m) ↔ m = [] := by cases m <;> simp [nlc, leA0]
@[go_sem high] theorem nlc_lenlc (es : Nat) (l : List (List AV)) : leA0 (nlc es l) (nlc es l) := by cases l <;> simp [nlc, leA0]
end Go.AM

/-! ### Pe -/
set_option linter.unusedVariables false
set_option linter.unusedSimpArgs false
namespace Go.AM
attribute [go_sem] renS AV.ren renL
theorem sc_first {f : Nat → Int} {n : Nat} (i j : Nat) (hj : j ≤ i) (hi : i < n) (h0 : ∀ k, j ≤ k → k < i → f k = 0) (hne : f i ≠ 0) : sc f n j = f i := by
  have key : ∀ m j, i - j = m → j ≤ i → (∀ k, j ≤ k → k < i → f k = 0) → sc f n j = f i := by
    intro m
    induction m with
    | zero =>
      intro j h1 h2 _
      obtain rfl : j = i := by omega
      exact sc_hit hi hne
    | succ m ih =>
      intro j h1 h2 h3
      rw [sc_go (by omega) (h3 j (Nat.le_refl _) (by omega))]
      exact ih (j + 1) (by omega) (by omega) fun k h4 h5 => h3 k (by omega) h5
  exact key _ j rfl hj h0
theorem sc_none {f : Nat → Int} {n : Nat} (h : ∀ k, k < n → f k = 0) : sc f n 0 = 0 := by
  have key : ∀ m i, n - i = m → sc f n i = 0 := by
    intro m
    induction m with
    | zero => intro i hi; exact sc_end (by omega)
    | succ m ih => intro i hi; rw [sc_go (by omega) (h i (by omega))]; exact ih _ (by omega)
  exact key _ 0 rfl
theorem upto {f : Nat → Int} {i : Nat} (h : ∀ k, k < i → f k = 0) (h0 : f i = 0) : ∀ k, k < i + 1 → f k = 0 := by
  intro k hk
  rcases Nat.eq_or_lt_of_le (Nat.le_of_lt_succ hk) with rfl | hk
  · exact h0
  · exact h k hk
theorem nA_at {e : List TNode} {i : Nat} {x : TNode} (h : e[i]? = some x) : nA e i = x := by simp [nA, List.getD, h]
theorem nodeAt_at {e : List TNode} {i : Nat} {x : TNode} (h : e[i]? = some x) : nodeAt e i = nodeF x i := by rw [nodeAt, nA_at h]
theorem exprF_len {e : List TNode} (h : inR e.length 1 16 = false) : exprF e = 2 := by rw [exprF, if_pos h]
theorem exprF_len' {e : List TNode} (h : e.length < 1 ∨ 16 < e.length) : exprF e = 2 := exprF_len (inR_not.2 (by omega))
theorem exprF_node {e : List TNode} {i : Nat} (hR : inR e.length 1 16 = true) (hi : i < e.length) (h : ∀ k, k < i → nodeAt e k = 0) (hne : nodeAt e i ≠ 0) : exprF e = nodeAt e i := by
  have hs := sc_first i 0 (Nat.zero_le _) hi (fun k _ hk => h k hk) hne
  rw [exprF, if_neg (by rw [hR]; decide), hs, if_pos hne]
theorem exprF_end {e : List TNode} (hR : inR e.length 1 16 = true) (h : ∀ k, k < e.length → nodeAt e k = 0) : exprF e = if wrongU e e.length = true ∨ szA e (e.length - 1) ≠ e.length then 1 else 0 := by
  rw [exprF, if_neg (by rw [hR]; decide), sc_none h, if_neg (by decide)]
theorem sizesL_at {e : List TNode} {i j : Nat} (h : j < i) : (sizesL e i)[j]? = some (szA e j) := by
  have h1 := sizesL_get e j i h
  have h2 : j < (sizesL e i).length := by rw [sizesL_len]; exact h
  rw [List.getElem?_eq_getElem h2]
  simp only [List.getD, List.getElem?_eq_getElem h2, Option.getD_some] at h1
  rw [h1]
theorem sizesL_succ (e : List TNode) (i : Nat) : sizesL e (i + 1) = sizesL e i ++ [szA e i] := by
  rw [szA_eq]; rfl
theorem szA_at {e : List TNode} {i : Nat} {x : TNode} (h : e[i]? = some x) (hp : nodeF x i = 0) : szA e i = if x.kind = 10 then 1 + szA e x.left.toNat else if isTwoB x.kind then 1 + (szA e x.left.toNat + szA e x.right.toNat) else 1 := by
  have hq := nodeF_parts hp
  rw [szA_eq]
  unfold sizeOf1
  simp only [nA_at h]
  split
  · rename_i h10
    rw [sizesL_get e _ i (hq.1 h10).2]
  · split
    · rename_i h2
      rw [sizesL_get e _ i (hq.2.1 h2).2.1, sizesL_get e _ i (hq.2.1 h2).2.2.2]; omega
    · rfl
theorem wrongU_at {e : List TNode} {i : Nat} {x : TNode} (h : e[i]? = some x) : wrongU e (i + 1) = (wrongU e i || if x.kind = 10 then decide (x.left ≠ (i : Int) - 1)
    else if isTwoB x.kind then decide (x.right ≠ (i : Int) - 1) || decide (x.left ≠ (i : Int) - 1 - szA e x.right.toNat) else false) := by
  rw [wrongU_step]
  unfold wrong1
  simp only [nA_at h]
theorem not_two {k : Int} (h1 : ¬ isTwoB k = true) (h2 : k ≠ 10) (h3 : 1 ≤ k) (h4 : k ≤ 10) : k ≤ 2 := by
  have : isTwoB k = false := by simpa using h1
  rw [isTwoB, inR_not] at this; omega

theorem left_of {x : TNode} {i : Nat} (h : nodeF x i = 0) (h2 : 2 < x.kind) : 0 ≤ x.left ∧ x.left.toNat < i := by
  have hq := nodeF_parts h
  by_cases h10 : x.kind = 10
  · exact hq.1 h10
  · by_cases h3 : isTwoB x.kind = true
    · exact ⟨(hq.2.1 h3).1, (hq.2.1 h3).2.1⟩
    · have := not_two h3 h10 hq.2.2.1 hq.2.2.2.1; omega
theorem upto_at {l : List Nat} {i y : Nat} (h : ∀ k, k < i → l[k]? = some k) (hy : l[i]? = some y) (e : y = i) : ∀ k, k < i + 1 → l[k]? = some k := by
  intro k hk
  rcases Nat.eq_or_lt_of_le (Nat.le_of_lt_succ hk) with rfl | hk
  · rw [hy, e]
  · exact h k hk
/-! types -/
def typesL (e : List TNode) (i : Nat) : List Int := (List.range i).map fun j => ownT (nA e j).kind
theorem typesL_len (e : List TNode) (i : Nat) : (typesL e i).length = i := by simp [typesL]
theorem typesL_at {e : List TNode} {i j : Nat} (h : j < i) : (typesL e i)[j]? = some (ownT (nA e j).kind) := by simp [typesL, h]
theorem typesL_succ (e : List TNode) (i : Nat) : typesL e (i + 1) = typesL e i ++ [ownT (nA e i).kind] := by simp [typesL, List.range_succ]
theorem exprF_zero {e : List TNode} (h : exprF e = 0) : inR e.length 1 16 = true ∧ PartsOk e e.length := by
  unfold exprF at h
  split at h
  · cases h
  split at h
  · exact absurd h (by assumption)
  · rename_i h1 h2
    exact ⟨by simpa using h1, sc_all (by simpa using h2)⟩
theorem typC_f {e : List TNode} (h : exprF e ≠ 0) : typC e = exprF e ∧ typV e = 0 := by
  have h1 : typC e = exprF e := by rw [typC, if_pos h]
  exact ⟨h1, by rw [typV, h1, if_pos h]⟩
theorem typC_b {e : List TNode} (h : exprF e = 0) (hu : typU e e.length = true) : typC e = 7 ∧ typV e = 0 := by
  have h1 : typC e = 7 := by rw [typC, if_neg (by simp [h]), if_pos hu]
  exact ⟨h1, by rw [typV, h1, if_pos (by decide)]⟩
theorem typC_k {e : List TNode} (h : exprF e = 0) (hu : typU e e.length = false) : typC e = 0 ∧ typV e = ownT (nA e (e.length - 1)).kind := by
  have h1 : typC e = 0 := by rw [typC, if_neg (by simp [h]), if_neg (by simp [hu])]
  exact ⟨h1, by rw [typV, h1, if_neg (by decide)]⟩
theorem typU_hit {e : List TNode} {i : Nat} (hi : i < e.length) (h : typBad e i = true) : typU e e.length = true := typU_mono (show i + 1 ≤ e.length by omega) (by rw [typU_step, h]; simp)
theorem typU_go {e : List TNode} {i : Nat} (hu : typU e i = false) (h : typBad e i = false) : typU e (i + 1) = false := by rw [typU_step, hu, h]; rfl

/-! the walk -/
def N1 (n : Nat) : List AV := [.int .i64 (n : Int)]
@[go_sem] theorem N1_eq (n : Nat) : N1 n = [.int .i64 (n : Int)] := rfl
@[go_sem] theorem N1_un (x : Nat) : (N1 x).map unown = N1 x := rfl
@[go_sem high] theorem N1_unL (l : List _) : unownLL (l.map N1) = l.map N1 := unownLL_map N1_un l
@[go_sem high] theorem N1_unM (l : List _) : (l.map N1).map (List.map unown) = l.map N1 := mapun N1_un l
@[go_sem] theorem N1_ownd (x) : owndL (N1 x) = true := by simp [N1, go_sem]
@[go_sem high] theorem N1_owndL (l : List _) : owndLL (l.map N1) = true := owndLL_map N1_ownd l
@[go_sem] theorem N1_ids (x) : idsL (N1 x) = [] := by simp [N1, go_sem]
@[go_sem high] theorem N1_idsL (l : List _) : (l.map N1).flatMap idsL = [] := flatids N1_ids l
theorem N1_tree (a) : ∀ x ∈ N1 a, x.tree = true := by simp [N1, go_sem]
@[go_sem high] theorem N1_treeL (l : List _) : (∀ c ∈ l.map N1, ∀ x ∈ c, AV.tree x = true) ↔ True := maptree N1_tree l
@[go_sem ↓ high] theorem tree_appE (a b : List (List AV)) : (∀ c ∈ a ++ b, ∀ x ∈ c, AV.tree x = true) ↔ (∀ c ∈ a, ∀ x ∈ c, AV.tree x = true) ∧ (∀ c ∈ b, ∀ x ∈ c, AV.tree x = true) := List.forall_mem_append
attribute [go_sem ↓ high] N1_treeL I1_treeL
theorem walkC_len {e : List TNode} : ∀ (f i : Nat) (out : List Nat), (walkC e f i out).length ≤ max out.length (17 + f) := by
  intro f
  induction f with
  | zero => intro i out; simp only [walkC]; omega
  | succ f ih =>
    intro i out
    simp only [walkC]
    split
    · omega
    · simp only [List.length_append, List.length_cons, List.length_nil]
      have h1 : (if 2 < (nA e i).kind then walkC e f (nA e i).left.toNat out else out).length ≤ 17 + f := by
        split
        · have := ih (nA e i).left.toNat out; omega
        · omega
      generalize (if 2 < (nA e i).kind then walkC e f (nA e i).left.toNat out else out) = o1 at *
      split
      · have := ih (nA e i).right.toNat o1; omega
      · omega
theorem wkF_len {e : List TNode} {i : Nat} {out : List Nat} (h : out.length ≤ 40) (hi : i < 17) : (wkF e i out).length ≤ 40 := by
  have := walkC_len (e := e) (i + 1) i out
  unfold wkF; omega
theorem wk_ne_len {l : List Nat} {n : Nat} (h : l.length ≠ n) : l ≠ List.range n := by rintro rfl; simp at h
theorem wk_ne_at {l : List Nat} {n i y : Nat} (h : l[i]? = some y) (hy : y ≠ i) : l ≠ List.range n := by
  rintro rfl
  obtain ⟨h1, h2⟩ := List.getElem?_eq_some_iff.1 h
  simp at h2; omega
theorem wk_eq {l : List Nat} {n : Nat} (hl : l.length = n) (h : ∀ k, k < l.length → l[k]? = some k) : l = List.range n := by
  apply List.ext_getElem?
  intro k
  by_cases hk : k < l.length
  · rw [h k hk, List.getElem?_range (by omega)]
  · rw [List.getElem?_eq_none (by omega), List.getElem?_eq_none (by simp; omega)]
theorem exprF_wk {e : List TNode} (hR : inR e.length 1 16 = true) (h : ∀ k, k < e.length → nodeAt e k = 0) : exprF e = if wkF e (e.length - 1) [] = List.range e.length then 0 else 1 := by
  have hl := inR_iff.1 hR
  rw [exprF_end hR h]
  have hw := wk_iff (e := e) (n := e.length) h (by omega) (by omega)
  by_cases h1 : wkF e (e.length - 1) [] = List.range e.length
  · have h2 := hw.1 h1
    rw [if_pos h1, if_neg (by rintro (h3 | h3) <;> simp_all)]
  · rw [if_neg h1, if_pos]
    by_cases h3 : wrongU e e.length = true
    · exact Or.inl h3
    · exact Or.inr fun h4 => h1 (hw.2 ⟨by simpa using h3, h4⟩)
end Go.AM

/-! ### Pf -/
set_option linter.unusedVariables false
set_option linter.unusedSimpArgs false
namespace Go.AM
theorem nS_at {p : List TStep} {i : Nat} {x : TStep} (h : p[i]? = some x) : nS p i = x := by simp [nS, List.getD, h]
@[go_sem high] theorem nlc_snoc (es : Nat) (l : List (List AV)) (c : List AV) : nlc es (l ++ [c]) = .osl es (l ++ [c]) := nlc_ne (by simp)
theorem nlc_map {α : Type} {f : α → List AV} {l : List α} (h : l ≠ []) (es : Nat) : nlc es (l.map f) = .osl es (l.map f) := nlc_ne (by simpa using h)

/-! parents -/
def nxtL (l : List Int) (par : Int) : List Int := if parF l par = 0 then l ++ [par] else l
def nxtD (l d : List Int) (par : Int) : List Int := if parF l par = 0 then d ++ [if 0 ≤ par then d.getD par.toNat 0 + 1 else 1] else d
def depsOf (l : List Int) : List Int := (List.range l.length).map fun (k : Nat) => dep l k
theorem depsOf_len (l : List Int) : (depsOf l).length = l.length := by simp [depsOf]
theorem depsOf_at {l : List Int} {k : Nat} (h : k < l.length) : (depsOf l)[k]? = some (dep l k) := by simp [depsOf, h]
theorem depsOf_get {l : List Int} {k : Nat} (h : k < l.length) : (depsOf l).getD k 0 = dep l k := by rw [List.getD, depsOf_at h]; rfl
theorem getD_last (l : List Int) (x : Int) : (l ++ [x]).getD l.length 0 = x := by simp [List.getD]
theorem dep_new {l : List Int} (hl : ParOk l) {par : Int} (h1 : -1 ≤ par) (h2 : par < l.length) : dep (l ++ [par]) l.length = if 0 ≤ par then dep l par + 1 else 1 := by
  rw [dep_eq (hl.snoc h1 h2) (Int.natCast_nonneg _) (by simp; omega), Int.toNat_natCast, getD_last]
  split
  · rw [dep_snoc hl (par.toNat + 1) par (by omega) h2 h1 h2]; omega
  · rw [dep_neg (by omega)]; rfl
theorem nxtD_deps {l : List Int} (hl : ParOk l) {par : Int} (h : parF l par = 0) : nxtD l (depsOf l) par = depsOf (l ++ [par]) := by
  obtain ⟨h1, h2, _⟩ := parF_ok h
  have hn := dep_new hl h1 h2
  rw [nxtD, if_pos h]
  conv => rhs; unfold depsOf
  rw [List.length_append, List.length_singleton, List.range_succ, List.map_append]
  congr 1
  · unfold depsOf
    apply List.map_congr_left
    intro k hk
    rw [List.mem_range] at hk
    exact (dep_snoc hl (k + 1) k (by omega) (by omega) h1 h2).symm
  · rw [List.map_singleton, hn]
    congr 1
    split
    · rw [depsOf_get (by omega)]
      rw [show ((par.toNat : Nat) : Int) = par by omega]
    · rfl
theorem nxtD_app {l : List Int} (hl : ParOk l) {par : Int} (h : parF l par = 0) : nxtD l (depsOf l) par = depsOf l ++ [dep (l ++ [par]) l.length] := by
  obtain ⟨h1, h2, _⟩ := parF_ok h
  rw [nxtD, if_pos h, dep_new hl h1 h2]
  congr 2
  split
  · rw [depsOf_get (by omega), show ((par.toNat : Nat) : Int) = par by omega]
  · rfl
theorem nxtL_app {l : List Int} {par : Int} (h : parF l par = 0) : nxtL l par = l ++ [par] := if_pos h
@[go_sem] theorem unownLL_append (a b : List (List AV)) : unownLL (a ++ b) = unownLL a ++ unownLL b := by simp [unownLL_eq]
theorem stepF_good {l : List Int} {s : TStep} (h1 : inR s.kind 1 8 = true) (h2 : alien s = false) (h3 : parF l s.par = 0) : stepF l s = if 7 < dep (l ++ [s.par]) l.length then 2 else if s.kind = 2 then nameF s.name else if s.arg < lowA s.kind ∨ highA s.kind < s.arg then 3 else if s.kind = 7 then exprF s.expr else 0 := by
  have := inR_iff.1 h1
  unfold stepF
  rw [if_neg (by rw [h2]; simp; omega), if_neg (by simp [h3])]
theorem dep_small {l : List Int} (hl : ParOk l) {a : Int} (h : a < l.length) : 0 ≤ dep l a ∧ dep l a ≤ l.length := by
  have := dep_bd hl (a + 1).toNat.succ a (by omega) h
  by_cases h0 : 0 ≤ a
  · have := this.2 h0; omega
  · rw [dep_neg (by omega)]; omega

theorem parF_not3 {l : List Int} {par : Int} (h0 : 0 < l.length) (h : ¬ parF l par = 3) : 0 ≤ par ∧ par < l.length := by
  unfold parF at h
  split at h
  · exact absurd rfl h
  · omega
/-! kids -/
theorem kidU_not {p : List TStep} {a : Int} {i : Nat} {x : TStep} (hx : p[i]? = some x) (h : ¬ (0 < i ∧ x.par = a)) : kidU p a (i + 1) = kidU p a i := by
  rw [kidU_step, nS_at hx, if_neg h, List.append_nil]
theorem kidU_yes {p : List TStep} {a : Int} {i : Nat} {x : TStep} (hx : p[i]? = some x) (h : 0 < i ∧ x.par = a) : kidU p a (i + 1) = kidU p a i ++ [(i : Int)] := by
  rw [kidU_step, nS_at hx, if_pos h]
theorem kids_len (p : List TStep) (a : Int) : (kids p a).length ≤ p.length := kidU_len p a p.length
theorem kids_end {p : List TStep} {a : Int} {i : Nat} (h : i = p.length) : kidU p a i = kids p a := by rw [h]; rfl
theorem last_at {l : List Int} (h : l ≠ []) : l[l.length - 1]? = some (lastI l) := by
  have : l.length - 1 < l.length := by have := List.length_pos_iff.2 h; omega
  rw [lastI, List.getD, List.getElem?_eq_getElem this]; rfl
theorem head_at {l : List Int} (h : l ≠ []) : l[0]? = some (headI l) := by
  cases l with
  | nil => exact absurd rfl h
  | cons x r => rfl

/-- steps that have no fault by themselves -/
structure StepsOk (p : List TStep) : Prop where
  len : 1 ≤ p.length ∧ p.length ≤ 24
  one : ∀ i, i < p.length → oneF p i = 0
theorem StepsOk.par {p : List TStep} (h : StepsOk p) : ParOk (pars p) := by
  have := ones_ok p.length (Nat.le_refl _) h.one
  rwa [List.take_of_length_le (by rw [pars_len]; exact Nat.le_refl _)] at this
theorem StepsOk.par0 {p : List TStep} (h : StepsOk p) : (nS p 0).par = -1 := by
  have h1 := parF_ok (stepF_par (h.one 0 (by have := h.len; omega)))
  simp at h1; omega
theorem StepsOk.parI {p : List TStep} (h : StepsOk p) {i : Nat} (h0 : 0 < i) (hi : i < p.length) : 0 ≤ (nS p i).par ∧ (nS p i).par < i := by
  have h1 := parF_ok (stepF_par (h.one i hi))
  have hl : ((pars p).take i).length = i := by rw [List.length_take, pars_len]; omega
  rw [hl] at h1
  exact ⟨h1.2.2 h0, h1.2.1⟩
theorem StepsOk.kids_ne {p : List TStep} (h : StepsOk p) {i : Nat} (h0 : 0 < i) (hi : i < p.length) : kids p (nS p i).par ≠ [] := by
  intro e
  have : (i : Int) ∈ kids p (nS p i).par := kids_mem.2 ⟨i, rfl, h0, hi, rfl⟩
  rw [e] at this; cases this

/-! the code of a process -/
theorem procF_len {p : List TStep} (h : inR p.length 1 24 = false) : procF p = 2 := by rw [procF, if_pos h]
theorem procF_len' {p : List TStep} (h : p.length < 1 ∨ 24 < p.length) : procF p = 2 := procF_len (inR_not.2 (by omega))
theorem procF_one {p : List TStep} {i : Nat} (hR : inR p.length 1 24 = true) (hi : i < p.length) (h : ∀ k, k < i → oneF p k = 0) (hne : oneF p i ≠ 0) : procF p = oneF p i := by
  have hs := sc_first i 0 (Nat.zero_le _) hi (fun k _ hk => h k hk) hne
  rw [procF, if_neg (by rw [hR]; decide), hs, if_pos hne]
theorem procF_shape {p : List TStep} {i : Nat} (hR : inR p.length 1 24 = true) (h1 : ∀ k, k < p.length → oneF p k = 0) (hi : i < p.length) (h : ∀ k, k < i → shapeF p k = 0) (hne : shapeF p i ≠ 0) : procF p = shapeF p i := by
  have hs := sc_first i 0 (Nat.zero_le _) hi (fun k _ hk => h k hk) hne
  rw [procF, if_neg (by rw [hR]; decide), sc_none h1, if_neg (by decide), hs, if_pos hne]
theorem procF_ty {p : List TStep} {i : Nat} (hR : inR p.length 1 24 = true) (h1 : ∀ k, k < p.length → oneF p k = 0) (h2 : ∀ k, k < p.length → shapeF p k = 0) (hi : i < p.length) (h : ∀ k, k < i → tyF p k = 0) (hne : tyF p i ≠ 0) : procF p = tyF p i := by
  have hs := sc_first i 0 (Nat.zero_le _) hi (fun k _ hk => h k hk) hne
  rw [procF, if_neg (by rw [hR]; decide), sc_none h1, if_neg (by decide), sc_none h2, if_neg (by decide), hs]
theorem procF_ok {p : List TStep} (hR : inR p.length 1 24 = true) (h1 : ∀ k, k < p.length → oneF p k = 0) (h2 : ∀ k, k < p.length → shapeF p k = 0) (h3 : ∀ k, k < p.length → tyF p k = 0) : procF p = 0 := by
  rw [procF, if_neg (by rw [hR]; decide), sc_none h1, if_neg (by decide), sc_none h2, if_neg (by decide), sc_none h3]
theorem shape_sc {p : List TStep} {i : Nat} (hi : i < p.length) (h : ∀ k, k < i → shapeF p k = 0) (hne : shapeF p i ≠ 0) : sc (shapeF p) p.length 0 = shapeF p i := sc_first i 0 (Nat.zero_le _) hi (fun k _ hk => h k hk) hne
theorem procF_shape' {p : List TStep} (hR : inR p.length 1 24 = true) (h1 : ∀ k, k < p.length → oneF p k = 0) (hne : sc (shapeF p) p.length 0 ≠ 0) : procF p = sc (shapeF p) p.length 0 := by
  rw [procF, if_neg (by rw [hR]; decide), sc_none h1, if_neg (by decide), if_pos hne]
theorem oneF_at {p : List TStep} {i : Nat} {x : TStep} (h : p[i]? = some x) : oneF p i = stepF ((pars p).take i) x := by rw [oneF, nS_at h]
theorem take_len {p : List TStep} {i : Nat} (h : i ≤ p.length) : ((pars p).take i).length = i := by rw [List.length_take, pars_len]; omega
theorem take_next {p : List TStep} {i : Nat} {x : TStep} (h : p[i]? = some x) : (pars p).take (i + 1) = (pars p).take i ++ [x.par] := by
  rw [pars_take (at_lt h), nS_at h]
/-- the parents ahead of a place -/
def parsT (p : List TStep) (i : Nat) : List Int := (pars p).take i
theorem parsT_zero (p : List TStep) : parsT p 0 = [] := by simp [parsT]
theorem parsT_len {p : List TStep} {i : Nat} (h : i ≤ p.length) : (parsT p i).length = i := take_len h
theorem parsT_next {p : List TStep} {i : Nat} {x : TStep} (h : p[i]? = some x) : parsT p (i + 1) = parsT p i ++ [x.par] := take_next h
theorem oneF_T {p : List TStep} {i : Nat} {x : TStep} (h : p[i]? = some x) : oneF p i = stepF (parsT p i) x := oneF_at h
theorem ones_T {p : List TStep} {i : Nat} (hi : i ≤ p.length) (h : ∀ k, k < i → oneF p k = 0) : ParOk (parsT p i) := ones_ok i hi h
theorem tyF_at {p : List TStep} {i : Nat} {x : TStep} (h : p[i]? = some x) : tyF p i = if typF x.cond 2 ≠ 0 then typF x.cond 2 else typF x.expr 1 := by rw [tyF, nS_at h]
theorem pars_at {p : List TStep} {i : Nat} {x : TStep} (h : p[i]? = some x) {m : Nat} (hm : i < m) : ((pars p).take m).getD i 0 = x.par := by
  simp [pars, List.getD, List.getElem?_take, hm, h]
end Go.AM

/-! ### Pg -/
set_option linter.unusedVariables false
set_option linter.unusedSimpArgs false
namespace Go.AM
theorem actA_nat (c : TChart) (k : Nat) : actA c k = c.acts.getD k 0 := by simp [actA]
theorem dueA_nat (c : TChart) (k : Nat) : dueA c k = c.dues.getD k 0 := by simp [dueA]
theorem getD_at {l : List Int} {k : Nat} (h : k < l.length) : l[k]? = some (l.getD k 0) := by simp [List.getD, List.getElem?_eq_getElem h]
theorem actA_at {c : TChart} {k : Int} (h : k.toNat < c.acts.length) : c.acts[k.toNat]? = some (actA c k) := getD_at h
theorem actN_at {c : TChart} {k : Nat} (h : k < c.acts.length) : c.acts[k]? = some (actA c k) := by rw [actA_nat]; exact getD_at h
theorem dueN_at {c : TChart} {k : Nat} (h : k < c.dues.length) : c.dues[k]? = some (dueA c k) := by rw [dueA_nat]; exact getD_at h
theorem smallB_iff {l : List Int} {m : Int} : smallB l m = true ↔ ∀ k, k < l.length → inR (l.getD k 0) 0 m = true := by
  unfold smallB
  rw [List.all_eq_true]
  constructor
  · intro h k hk
    have := getD_at hk
    exact h _ (List.mem_of_getElem? this)
  · intro h x hx
    obtain ⟨k, hk⟩ := List.mem_iff_getElem?.1 hx
    have := h k (List.getElem?_eq_some_iff.1 hk).1
    rwa [List.getD, hk] at this
theorem smallB_any (l : List Int) (m : Int) : (!l.any fun n => !inR n 0 m) = smallB l m := by
  unfold smallB; rw [List.all_eq_not_any_not]
theorem stepA_nat (p : List TStep) (i : Nat) : stepA p i = nS p i := by simp [stepA]
theorem kids_bd {p : List TStep} {a k : Int} (h : k ∈ kids p a) : 0 ≤ k ∧ k.toNat < p.length := by
  obtain ⟨m, rfl, h1, h2, h3⟩ := kids_mem.1 h
  exact ⟨by omega, by omega⟩
theorem cnt_kids {p : List TStep} {c : TChart} {a b : Int} (h : 0 < cnt c a (kids p b)) : kids p b ≠ [] := by
  intro e; rw [e, cnt_nil] at h; omega
theorem fits_at {p : List TStep} {c : TChart} {i : Nat} {x : TStep} (hx : p[i]? = some x) : fits p c i =
    (if actA c i = 2 ∧ (i = 0 ∨ (nS p x.par.toNat).kind ≠ 4) then false
    else if actA c i ≠ 1 then decide (cnt c 1 (kids p i) + cnt c 2 (kids p i) = 0) && decide (dueA c i = 0)
    else if x.kind = 1 ∨ x.kind = 3 then decide (cnt c 1 (kids p i) = 1) && decide (dueA c i = 0)
    else if x.kind = 4 then decide (cnt c 1 (kids p i) ≠ 0) && decide (cnt c 1 (kids p i) + cnt c 2 (kids p i) = (kids p i).length) && decide (dueA c i = 0)
    else if x.kind = 8 then decide (cnt c 1 (kids p i) = 1) && (decide (actA c (headI (kids p i)) = 1) == decide (dueA c i ≠ 0))
    else if x.kind = 6 then decide (dueA c i ≠ 0)
    else if x.kind = 7 then false
    else decide (dueA c i = 0)) := by
  unfold fits
  simp only [stepA_nat, nS_at hx]
  have e : ((i : Int) = 0) = (i = 0) := by simp
  simp only [e, stepA]
theorem wrong9_at {p : List TStep} {c : TChart} {i : Nat} {x : TStep} (hx : p[i]? = some x) : wrong9 p c i =
    (if actA c i ≠ 1 then decide (0 < cnt c 1 (kids p i) + cnt c 2 (kids p i)) || decide (dueA c i ≠ 0)
    else if x.kind = 1 ∨ x.kind = 3 then decide (cnt c 1 (kids p i) ≠ 1) || decide (0 < cnt c 2 (kids p i)) || decide (dueA c i ≠ 0)
    else if x.kind = 4 then decide (cnt c 1 (kids p i) < 1) || decide (cnt c 1 (kids p i) + cnt c 2 (kids p i) ≠ (kids p i).length) || decide (dueA c i ≠ 0)
    else if x.kind = 8 then decide (cnt c 1 (kids p i) ≠ 1) || decide (0 < cnt c 2 (kids p i)) || (decide (dueA c i ≠ 0) != decide (actA c (headI (kids p i)) = 1))
    else if x.kind = 6 then !decide (dueA c i ≠ 0)
    else if x.kind = 7 then true
    else decide (dueA c i ≠ 0)) := by
  unfold wrong9
  simp only [stepA_nat, nS_at hx]
/-- is something not 0? -/
def someNZ (c : TChart) (i : Nat) : Bool := (List.range i).any fun (k : Nat) => decide (actA c k ≠ 0) || decide (dueA c k ≠ 0)
theorem someNZ_step (c : TChart) (i : Nat) : someNZ c (i + 1) = (someNZ c i || (decide (actA c i ≠ 0) || decide (dueA c i ≠ 0))) := by
  unfold someNZ; rw [List.range_succ, List.any_append]; simp
theorem smallB_miss {l : List Int} {m : Int} {k : Nat} (hk : k < l.length) (h : inR (l.getD k 0) 0 m = false) : smallB l m = false := by
  rw [Bool.eq_false_iff]
  intro h1
  rw [smallB_iff.1 h1 k hk] at h; cases h
theorem zeros_iff {l : List Int} : zeros l = true ↔ ∀ k, k < l.length → l.getD k 0 = 0 := by
  rw [← smallB_zero, smallB_iff]
  constructor
  · intro h k hk; have := inR_iff.1 (h k hk); omega
  · intro h k hk; exact inR_iff.2 (by have := h k hk; omega)
theorem someNZ_zeros {c : TChart} {n : Nat} (h1 : c.acts.length = n) (h2 : c.dues.length = n) : someNZ c n = false ↔ (zeros c.acts = true ∧ zeros c.dues = true) := by
  rw [zeros_iff, zeros_iff, h1, h2]
  unfold someNZ
  rw [Bool.eq_false_iff]
  simp only [ne_eq, List.any_eq_true, List.mem_range, Bool.or_eq_true, decide_eq_true_eq, not_exists, not_and, not_or, Decidable.not_not, actA_nat, dueA_nat]
  constructor
  · intro h; exact ⟨fun k hk => (h k hk).1, fun k hk => (h k hk).2⟩
  · intro h k hk; exact ⟨h.1 k hk, h.2 k hk⟩
theorem someWrong_hit {p : List TStep} {c : TChart} {i : Nat} (hi : i < p.length) (h : wrong9 p c i = true) : someWrong p c p.length = true := by
  unfold someWrong
  rw [List.any_eq_true]
  exact ⟨i, List.mem_range.2 hi, h⟩
theorem allFit_miss {p : List TStep} {c : TChart} {i : Nat} (hi : i < p.length) (h : fits p c i = false) : allFit p c p.length = false := by
  unfold allFit
  rw [List.all_eq_false]
  exact ⟨i, List.mem_range.2 hi, by simpa using h⟩
/-- what the program asks last -/
def ordB (p : List TStep) (c : TChart) : Bool := if c.status ≠ 1 then zeros c.acts && zeros c.dues else allFit p c p.length && decide (actA c 0 = 1)
def chart1 (p : List TStep) (c : TChart) : Int :=
  if procF p ≠ 0 then procF p
  else if inR c.status 1 3 = false ∨ inR c.now 0 1000000 = false then 3
  else if varsF c.vars ≠ 0 then varsF c.vars
  else if c.acts.length ≠ p.length ∨ c.dues.length ≠ p.length then 2 else 0
theorem chart1_ok {p : List TStep} {c : TChart} (h : chart1 p c = 0) : procF p = 0 ∧ inR c.status 1 3 = true ∧ inR c.now 0 1000000 = true ∧ varsF c.vars = 0 ∧ c.acts.length = p.length ∧ c.dues.length = p.length := by
  unfold chart1 at h
  split at h
  · exact absurd h (by assumption)
  split at h
  · cases h
  split at h
  · exact absurd h (by assumption)
  split at h
  · cases h
  · rename_i h1 h2 h3 h4
    simp at h1 h2 h3 h4
    exact ⟨h1, h2.1, h2.2, h3, h4.1, h4.2⟩
theorem chartF_1 {p : List TStep} {c : TChart} (h : chart1 p c ≠ 0) : chartF p c = chart1 p c := by
  unfold chartF chart1 at *
  split
  · rfl
  · rename_i h1
    rw [if_neg h1] at h
    split
    · rfl
    · rename_i h2
      rw [if_neg h2] at h
      split
      · rfl
      · rename_i h3
        rw [if_neg h3] at h
        split
        · rfl
        · rename_i h4
          rw [if_neg h4] at h
          exact absurd rfl h
theorem chartF_2 {p : List TStep} {c : TChart} (h : chart1 p c = 0) : chartF p c = if smallB c.acts 2 = false ∨ smallB c.dues (c.now + 99) = false then 3
  else if c.status ≠ 1 then (if zeros c.acts = true ∧ zeros c.dues = true then 0 else 1)
  else if actA c 0 = 1 ∧ someWrong p c p.length = false then 0 else 1 := by
  obtain ⟨h1, h2, h3, h4, h5, h6⟩ := chart1_ok h
  unfold chartF
  rw [if_neg (by simp [h1]), if_neg (by simp [h2, h3]), if_neg (by simp [h4]), if_neg (by simp [h5, h6])]
theorem ProcOk.steps {p : List TStep} (h : ProcOk p) : StepsOk p := ⟨h.len, h.one⟩
theorem chartF_3 {p : List TStep} {c : TChart} (h : chart1 p c = 0) (hs : ¬ (smallB c.acts 2 = false ∨ smallB c.dues (c.now + 99) = false)) : chartF p c = if ordB p c = true then 0 else 1 := by
  have hp := procOk (chart1_ok h).1
  rw [chartF_2 h, if_neg hs]
  unfold ordB
  split
  · simp only [Bool.and_eq_true]
  · have := fits_iff (c := c) hp
    simp only [Bool.and_eq_true, decide_eq_true_eq]
    by_cases h9 : allFit p c p.length = true ∧ actA c 0 = 1
    · rw [if_pos h9, if_pos (this.1 h9)]
    · rw [if_neg h9, if_neg (fun h8 => h9 (this.2 h8))]
end Go.AM

/-! ### Ph -/
set_option linter.unusedVariables false
set_option linter.unusedSimpArgs false
namespace Go.AM
@[go_sem high] theorem I1_compR : (fun x => List.map unown x) ∘ I1 = I1 := rfl
@[go_sem high] theorem TNode_compR : (fun x => List.map unown x) ∘ TNode.ro = TNode.ro := by funext x; simp [TNode_ro_un]
theorem procAt_at {l : List TProc} {i : Nat} {x : TProc} (h : l[i]? = some x) : procAt l i = procF x.steps := by simp [procAt, List.getD, h]
theorem procsF_len {l : List TProc} (h : inR l.length 1 3 = false) : procsF l = 2 := by rw [procsF, if_pos h]
theorem procsF_len' {l : List TProc} (h : l.length < 1 ∨ 3 < l.length) : procsF l = 2 := procsF_len (inR_not.2 (by omega))
theorem procsF_hit {l : List TProc} {i : Nat} (hR : inR l.length 1 3 = true) (hi : i < l.length) (h : ∀ k, k < i → procAt l k = 0) (hne : procAt l i ≠ 0) : procsF l = procAt l i := by
  rw [procsF, if_neg (by rw [hR]; decide)]
  exact sc_first i 0 (Nat.zero_le _) hi (fun k _ hk => h k hk) hne
theorem procsF_ok {l : List TProc} (hR : inR l.length 1 3 = true) (h : ∀ k, k < l.length → procAt l k = 0) : procsF l = 0 := by
  rw [procsF, if_neg (by rw [hR]; decide), sc_none h]
theorem procsF_zero {l : List TProc} (h : procsF l = 0) : inR l.length 1 3 = true ∧ ∀ k, k < l.length → procAt l k = 0 := by
  unfold procsF at h
  split at h
  · cases h
  · rename_i h1; exact ⟨by simpa using h1, sc_all h⟩
theorem instAt_at {e : TEngine} {i : Nat} {x : TInst} (h : e.insts[i]? = some x) : instAt e i = instF e x := by simp [instAt, List.getD, h]
theorem stepsOf_at {e : TEngine} {x : TInst} {y : TProc} (h : e.procs[x.proc.toNat]? = some y) : stepsOf e x = y.steps := by simp [stepsOf, List.getD, h]
theorem instF_eq (e : TEngine) (x : TInst) : instF e x = if inR x.proc 0 ((e.procs.length : Int) - 1) = false then 3 else if chartF (stepsOf e x) x.chart ≠ 0 then chartF (stepsOf e x) x.chart else if x.chart.now ≠ e.now then 9 else 0 := rfl
theorem engF_hit {e : TEngine} {i : Nat} (h1 : ¬ 6 < e.insts.length) (h2 : procsF e.procs = 0) (h3 : inR e.now 0 1000000 = true) (hi : i < e.insts.length) (h : ∀ k, k < i → instAt e k = 0) (hne : instAt e i ≠ 0) : engF e = instAt e i := by
  rw [engF, if_neg h1, if_neg (by simp [h2]), if_neg (by simp [h3])]
  exact sc_first i 0 (Nat.zero_le _) hi (fun k _ hk => h k hk) hne
theorem engF_ok {e : TEngine} (h1 : ¬ 6 < e.insts.length) (h2 : procsF e.procs = 0) (h3 : inR e.now 0 1000000 = true) (h : ∀ k, k < e.insts.length → instAt e k = 0) : engF e = 0 := by
  rw [engF, if_neg h1, if_neg (by simp [h2]), if_neg (by simp [h3]), sc_none h]
end Go.AM

/-! ### Am24 -/
set_option linter.unusedVariables false
set_option linter.unusedSimpArgs false
namespace Go.AM

section
variable {P : Program} {st : St} {K : Exit → St → Prop}

end
end Go.AM

namespace Go.AM
def labRes (lab : Labs) : Labs := fun b => match lab b with
  | some (.res, _) => none
  | l => l
theorem labRes_res {lab : Labs} {b : Nat} {q : List (Nat × Nat)} (h : lab b = some (.res, q)) : labRes lab b = none := by simp [labRes, h]
theorem labRes_none {lab : Labs} {b : Nat} (h : lab b = none) : labRes lab b = none := by simp [labRes, h]
theorem labRes_still {lab : Labs} {b : Nat} (h : still (lab b)) : labRes lab b = lab b := by
  unfold labRes
  split
  · rename_i h2; rw [h2] at h; exact h.elim
  · rfl

/-- an answer that nobody writes into any more -/
theorem DC.frz {P : Program} {f : FuncId} {args : List AV} {res : AV} (h : DC P f args res []) : DC P f args (unown res) [] := by
  refine ⟨h.body, ?_⟩
  intro w lab vals hl hv hf
  refine (h.calls w lab vals hl hv hf).mono fun e w' he => ?_
  obtain ⟨v, lab', rfl, hT, _, hE, hfr⟩ := he
  refine ⟨v, labRes lab', rfl, .imm _ _ _ (hT.unown (fun b hb => labRes_none hb) (fun b q hb => labRes_res hb)), by simp, ?_, ?_⟩
  · refine ⟨hE.size, hE.os, hE.out, ?_, hE.blk⟩
    intro b hb hs
    obtain ⟨h1, h2⟩ := hE.kept b hb hs
    refine ⟨?_, h2⟩
    have : labRes lab' b = lab' b := labRes_still (by rw [h1]; exact hs)
    rw [this, h1]
  · intro b hb
    apply hfr
    intro hn
    exact hb (labRes_none hn)
end Go.AM

namespace Go.AM
end Go.AM

/-! ### Am25 -/
set_option linter.unusedVariables false
set_option linter.unusedSimpArgs false
namespace Go.AM

def labFz (lab : Labs) (id : Nat) : Labs := fun b => match lab b with
  | some (.obj k, p) => if k = id then none else some (.obj k, p)
  | l => l
theorem labFz_hit {lab : Labs} {id b : Nat} {q : List (Nat × Nat)} (h : lab b = some (.obj id, q)) : labFz lab id b = none := by simp [labFz, h]
theorem labFz_none {lab : Labs} {id b : Nat} (h : lab b = none) : labFz lab id b = none := by simp [labFz, h]
theorem labFz_other {lab : Labs} {id k b : Nat} {q : List (Nat × Nat)} (h : lab b = some (.obj k, q)) (hk : k ≠ id) : labFz lab id b = some (.obj k, q) := by simp [labFz, h, hk]
theorem labFz_still {lab : Labs} {id b : Nat} (h : still (lab b)) : labFz lab id b = lab b := by
  unfold labFz
  split
  · rename_i h2; rw [h2] at h; exact h.elim
  · rfl
theorem labFz_live {lab : Labs} {id b : Nat} (h : labFz lab id b ≠ none) : lab b ≠ none := by
  intro e; exact h (labFz_none e)

section
variable {P : Program} {st : St} {K : Exit → St → Prop}

theorem RepL.freeze {w0 : World} {lab0 : Labs} {a : Act} {w : World} {lab : Labs} {loc : Locs} {s id es i len : Nat} {nd : Node} (hR : RepL w0 lab0 st a w lab loc) (h1 : st.obj id = some nd) (h2 : st.slot s = some (.sl id es i len))
    (hes : nd.es = es) (hb : i + len ≤ nd.l.length) (ht : ∀ c ∈ nd.l, ∀ x ∈ c, AV.tree x = true) :
    RepL w0 lab0 ⟨st.n, (s, .isl es (((nd.l.drop i).take len).map (·.map unown))) :: st.slots, (id, none) :: st.objs⟩ a w (labFz lab id) (fun k => if k = id then none else loc k) := by
  have hloc : ∀ k b base, (fun k => if k = id then none else loc k) k = some (b, base) → loc k = some (b, base) := by
    intro k b base h
    simp only at h
    split at h
    · cases h
    · exact h
  have hV : ∀ x v, V w lab loc x v → V w (labFz lab id) (fun k => if k = id then none else loc k) x v := fun x v hv =>
    hv.mono (fun b _ h => ⟨labFz_none h, rfl⟩) (Nat.le_refl _) fun k _ b base h => ⟨hloc k b base h, fun _ h => h⟩
  refine ⟨hR.size, hR.defers, ?_, ?_, ?_, fun b h => hR.fresh b (labFz_live h), ?_⟩
  · intro s' x hx
    simp only [St.slot, look] at hx
    split at hx
    · rename_i e; subst e
      cases hx
      obtain ⟨b, base, hl, ho⟩ := hR.objs id nd h1
      obtain ⟨c, cap, hv, k1, k2, k3⟩ := (hR.slots _ _ h2).inv_sl hl
      refine .imm _ _ ?_
      rw [hv]
      have hll : ((nd.l.drop i).take len).length = len := by simp; omega
      by_cases hz : len = 0
      · subst hz
        simp only [List.take_zero, List.map_nil]
        exact .esl _ _ _
      have hc : c = ⟨b, base + i * es, none⟩ := by rcases k2 with h | h; omega; exact h
      subst hc
      have hres := I.isl (w := w) (lab := labFz lab id) es (((nd.l.drop i).take len).map (·.map unown)) b (base + i * es) cap
        (fun i' j => (w.cell? ⟨b, base + i * es + i' * es + j, none⟩).getD undef) (labFz_hit ho.hlab) ho.blk.lt (by rw [List.length_map, hll]; exact k1)
        (by
          intro c hc
          obtain ⟨c', hc', rfl⟩ := List.mem_map.1 hc
          rw [List.length_map, ← hes]
          exact ho.es c' (List.mem_of_mem_drop (List.mem_of_mem_take hc')))
        (by
          intro c hc x hx
          obtain ⟨c', hc', rfl⟩ := List.mem_map.1 hc
          obtain ⟨y, hy, rfl⟩ := List.mem_map.1 hx
          exact unown_plain (ht c' (List.mem_of_mem_drop (List.mem_of_mem_take hc')) y hy))
        ?_ ?_
      · rw [List.length_map, hll] at hres; exact hres
      · intro i' j hi hj
        rw [List.length_map, hll] at hi
        have hi2 : i + i' < nd.l.length := by omega
        have hc : nd.l[i + i']? = some nd.l[i + i'] := List.getElem?_eq_getElem hi2
        have hcl := ho.es _ (List.mem_of_getElem? hc)
        obtain ⟨v, hv, _⟩ := ho.cells (i + i') _ j _ hc (List.getElem?_eq_getElem (by omega))
        rw [hes, Nat.add_mul, ← Nat.add_assoc] at hv
        rw [hv]; rfl
      · intro i' c j x hi hj
        simp only [List.getElem?_map, Option.map_eq_some_iff] at hi
        obtain ⟨c', hc', rfl⟩ := hi
        simp only [List.getElem?_map, Option.map_eq_some_iff] at hj
        obtain ⟨y, hy, rfl⟩ := hj
        have hc2 : nd.l[i + i']? = some c' := by
          rw [List.getElem?_take] at hc'
          split at hc'
          · rwa [List.getElem?_drop] at hc'
          · cases hc'
        obtain ⟨v, hv, hcv⟩ := ho.cells (i + i') c' j y hc2 hy
        rw [hes, Nat.add_mul, ← Nat.add_assoc] at hv
        simp only [hv, Option.getD_some]
        refine (Cell.tree hcv (ht c' (List.mem_of_getElem? hc2) y (List.mem_of_getElem? hy))).unown (fun b h => labFz_none h) ?_
        intro b' q hq
        exact labFz_hit (by rw [hq]; rfl)
    · exact hV _ _ (hR.slots s' x hx)
  · intro k nk hk
    simp only [St.obj, look] at hk
    split at hk
    · simp at hk
    · rename_i hne
      have hne' : k ≠ id := fun e => hne e
      obtain ⟨b, base, hl, ho⟩ := hR.objs k nk hk
      refine ⟨b, base, by rw [if_neg hne']; exact hl, labFz_other ho.hlab hne', ho.blk, ho.es, ?_⟩
      intro i2 c2 j2 z hi hj
      obtain ⟨v, hv, hcv⟩ := ho.cells i2 c2 j2 z hi hj
      refine ⟨v, hv, hcv.imp (hV _ _) fun hT => hT.move (fun b _ h => ⟨labFz_none h, rfl⟩) ?_ (Nat.le_refl _)⟩
      intro b' q _ hq
      exact ⟨by rw [labFz_other (k := k) (q := (Lab.app (.obj k, [(i2, j2)]) q).2) (by rw [hq]; rfl) hne']; rfl, rfl⟩
  · intro k hk
    simp only [St.obj, look] at hk
    split at hk
    · rename_i e; simp [e]
    · have := hR.dead k hk
      split
      · rfl
      · exact this
  · have e := hR.ext
    refine ⟨e.size, e.os, e.out, ?_, e.blk⟩
    intro b hb hs
    obtain ⟨k1, k2⟩ := e.kept b hb hs
    exact ⟨by rw [labFz_still (by rw [k1]; exact hs), k1], k2⟩

theorem AW.freeze {code : Code} (s id : Nat) {es i len : Nat} {nd : Node} {l' : List (List AV)} (h1 : st.obj id = some nd) (h2 : st.slot s = some (.sl id es i len)) (hes : nd.es = es) (hb : i + len ≤ nd.l.length) (ht : ∀ c ∈ nd.l, ∀ x ∈ c, AV.tree x = true)
    (hl : ((nd.l.drop i).take len).map (·.map unown) = l')
    (h : AW P code ⟨st.n, (s, .isl es l') :: st.slots, (id, none) :: st.objs⟩ K) : AW P code st K := by
  subst hl
  exact AW.ghost (fun _ _ _ _ ⟨_, _, hR⟩ => ⟨_, _, hR.freeze h1 h2 hes hb ht⟩) h
end
end Go.AM

/-! ### Am26 -/
set_option linter.unusedVariables false
set_option linter.unusedSimpArgs false
namespace Go.AM
section
variable {P : Program} {st : St} {K : Exit → St → Prop}
end
end Go.AM

/-! ### Po -/
set_option linter.unusedVariables false
set_option linter.unusedSimpArgs false
namespace Go.AM
theorem owc_cases (es : Nat) (l : List (List AV)) : (owc es l = .isl es [] ∧ l = []) ∨ (owc es l = .osl es l ∧ l ≠ []) := by
  cases l with
  | nil => exact Or.inl ⟨rfl, rfl⟩
  | cons x r => exact Or.inr ⟨rfl, by simp⟩
/-- a node's marks -/
def fN (k : Int) (x : Int) : List AV := [.int .i64 (k + 4 * x), .int .i64 (k + 4 * x + 1), .int .i64 (k + 4 * x + 2), .int .i64 (k + 4 * x + 3)]
theorem fN_eq (k : Int) (i : Nat) : fN k (0 + i) = [.int .i64 (k + 4 * (i : Int)), .int .i64 (k + 4 * (i : Int) + 1), .int .i64 (k + 4 * (i : Int) + 2), .int .i64 (k + 4 * (i : Int) + 3)] := by simp [fN]
def TStep.mn (x : TStep) : Nat := 4 + 4 * x.cond.length + 4 * x.expr.length
def mkS (l : List TStep) : Nat := (l.map TStep.mn).sum
theorem mkS_take {l : List TStep} {i : Nat} {x : TStep} (h : l[i]? = some x) : mkS (l.take (i + 1)) = mkS (l.take i) + x.mn := by
  unfold mkS; rw [List.map_take, List.map_take]; exact sum_take h
theorem mkS_le (l : List TStep) (i : Nat) : mkS (l.take i) ≤ mkS l := by
  unfold mkS; rw [List.map_take]; exact sum_le
theorem mkS_len (l : List TStep) : l.length ≤ mkS l := by
  unfold mkS
  induction l with
  | nil => simp
  | cons x l ih => simp only [List.map_cons, List.sum_cons, List.length_cons, TStep.mn] at *; omega
theorem mkS_sz (l : List TStep) : mkS l ≤ 4 * (l.length + (l.map TStep.sz).sum) := by
  unfold mkS
  induction l with
  | nil => simp
  | cons x l ih => simp only [List.map_cons, List.sum_cons, List.length_cons, TStep.mn, TStep.sz] at *; omega
end Go.AM

/-! ### Pp -/
namespace Go.AM
theorem not_ids_set {l : List (List AV)} {i : Nat} {c : List AV} {n : Nat} (h : l.flatMap idsL = []) (hc : ¬ n ∈ idsL c) : (∀ x, x ∈ l.set i c → ¬ n ∈ idsL x) ↔ True := by
  have h' : ∀ x ∈ l, idsL x = [] := List.flatMap_eq_nil_iff.1 h
  refine ⟨fun _ => True.intro, fun _ x hx => ?_⟩
  cases List.mem_or_eq_of_mem_set hx with
  | inl hx => rw [h' x hx]; simp
  | inr e => rw [e]; exact hc
end Go.AM

/-! ### Pr -/
set_option linter.unusedVariables false
set_option linter.unusedSimpArgs false
namespace Go.AM
def nodeM (k : Int) : TNode := ⟨k, k + 1, k + 2, k + 3⟩
def mN (n : Nat) (k : Int) : List TNode := (List.range n).map fun (i : Nat) => nodeM (k + 4 * (i : Int))
theorem mN_len {n : Nat} {k : Int} : (mN n k).length = n := by simp [mN]
theorem mkN_end {l : List TNode} {k : Int} : mkP (fN k) (l.map TNode.ro) 0 l.length = (mN l.length k).map TNode.ro := by
  unfold mkP mN
  rw [List.drop_eq_nil_of_le (by simp), List.append_nil, List.map_map]
  apply List.map_congr_left
  intro i _
  simp [fN, nodeM, TNode.ro]
def stepM (k : Int) (x : TStep) : TStep := ⟨k, k + 1, mt (k + 2), k + 3, mN x.cond.length (k + 4), mN x.expr.length (k + 4 + 4 * (x.cond.length : Int))⟩
def mSt (k : Int) (l : List TStep) : List TStep := l.mapIdx fun j x => stepM (k + (mkS (l.take j) : Int)) x
theorem mSt_len {k : Int} {l : List TStep} : (mSt k l).length = l.length := by simp [mSt]
theorem mSt_at {k : Int} {l : List TStep} {i : Nat} {x : TStep} (h : l[i]? = some x) : (mSt k l)[i]? = some (stepM (k + (mkS (l.take i) : Int)) x) := by simp [mSt, h]
def mix {α : Type} (a b : List α) (i : Nat) : List α := a.take i ++ b.drop i
theorem mix_len {α : Type} {a b : List α} {i : Nat} (h : a.length = b.length) (hi : i ≤ b.length) : (mix a b i).length = b.length := by simp [mix]; omega
theorem mix_at {α : Type} {a b : List α} {i : Nat} {x : α} (hl : a.length = b.length) (h : b[i]? = some x) : (mix a b i)[i]? = some x := by
  have hi := at_lt h
  unfold mix
  rw [List.getElem?_append_right (by simp; omega), List.getElem?_drop]
  rw [show i + (i - (a.take i).length) = i by simp; omega]
  exact h
theorem mix_set {α : Type} {a b : List α} {i : Nat} {y : α} (hl : a.length = b.length) (h : a[i]? = some y) : (mix a b i).set i y = mix a b (i + 1) := by
  have hi := at_lt h
  unfold mix
  rw [List.set_append, if_neg (by simp; omega), show i - (a.take i).length = 0 by simp; omega, List.drop_eq_getElem_cons (by omega), List.set_cons_zero, List.take_add_one, h]
  simp
theorem mix_zero {α : Type} (a b : List α) : mix a b 0 = b := by simp [mix]
theorem mix_end {α : Type} {a b : List α} {i : Nat} (hl : a.length = b.length) (h : b.length ≤ i) : mix a b i = a := by
  unfold mix; rw [List.take_of_length_le (by omega), List.drop_eq_nil_of_le h, List.append_nil]
theorem ocids (l : List TStep) : (l.map TStep.oc).flatMap idsL = [] := flatids (f := TStep.oc) (by intro x; simp [go_sem]) l
theorem ncases (l : List TNode) : (owc 4 (l.map TNode.ro) = .isl 4 [] ∧ (∀ K, owc 4 ((mN l.length K).map TNode.ro) = .isl 4 []) ∧ l.length = 0) ∨
    (owc 4 (l.map TNode.ro) = .osl 4 (l.map TNode.ro) ∧ (∀ K, owc 4 ((mN l.length K).map TNode.ro) = .osl 4 ((mN l.length K).map TNode.ro)) ∧ 0 < l.length) := by
  cases l with
  | nil => exact Or.inl ⟨rfl, fun _ => rfl, rfl⟩
  | cons x r =>
    refine Or.inr ⟨rfl, fun K => ?_, by simp⟩
    have : (mN (x :: r).length K).map TNode.ro ≠ [] := by intro h; have := congrArg List.length h; simp [mN] at this
    rcases owc_cases 4 ((mN (x :: r).length K).map TNode.ro) with ⟨_, h⟩ | ⟨h, _⟩
    · exact absurd h this
    · exact h
end Go.AM

/-! ### O5 -/
set_option linter.unusedVariables false
set_option linter.unusedSimpArgs false
set_option maxHeartbeats 600000
set_option maxRecDepth 100000
namespace Go.AM
open Go.Proofs

/-- laws.markNodeS -/
theorem dc_laws_markNodeS_nil (k : Int) : DC Tryz.prog 91 [.isl 4 [], .int .i64 k] (.int .i64 k) [] := by
 refine DC.intro tiOk Tryz.func91 rfl rfl rfl rfl rfl rfl rfl rfl [] ?_
 refine rg [0,1] ?_
 intro k hk; simp -dsimp [go_sem, -decide_eq_true_eq, -decide_eq_false_iff_not]
 repeat' first | apply And.intro | refine hk _ ?_ | intro hg | omega | exact True.intro
 all_goals clear hk k
 refine AW.seq ?_
 refine rg [0,1,5] ?_
 intro k hk; simp -dsimp [go_sem, -decide_eq_true_eq, -decide_eq_false_iff_not]
 repeat' first | apply And.intro | refine hk _ ?_ | intro hg | omega | exact True.intro
 all_goals clear hk k
 refine AW.block ?_
 refine AW.loopI (fun _ : Nat => ⟨41, [(0, .isl 4 []), (1, .int .i64 k), (5, .int .i64 0)], []⟩) (fun _ => True) (fun _ => 0) (0) (trivial) (Less.of rfl (by simp [go_sem]) (by simp [go_sem])) ?_
 rintro i _
 refine AW.seq ?_
 refine rg [0,1,5,9] ?_
 intro k hk; simp -dsimp [go_sem, -decide_eq_true_eq, -decide_eq_false_iff_not]
 repeat' first | apply And.intro | refine hk _ ?_ | intro hg | omega | exact True.intro
 all_goals clear hk k
 refine AW.cond rfl ?_ ?_
 ·intro hc; try simp at hc
  all_goals try (exfalso; first | omega | (simp at hc; done); done)
  all_goals (
   refine AW.skipN (fun _ h => h) ?_
   refine AW.seq ?_
   refine AW.block ?_
   refine rg [0,1,5] ?_
   intro k hk; simp -dsimp [go_sem, -decide_eq_true_eq, -decide_eq_false_iff_not]
   repeat' first | apply And.intro | refine hk _ ?_ | intro hg | omega | exact True.intro
   all_goals clear hk k
   refine rg [0,1,5] ?_
   intro k hk; simp -dsimp [go_sem, -decide_eq_true_eq, -decide_eq_false_iff_not]
   repeat' first | apply And.intro | refine hk _ ?_ | intro hg | omega | exact True.intro
   all_goals clear hk k
   refine rg [0,1,5] ?_
   intro k hk; simp -dsimp [go_sem, -decide_eq_true_eq, -decide_eq_false_iff_not]
   repeat' first | apply And.intro | refine hk _ ?_ | intro hg | omega | exact True.intro
   all_goals clear hk k
   refine rg [0,1,5] ?_
   intro k hk; simp -dsimp [go_sem, -decide_eq_true_eq, -decide_eq_false_iff_not]
   repeat' first | apply And.intro | refine hk _ ?_ | intro hg | omega | exact True.intro
   all_goals clear hk k
   refine rg [0,1,5] ?_
   intro k hk; simp -dsimp [go_sem, -decide_eq_true_eq, -decide_eq_false_iff_not]
   repeat' first | apply And.intro | refine hk _ ?_ | intro hg | omega | exact True.intro
   all_goals clear hk k
   refine rg [0,1,5] ?_
   intro k hk; simp -dsimp [go_sem, -decide_eq_true_eq, -decide_eq_false_iff_not]
   repeat' first | apply And.intro | refine hk _ ?_ | intro hg | omega | exact True.intro
   all_goals clear hk k
   refine rg [0,1,5] ?_
   intro k hk; simp -dsimp [go_sem, -decide_eq_true_eq, -decide_eq_false_iff_not]
   repeat' first | apply And.intro | refine hk _ ?_ | intro hg | omega | exact True.intro
   all_goals clear hk k
   refine rgN [0,1,5] (fun _ h => h) ?_
   intro k hk; simp -dsimp [go_sem, -decide_eq_true_eq, -decide_eq_false_iff_not]
   repeat' first | apply And.intro | refine hk _ ?_ | intro hg | omega | exact True.intro
   all_goals clear hk k
   refine rgK ?_
   intro k hk; simp -dsimp [go_sem, -decide_eq_true_eq, -decide_eq_false_iff_not]
   repeat' first | apply And.intro | refine hk _ ?_ | intro hg | omega | exact True.intro
   all_goals clear hk k
   show ∃ _, _
   exact absurd hc (by simp))
 ·intro hc; try simp at hc
  all_goals try (exfalso; first | omega | (simp at hc; done); done)
  all_goals (
   refine AW.exitN (fun _ h => h) ?_
   refine rg [4] ?_
   intro k hk; simp -dsimp [go_sem, -decide_eq_true_eq, -decide_eq_false_iff_not]
   repeat' first | apply And.intro | refine hk _ ?_ | intro hg | omega | exact True.intro
   all_goals clear hk k
   refine rt ?_
   simp [go_sem, Tryz.results91])

/-- laws.markNodeS -/
theorem dc_laws_markNodeS_x (l : List TNode) (k : Int) (hk : 0 ≤ k ∧ k + 4 * l.length ≤ 4611686018427387904) : DC Tryz.prog 91 [.osl 4 (l.map TNode.ro), .int .i64 k] (.int .i64 (k + 4 * (l.length : Int))) [(0, .osl 4 ((mN l.length k).map TNode.ro))] := by
 refine DC.intro tiOk Tryz.func91 rfl rfl rfl rfl rfl rfl rfl (by simp [noW, noWo]) [] ?_
 refine rg [0,1] ?_
 intro k hk; simp -dsimp [go_sem, -decide_eq_true_eq, -decide_eq_false_iff_not]
 repeat' first | apply And.intro | refine hk _ ?_ | intro hg | omega | exact True.intro
 all_goals clear hk k
 refine AW.seq ?_
 refine rg [0,1,5] ?_
 intro k hk; simp -dsimp [go_sem, -decide_eq_true_eq, -decide_eq_false_iff_not]
 repeat' first | apply And.intro | refine hk _ ?_ | intro hg | omega | exact True.intro
 all_goals clear hk k
 refine AW.block ?_
 refine AW.loopI (fun i : Nat => ⟨41, [(0, .sl 1900 4 0 l.length), (1, .int .i64 (k + 4 * (i : Int))), (5, .int .i64 i)], [(1900, some ⟨4, mkP (fN k) (l.map TNode.ro) 0 i⟩)]⟩) (fun i => i ≤ l.length) (fun i => l.length - i) (0) (by simp) (Less.of rfl (by simp [go_sem]) (by simp [go_sem, mkP_zero])) ?_
 rintro i hi
 refine AW.seq ?_
 refine rg [0,1,5,9] ?_
 intro k hk; simp -dsimp [go_sem, -decide_eq_true_eq, -decide_eq_false_iff_not]
 repeat' first | apply And.intro | refine hk _ ?_ | intro hg | omega | exact True.intro
 all_goals clear hk k
 refine AW.cond rfl ?_ ?_
 ·intro hc; try simp at hc
  all_goals (
   have hlt : i < l.length := by assumption
   obtain ⟨x, hx⟩ := at_some hlt
   have hp : (mkP (fN k) (l.map TNode.ro) 0 i).length = l.length := by rw [mkP_len (by simpa using hi)]; simp
   have hp2 : (mkP (fN k) (l.map TNode.ro) 0 i)[i]? = some x.ro := mkP_at (by simp [hx])
   have hp3 : ∀ h, (mkP (fN k) (l.map TNode.ro) 0 i)[i]'h = x.ro := fun h => by have h9 := hp2; rw [List.getElem?_eq_getElem h] at h9; exact Option.some.inj h9
   have hwk0 : IntKind.wrap .i64 (k + 4 * (i : Int) + 1) = k + 4 * (i : Int) + 1 := (wrap64 (by omega) (by omega)).trans (by omega)
   have hwk1 : IntKind.wrap .i64 (k + 4 * (i : Int) + 1 + 1) = k + 4 * (i : Int) + 2 := (wrap64 (by omega) (by omega)).trans (by omega)
   have hwk2 : IntKind.wrap .i64 (k + 4 * (i : Int) + 2 + 1) = k + 4 * (i : Int) + 3 := (wrap64 (by omega) (by omega)).trans (by omega)
   have hwk3 : IntKind.wrap .i64 (k + 4 * (i : Int) + 3 + 1) = k + 4 * (i : Int) + 4 := (wrap64 (by omega) (by omega)).trans (by omega)
   have hwv0 : IntKind.wrap .i64 (k + 4 * (i : Int)) = k + 4 * (i : Int) := wrap64 (by omega) (by omega)
   have hwv1 : IntKind.wrap .i64 (k + 4 * (i : Int) + 1) = k + 4 * (i : Int) + 1 := wrap64 (by omega) (by omega)
   have hwv2 : IntKind.wrap .i64 (k + 4 * (i : Int) + 2) = k + 4 * (i : Int) + 2 := wrap64 (by omega) (by omega)
   have hwv3 : IntKind.wrap .i64 (k + 4 * (i : Int) + 3) = k + 4 * (i : Int) + 3 := wrap64 (by omega) (by omega)
   have hwv4 : IntKind.wrap .i64 (k + 4 * (i : Int) + 4) = k + 4 * (i : Int) + 4 := wrap64 (by omega) (by omega)
   refine AW.skipN (fun _ h => h) ?_
   refine AW.seq ?_
   refine AW.block ?_
   refine rg [0,1,5] ?_
   intro k hk; simp -dsimp [go_sem, -decide_eq_true_eq, -decide_eq_false_iff_not, hp, hp2, hp3, hlt, hwk0, hwk1, hwk2, hwk3, hwv0, hwv1, hwv2, hwv3, hwv4]
   repeat' first | apply And.intro | refine hk _ ?_ | intro hg | omega | exact True.intro
   all_goals clear hk k
   refine rg [0,1,5] ?_
   intro k hk; simp -dsimp [go_sem, -decide_eq_true_eq, -decide_eq_false_iff_not, hp, hp2, hp3, hlt, hwk0, hwk1, hwk2, hwk3, hwv0, hwv1, hwv2, hwv3, hwv4]
   repeat' first | apply And.intro | refine hk _ ?_ | intro hg | omega | exact True.intro
   all_goals clear hk k
   refine rg [0,1,5] ?_
   intro k hk; simp -dsimp [go_sem, -decide_eq_true_eq, -decide_eq_false_iff_not, hp, hp2, hp3, hlt, hwk0, hwk1, hwk2, hwk3, hwv0, hwv1, hwv2, hwv3, hwv4]
   repeat' first | apply And.intro | refine hk _ ?_ | intro hg | omega | exact True.intro
   all_goals clear hk k
   refine rg [0,1,5] ?_
   intro k hk; simp -dsimp [go_sem, -decide_eq_true_eq, -decide_eq_false_iff_not, hp, hp2, hp3, hlt, hwk0, hwk1, hwk2, hwk3, hwv0, hwv1, hwv2, hwv3, hwv4]
   repeat' first | apply And.intro | refine hk _ ?_ | intro hg | omega | exact True.intro
   all_goals clear hk k
   refine rg [0,1,5] ?_
   intro k hk; simp -dsimp [go_sem, -decide_eq_true_eq, -decide_eq_false_iff_not, hp, hp2, hp3, hlt, hwk0, hwk1, hwk2, hwk3, hwv0, hwv1, hwv2, hwv3, hwv4]
   repeat' first | apply And.intro | refine hk _ ?_ | intro hg | omega | exact True.intro
   all_goals clear hk k
   refine rg [0,1,5] ?_
   intro k hk; simp -dsimp [go_sem, -decide_eq_true_eq, -decide_eq_false_iff_not, hp, hp2, hp3, hlt, hwk0, hwk1, hwk2, hwk3, hwv0, hwv1, hwv2, hwv3, hwv4]
   repeat' first | apply And.intro | refine hk _ ?_ | intro hg | omega | exact True.intro
   all_goals clear hk k
   refine rg [0,1,5] ?_
   intro k hk; simp -dsimp [go_sem, -decide_eq_true_eq, -decide_eq_false_iff_not, hp, hp2, hp3, hlt, hwk0, hwk1, hwk2, hwk3, hwv0, hwv1, hwv2, hwv3, hwv4]
   repeat' first | apply And.intro | refine hk _ ?_ | intro hg | omega | exact True.intro
   all_goals clear hk k
   refine rgN [0,1,5] (fun _ h => h) ?_
   intro k hk; simp -dsimp [go_sem, -decide_eq_true_eq, -decide_eq_false_iff_not, hp, hp2, hp3, hlt, hwk0, hwk1, hwk2, hwk3, hwv0, hwv1, hwv2, hwv3, hwv4]
   repeat' first | apply And.intro | refine hk _ ?_ | intro hg | omega | exact True.intro
   all_goals clear hk k
   refine rgK ?_
   intro k hk; simp -dsimp [go_sem, -decide_eq_true_eq, -decide_eq_false_iff_not, hp, hp2, hp3, hlt, hwk0, hwk1, hwk2, hwk3, hwv0, hwv1, hwv2, hwv3, hwv4]
   repeat' first | apply And.intro | refine hk _ ?_ | intro hg | omega | exact True.intro
   all_goals clear hk k
   show ∃ _, _
   have hw := wrapi hlt (by omega)
   have hs := mkP_set (f := fN k) (l := l.map TNode.ro) (k := 0) (i := i) (by simpa using hlt)
   rw [fN_eq] at hs
   refine ⟨i + 1, by omega, by omega, Less.of rfl (by simp [go_sem, hw]; omega) (by simp [go_sem, ← hs])⟩)
 ·intro hc; try simp at hc
  all_goals (
   refine AW.exitN (fun _ h => h) ?_
   refine rg [0,4] ?_
   intro k hk; simp -dsimp [go_sem, -decide_eq_true_eq, -decide_eq_false_iff_not]
   repeat' first | apply And.intro | refine hk _ ?_ | intro hg | omega | exact True.intro
   all_goals clear hk k
   refine rt ?_
   obtain rfl : i = l.length := (by omega)
   simp [go_sem, Tryz.results91, mkN_end, mN_len])

end Go.AM

/-! ### O6 -/
set_option linter.unusedVariables false
set_option linter.unusedSimpArgs false
set_option maxHeartbeats 600000
set_option maxRecDepth 100000
namespace Go.AM
open Go.Proofs

set_option maxHeartbeats 4000000 in
/-- laws.markStepS -/
theorem dc_laws_markStepS_x (l : List TStep) (k : Int) (hk : 0 ≤ k ∧ k + (mkS l : Int) ≤ 4611686018427387904) : DC Tryz.prog 46 [.osl 6 (l.map TStep.oc), .int .i64 k] (.int .i64 (k + (mkS l : Int))) [(0, .osl 6 ((mSt k l).map TStep.oc))] := by
 have hlk := mkS_len l
 have hmm : (mSt k l).length = l.length := mSt_len
 refine DC.intro tiOk Tryz.func46 rfl rfl rfl rfl rfl rfl rfl (by simp [noW, noWo]) [] ?_
 refine rg [0,1] ?_
 intro k hk; simp -dsimp [go_sem, -decide_eq_true_eq, -decide_eq_false_iff_not]
 repeat' first | apply And.intro | refine hk _ ?_ | intro hg | omega | exact True.intro
 all_goals clear hk k
 refine AW.seq ?_
 refine rg [0,1,5] ?_
 intro k hk; simp -dsimp [go_sem, -decide_eq_true_eq, -decide_eq_false_iff_not]
 repeat' first | apply And.intro | refine hk _ ?_ | intro hg | omega | exact True.intro
 all_goals clear hk k
 refine AW.block ?_
 refine AW.loopI (fun i : Nat => ⟨56, [(0, .sl 1900 6 0 l.length), (1, .int .i64 (k + (mkS (l.take i) : Int))), (5, .int .i64 i)], [(1900, some ⟨6, (mix (mSt k l) l i).map TStep.oc⟩)]⟩) (fun i => i ≤ l.length) (fun i => l.length - i) (0) (by simp) (Less.of rfl (by simp [go_sem, mkS]) (by simp [go_sem, mix_zero])) ?_
 rintro i hi
 refine AW.seq ?_
 refine rg [0,1,5,9] ?_
 intro k hk; simp -dsimp [go_sem, -decide_eq_true_eq, -decide_eq_false_iff_not]
 repeat' first | apply And.intro | refine hk _ ?_ | intro hg | omega | exact True.intro
 all_goals clear hk k
 refine AW.cond rfl ?_ ?_
 ·intro hc; try simp at hc
  all_goals (
   have hlt : i < l.length := by assumption
   obtain ⟨x, hx⟩ := at_some hlt
   have hp : (mix (mSt k l) l i).length = l.length := mix_len hmm hi
   have hp2 : (mix (mSt k l) l i)[i]? = some x := mix_at hmm hx
   have hp3 : ∀ h, (mix (mSt k l) l i)[i]'h = x := fun h => by have h9 := hp2; rw [List.getElem?_eq_getElem h] at h9; exact Option.some.inj h9
   have idm := ocids (mix (mSt k l) l i)
   have hpm : ((mix (mSt k l) l i).map TStep.oc).length = l.length := by rw [List.length_map, hp]
   have hmt := mkS_take hx
   have hml := mkS_le l i
   have hml2 := mkS_le l (i + 1)
   unfold TStep.mn at hmt
   have hwk0 : IntKind.wrap .i64 ((k + (mkS (l.take i) : Int)) + 1) = (k + (mkS (l.take i) : Int)) + 1 := (wrap64 (by omega) (by omega)).trans (by omega)
   have hwk1 : IntKind.wrap .i64 ((k + (mkS (l.take i) : Int)) + 1 + 1) = (k + (mkS (l.take i) : Int)) + 2 := (wrap64 (by omega) (by omega)).trans (by omega)
   have hwk2 : IntKind.wrap .i64 ((k + (mkS (l.take i) : Int)) + 2 + 1) = (k + (mkS (l.take i) : Int)) + 3 := (wrap64 (by omega) (by omega)).trans (by omega)
   have hwk3 : IntKind.wrap .i64 ((k + (mkS (l.take i) : Int)) + 3 + 1) = (k + (mkS (l.take i) : Int)) + 4 := (wrap64 (by omega) (by omega)).trans (by omega)
   have hwv0 : IntKind.wrap .i64 ((k + (mkS (l.take i) : Int))) = (k + (mkS (l.take i) : Int)) := wrap64 (by omega) (by omega)
   have hwv1 : IntKind.wrap .i64 ((k + (mkS (l.take i) : Int)) + 1) = (k + (mkS (l.take i) : Int)) + 1 := wrap64 (by omega) (by omega)
   have hwv2 : IntKind.wrap .i64 ((k + (mkS (l.take i) : Int)) + 2) = (k + (mkS (l.take i) : Int)) + 2 := wrap64 (by omega) (by omega)
   have hwv3 : IntKind.wrap .i64 ((k + (mkS (l.take i) : Int)) + 3) = (k + (mkS (l.take i) : Int)) + 3 := wrap64 (by omega) (by omega)
   refine AW.skipN (fun _ h => h) ?_
   refine AW.seq ?_
   refine AW.block ?_
   rcases ncases x.cond with ⟨hoc, hoc2, hoc0⟩ | ⟨hoc, hoc2, hoc0⟩ <;> rcases ncases x.expr with ⟨hoe, hoe2, hoe0⟩ | ⟨hoe, hoe2, hoe0⟩
   all_goals (
    refine rg [0,1,5] ?_
    intro k hk; simp -dsimp [go_sem, -decide_eq_true_eq, -decide_eq_false_iff_not, hp, hp2, hp3, hlt, idm, hoc, hoe, mN_len, hwk0, hwk1, hwk2, hwk3, hwv0, hwv1, hwv2, hwv3]
    repeat' first | apply And.intro | refine hk _ ?_ | intro hg | omega | exact True.intro
    all_goals clear hk k
    refine rg [0,1,5] ?_
    intro k hk; simp -dsimp [go_sem, -decide_eq_true_eq, -decide_eq_false_iff_not, hp, hp2, hp3, hlt, idm, hoc, hoe, mN_len, hwk0, hwk1, hwk2, hwk3, hwv0, hwv1, hwv2, hwv3]
    repeat' first | apply And.intro | refine hk _ ?_ | intro hg | omega | exact True.intro
    all_goals clear hk k
    refine rg [0,1,5] ?_
    intro k hk; simp -dsimp [go_sem, -decide_eq_true_eq, -decide_eq_false_iff_not, hp, hp2, hp3, hlt, idm, hoc, hoe, mN_len, hwk0, hwk1, hwk2, hwk3, hwv0, hwv1, hwv2, hwv3]
    repeat' first | apply And.intro | refine hk _ ?_ | intro hg | omega | exact True.intro
    all_goals clear hk k
    refine rg [0,1,5] ?_
    intro k hk; simp -dsimp [go_sem, -decide_eq_true_eq, -decide_eq_false_iff_not, hp, hp2, hp3, hlt, idm, hoc, hoe, mN_len, hwk0, hwk1, hwk2, hwk3, hwv0, hwv1, hwv2, hwv3]
    repeat' first | apply And.intro | refine hk _ ?_ | intro hg | omega | exact True.intro
    all_goals clear hk k
    refine rg [0,1,5] ?_
    intro k hk; simp -dsimp (maxSteps := 2000000) [go_sem, -decide_eq_true_eq, -decide_eq_false_iff_not, hp, hp2, hp3, hlt, idm, hoc, hoe, mN_len, hwk0, hwk1, hwk2, hwk3, hwv0, hwv1, hwv2, hwv3]
    repeat' first | apply And.intro | refine hk _ ?_ | intro hg | (refine CallK.intro (dc_laws_markText _ (by omega)) ?_; simp -dsimp (maxSteps := 2000000) [go_sem, -decide_eq_true_eq, -decide_eq_false_iff_not, hp, hp2, hp3, hlt, idm, hoc, hoe, mN_len, hwk0, hwk1, hwk2, hwk3, hwv0, hwv1, hwv2, hwv3]) | omega | exact True.intro
    all_goals clear hk k
    refine rg [0,1,5] ?_
    intro k hk; simp -dsimp [go_sem, -decide_eq_true_eq, -decide_eq_false_iff_not, hp, hp2, hp3, hlt, idm, hoc, hoe, mN_len, hwk0, hwk1, hwk2, hwk3, hwv0, hwv1, hwv2, hwv3]
    repeat' first | apply And.intro | refine hk _ ?_ | intro hg | omega | exact True.intro
    all_goals clear hk k
    refine rg [0,1,5] ?_
    intro k hk; simp -dsimp [go_sem, -decide_eq_true_eq, -decide_eq_false_iff_not, hp, hp2, hp3, hlt, idm, hoc, hoe, mN_len, hwk0, hwk1, hwk2, hwk3, hwv0, hwv1, hwv2, hwv3]
    repeat' first | apply And.intro | refine hk _ ?_ | intro hg | omega | exact True.intro
    all_goals clear hk k
    refine rg [0,1,5] ?_
    intro k hk; simp -dsimp [go_sem, -decide_eq_true_eq, -decide_eq_false_iff_not, hp, hp2, hp3, hlt, idm, hoc, hoe, mN_len, hwk0, hwk1, hwk2, hwk3, hwv0, hwv1, hwv2, hwv3]
    repeat' first | apply And.intro | refine hk _ ?_ | intro hg | omega | exact True.intro
    all_goals clear hk k
    try refine AW.thaw 1900 i 4 7004 rfl (node_here (by (repeat rw [List.length_set]); omega)) rfl (by simp [go_sem, idm, not_ids_set]) ?_
    refine AW.reg0 tiOk (fun i => if i = 6 then [0] else []) [0,1,5] ?_
    intro k hk; simp -dsimp (maxSteps := 2000000) [go_sem, -decide_eq_true_eq, -decide_eq_false_iff_not, hp, hp2, hp3, hlt, idm, hoc, hoe, mN_len, hwk0, hwk1, hwk2, hwk3, hwv0, hwv1, hwv2, hwv3]
    repeat' first | apply And.intro | refine hk _ ?_ | intro hg | ((first | refine CallK.intro (dc_laws_markNodeS_x x.cond _ (by constructor <;> omega)) ?_ | refine CallK.intro (dc_laws_markNodeS_x x.expr _ (by constructor <;> omega)) ?_ | refine CallK.intro (dc_laws_markNodeS_nil _) ?_); simp -dsimp (maxSteps := 2000000) [go_sem, -decide_eq_true_eq, -decide_eq_false_iff_not, hp, hp2, hp3, hlt, idm, hoc, hoe, mN_len, hwk0, hwk1, hwk2, hwk3, hwv0, hwv1, hwv2, hwv3]) | omega | exact True.intro
    all_goals clear hk k
    try (guard_hyp hoc0 : 0 < x.cond.length; refine AW.fold 1900 i 4 7004 rfl (node_here (by (repeat rw [List.length_set]); omega)) rfl rfl (by simp [mN_len]) (by decide) (by simp [go_sem, mN_len]) ?_)
    try refine AW.thaw 1900 i 5 7005 rfl (node_here (by (repeat rw [List.length_set]); omega)) rfl (by simp [go_sem, idm, not_ids_set]) ?_
    refine AW.regN0 tiOk (fun i => if i = 6 then [0] else []) [0,1,5] (fun _ h => h) ?_
    intro k hk; simp -dsimp (maxSteps := 2000000) [go_sem, -decide_eq_true_eq, -decide_eq_false_iff_not, hp, hp2, hp3, hlt, idm, hoc, hoe, mN_len, hwk0, hwk1, hwk2, hwk3, hwv0, hwv1, hwv2, hwv3]
    repeat' first | apply And.intro | refine hk _ ?_ | intro hg | ((first | refine CallK.intro (dc_laws_markNodeS_x x.cond _ (by constructor <;> omega)) ?_ | refine CallK.intro (dc_laws_markNodeS_x x.expr _ (by constructor <;> omega)) ?_ | refine CallK.intro (dc_laws_markNodeS_nil _) ?_); simp -dsimp (maxSteps := 2000000) [go_sem, -decide_eq_true_eq, -decide_eq_false_iff_not, hp, hp2, hp3, hlt, idm, hoc, hoe, mN_len, hwk0, hwk1, hwk2, hwk3, hwv0, hwv1, hwv2, hwv3]) | omega | exact True.intro
    all_goals clear hk k
    try (guard_hyp hoe0 : 0 < x.expr.length; refine AW.fold 1900 i 5 7005 rfl (node_here (by (repeat rw [List.length_set]); omega)) rfl rfl (by simp [mN_len]) (by decide) (by simp [go_sem, mN_len]) ?_)
    refine rgK ?_
    intro k hk; simp -dsimp [go_sem, -decide_eq_true_eq, -decide_eq_false_iff_not, hp, hp2, hp3, hlt, idm, hoc, hoe, mN_len, hwk0, hwk1, hwk2, hwk3, hwv0, hwv1, hwv2, hwv3]
    repeat' first | apply And.intro | refine hk _ ?_ | intro hg | omega | exact True.intro
    all_goals clear hk k
    show ∃ _, _
    have hw := wrapi hlt (by omega)
    have hs := congrArg (List.map TStep.oc) (mix_set hmm (mSt_at hx))
    rw [List.map_set] at hs
    refine ⟨i + 1, by omega, by omega, Less.of rfl (by simp [go_sem, hw, hmt, hoc0, hoe0] <;> omega) (by rw [← hs]; simp [go_sem, stepM, TStep.oc, hoc2, hoe2, List.set_set] <;> simp [hoc0])⟩))
 ·intro hc; try simp at hc
  all_goals (
   refine AW.exitN (fun _ h => h) ?_
   refine rg [0,4] ?_
   intro k hk; simp -dsimp [go_sem, -decide_eq_true_eq, -decide_eq_false_iff_not]
   repeat' first | apply And.intro | refine hk _ ?_ | intro hg | omega | exact True.intro
   all_goals clear hk k
   refine rt ?_
   obtain rfl : i = l.length := (by omega)
   simp [go_sem, Tryz.results46, mix_end hmm (Nat.le_refl _), hmm])

end Go.AM

/-! ### O7 -/
set_option linter.unusedVariables false
set_option linter.unusedSimpArgs false
set_option maxHeartbeats 600000
set_option maxRecDepth 100000
namespace Go.AM
open Go.Proofs

end Go.AM

/-! ### Pt2 -/
set_option linter.unusedVariables false
set_option linter.unusedSimpArgs false
namespace Go.AM
/-- the first i steps, owned -/
def cpS (l : List TStep) (i : Nat) : List (List AV) := (l.take i).map TStep.oc
theorem cpS_ids (l : List TStep) (i : Nat) : (cpS l i).flatMap idsL = [] := ocids _
theorem cpS_no (l : List TStep) (i n : Nat) : (∀ x, x ∈ cpS l i → ¬ n ∈ idsL x) ↔ True := by
  have h := cpS_ids l i
  rw [List.flatMap_eq_nil_iff] at h
  exact ⟨fun _ => True.intro, fun _ x hx => by rw [h x hx]; simp⟩
theorem cpS_zero (l : List TStep) : cpS l 0 = [] := rfl
attribute [go_sem] cpS_ids cpS_no cpS_zero
end Go.AM

/-! ### Pt3 -/
set_option linter.unusedVariables false
set_option linter.unusedSimpArgs false
namespace Go.AM
/-- the first i processes, owned -/
def cpP (l : List TProc) (i : Nat) : List (List AV) := (l.take i).map fun p => [.osl 6 (p.steps.map TStep.oc)]
theorem cpP_ids (l : List TProc) (i : Nat) : (cpP l i).flatMap idsL = [] := flatids (by intro x; simp [go_sem]) _
theorem cpP_no (l : List TProc) (i n : Nat) : (∀ x, x ∈ cpP l i → ¬ n ∈ idsL x) ↔ True := by
  have h := cpP_ids l i
  rw [List.flatMap_eq_nil_iff] at h
  exact ⟨fun _ => True.intro, fun _ x hx => by rw [h x hx]; simp⟩
theorem cpP_zero (l : List TProc) : cpP l 0 = [] := rfl
attribute [go_sem] cpP_ids cpP_no cpP_zero
end Go.AM

/-! ### Pt4 -/
set_option linter.unusedVariables false
set_option linter.unusedSimpArgs false
namespace Go.AM
/-- how many marks the steps of processes take -/
def mkPr (l : List TProc) : Nat := (l.map fun p => mkS p.steps).sum
theorem mkPr_take {l : List TProc} {i : Nat} {x : TProc} (h : l[i]? = some x) : mkPr (l.take (i + 1)) = mkPr (l.take i) + mkS x.steps := by
  unfold mkPr; rw [List.take_add_one, h]; simp
theorem mkPr_le (l : List TProc) (i : Nat) : mkPr (l.take i) ≤ mkPr l := by
  unfold mkPr
  conv => rhs; rw [← List.take_append_drop i l]
  rw [List.map_append, List.sum_append]; omega
theorem mkPr_sz (l : List TProc) : mkPr l ≤ 4 * (l.map TProc.sz).sum := by
  induction l with
  | nil => simp [mkPr]
  | cons x r ih =>
    have := mkS_sz x.steps
    unfold mkPr at *
    simp only [List.map_cons, List.sum_cons]
    unfold TProc.sz at *
    omega
def procM (k : Int) (x : TProc) : TProc := ⟨mSt k x.steps⟩
def mPr (k : Int) (l : List TProc) : List TProc := l.mapIdx fun j x => procM (k + (mkPr (l.take j) : Int)) x
theorem mPr_len {k : Int} {l : List TProc} : (mPr k l).length = l.length := by simp [mPr]
theorem mPr_at {k : Int} {l : List TProc} {i : Nat} {x : TProc} (h : l[i]? = some x) : (mPr k l)[i]? = some (procM (k + (mkPr (l.take i) : Int)) x) := by simp [mPr, h]
theorem mSt_ne {K : Int} {l : List TStep} (h : l ≠ []) : (mSt K l).map TStep.oc ≠ [] := by
  intro h2; have := congrArg List.length h2; simp [mSt] at this; exact h this
theorem pcids (l : List TProc) : (l.map TProc.oc).flatMap idsL = [] := TProc_oc_idsL l
theorem pcases (l : List TStep) : (owc 6 (l.map TStep.oc) = .isl 6 [] ∧ (∀ K, owc 6 ((mSt K l).map TStep.oc) = .isl 6 []) ∧ l.length = 0 ∧ mkS l = 0) ∨
    (owc 6 (l.map TStep.oc) = .osl 6 (l.map TStep.oc) ∧ (∀ K, owc 6 ((mSt K l).map TStep.oc) = .osl 6 ((mSt K l).map TStep.oc)) ∧ 0 < l.length ∧ 0 ≤ mkS l) := by
  cases l with
  | nil => exact Or.inl ⟨rfl, fun _ => rfl, rfl, rfl⟩
  | cons x r =>
    refine Or.inr ⟨rfl, fun K => ?_, by simp, Nat.zero_le _⟩
    rcases owc_cases 6 ((mSt K (x :: r)).map TStep.oc) with ⟨_, h⟩ | ⟨h, _⟩
    · exact absurd h (mSt_ne (by simp))
    · exact h
theorem set_same {α : Type} {l : List α} {i : Nat} {a : α} (h : l[i]? = some a) : l.set i a = l := by
  obtain ⟨hi, hx⟩ := List.getElem?_eq_some_iff.1 h
  subst hx; exact List.set_getElem_self hi
end Go.AM

/-! ### Q7 -/
set_option linter.unusedVariables false
set_option linter.unusedSimpArgs false
set_option maxHeartbeats 600000
set_option maxRecDepth 100000
namespace Go.AM
open Go.Proofs

/-- laws.markStepS -/
theorem dc_laws_markStepS_nil (k : Int) : DC Tryz.prog 46 [.isl 6 [], .int .i64 k] (.int .i64 k) [] := by
 refine DC.intro tiOk Tryz.func46 rfl rfl rfl rfl rfl rfl rfl rfl [] ?_
 refine rg [0,1] ?_
 intro k hk; simp -dsimp [go_sem, -decide_eq_true_eq, -decide_eq_false_iff_not]
 repeat' first | apply And.intro | refine hk _ ?_ | intro hg | omega | exact True.intro
 all_goals clear hk k
 refine AW.seq ?_
 refine rg [0,1,5] ?_
 intro k hk; simp -dsimp [go_sem, -decide_eq_true_eq, -decide_eq_false_iff_not]
 repeat' first | apply And.intro | refine hk _ ?_ | intro hg | omega | exact True.intro
 all_goals clear hk k
 refine AW.block ?_
 refine AW.loopI (fun _ : Nat => ⟨56, [(0, .isl 6 []), (1, .int .i64 k), (5, .int .i64 0)], []⟩) (fun _ => True) (fun _ => 0) (0) (trivial) (Less.of rfl (by simp [go_sem]) (by simp [go_sem])) ?_
 rintro i _
 refine AW.seq ?_
 refine rg [0,1,5,9] ?_
 intro k hk; simp -dsimp [go_sem, -decide_eq_true_eq, -decide_eq_false_iff_not]
 repeat' first | apply And.intro | refine hk _ ?_ | intro hg | omega | exact True.intro
 all_goals clear hk k
 refine AW.cond rfl ?_ ?_
 ·intro hc; try simp at hc
  all_goals try (exfalso; first | omega | (simp at hc; done); done)
  all_goals (
   refine AW.skipN (fun _ h => h) ?_
   refine AW.seq ?_
   refine AW.block ?_
   refine rg [0,1,5] ?_
   intro k hk; simp -dsimp [go_sem, -decide_eq_true_eq, -decide_eq_false_iff_not]
   repeat' first | apply And.intro | refine hk _ ?_ | intro hg | omega | exact True.intro
   all_goals clear hk k
   refine rg [0,1,5] ?_
   intro k hk; simp -dsimp [go_sem, -decide_eq_true_eq, -decide_eq_false_iff_not]
   repeat' first | apply And.intro | refine hk _ ?_ | intro hg | omega | exact True.intro
   all_goals clear hk k
   refine rg [0,1,5] ?_
   intro k hk; simp -dsimp [go_sem, -decide_eq_true_eq, -decide_eq_false_iff_not]
   repeat' first | apply And.intro | refine hk _ ?_ | intro hg | omega | exact True.intro
   all_goals clear hk k
   refine rg [0,1,5] ?_
   intro k hk; simp -dsimp [go_sem, -decide_eq_true_eq, -decide_eq_false_iff_not]
   repeat' first | apply And.intro | refine hk _ ?_ | intro hg | omega | exact True.intro
   all_goals clear hk k
   refine rg [0,1,5] ?_
   intro k hk; simp -dsimp (maxSteps := 2000000) [go_sem, -decide_eq_true_eq, -decide_eq_false_iff_not]
   repeat' first | apply And.intro | refine hk _ ?_ | intro hg | (refine CallK.intro (dc_laws_markText _ (by omega)) ?_; simp -dsimp (maxSteps := 2000000) [go_sem, -decide_eq_true_eq, -decide_eq_false_iff_not]) | omega | exact True.intro
   all_goals clear hk k
   refine rg [0,1,5] ?_
   intro k hk; simp -dsimp [go_sem, -decide_eq_true_eq, -decide_eq_false_iff_not]
   repeat' first | apply And.intro | refine hk _ ?_ | intro hg | omega | exact True.intro
   all_goals clear hk k
   refine rg [0,1,5] ?_
   intro k hk; simp -dsimp [go_sem, -decide_eq_true_eq, -decide_eq_false_iff_not]
   repeat' first | apply And.intro | refine hk _ ?_ | intro hg | omega | exact True.intro
   all_goals clear hk k
   refine rg [0,1,5] ?_
   intro k hk; simp -dsimp [go_sem, -decide_eq_true_eq, -decide_eq_false_iff_not]
   repeat' first | apply And.intro | refine hk _ ?_ | intro hg | omega | exact True.intro
   all_goals clear hk k
   refine AW.reg tiOk (fun _ => [0]) [0,1,5] ?_
   intro k hk; simp -dsimp (maxSteps := 2000000) [go_sem, -decide_eq_true_eq, -decide_eq_false_iff_not]
   repeat' first | apply And.intro | refine hk _ ?_ | intro hg | (refine CallK.intro (dc_laws_markNodeS _) ?_; simp -dsimp (maxSteps := 2000000) [go_sem, -decide_eq_true_eq, -decide_eq_false_iff_not]) | omega | exact True.intro
   all_goals clear hk k
   refine AW.regN tiOk (fun _ => [0]) [0,1,5] (fun _ h => h) ?_
   intro k hk; simp -dsimp (maxSteps := 2000000) [go_sem, -decide_eq_true_eq, -decide_eq_false_iff_not]
   repeat' first | apply And.intro | refine hk _ ?_ | intro hg | (refine CallK.intro (dc_laws_markNodeS _) ?_; simp -dsimp (maxSteps := 2000000) [go_sem, -decide_eq_true_eq, -decide_eq_false_iff_not]) | omega | exact True.intro
   all_goals clear hk k
   refine rgK ?_
   intro k hk; simp -dsimp [go_sem, -decide_eq_true_eq, -decide_eq_false_iff_not]
   repeat' first | apply And.intro | refine hk _ ?_ | intro hg | omega | exact True.intro
   all_goals clear hk k
   show ∃ _, _
   exact absurd hc (by simp))
 ·intro hc; try simp at hc
  all_goals try (exfalso; first | omega | (simp at hc; done); done)
  all_goals (
   refine AW.exitN (fun _ h => h) ?_
   refine rg [4] ?_
   intro k hk; simp -dsimp [go_sem, -decide_eq_true_eq, -decide_eq_false_iff_not]
   repeat' first | apply And.intro | refine hk _ ?_ | intro hg | omega | exact True.intro
   all_goals clear hk k
   refine rt ?_
   simp [go_sem, Tryz.results46])

set_option maxHeartbeats 4000000 in
/-- laws.markProcS -/
theorem dc_laws_markProcS_x (l : List TProc) (k : Int) (hll : l.length ≤ 1048576) (hk : 0 ≤ k ∧ k + (mkPr l : Int) ≤ 4611686018427387904) : DC Tryz.prog 14 [.osl 1 (l.map TProc.oc), .int .i64 k] (.int .i64 (k + (mkPr l : Int))) [(0, .osl 1 ((mPr k l).map TProc.oc))] := by
 have hmm : (mPr k l).length = l.length := mPr_len
 refine DC.intro tiOk Tryz.func14 rfl rfl rfl rfl rfl rfl rfl (by simp [noW, noWo]) [] ?_
 refine rg [0,1] ?_
 intro k hk; simp -dsimp [go_sem, -decide_eq_true_eq, -decide_eq_false_iff_not]
 repeat' first | apply And.intro | refine hk _ ?_ | intro hg | omega | exact True.intro
 all_goals clear hk k
 refine AW.seq ?_
 refine rg [0,1,5] ?_
 intro k hk; simp -dsimp [go_sem, -decide_eq_true_eq, -decide_eq_false_iff_not]
 repeat' first | apply And.intro | refine hk _ ?_ | intro hg | omega | exact True.intro
 all_goals clear hk k
 refine AW.block ?_
 refine AW.loopI (fun i : Nat => ⟨20, [(0, .sl 1900 1 0 l.length), (1, .int .i64 (k + (mkPr (l.take i) : Int))), (5, .int .i64 i)], [(1900, some ⟨1, (mix (mPr k l) l i).map TProc.oc⟩)]⟩) (fun i => i ≤ l.length) (fun i => l.length - i) (0) (by simp) (Less.of rfl (by simp [go_sem, mkPr]) (by simp [go_sem, mix_zero])) ?_
 rintro i hi
 refine AW.seq ?_
 refine rg [0,1,5,9] ?_
 intro k hk; simp -dsimp [go_sem, -decide_eq_true_eq, -decide_eq_false_iff_not]
 repeat' first | apply And.intro | refine hk _ ?_ | intro hg | omega | exact True.intro
 all_goals clear hk k
 refine AW.cond rfl ?_ ?_
 ·intro hc; try simp at hc
  all_goals (
   have hlt : i < l.length := by assumption
   obtain ⟨x, hx⟩ := at_some hlt
   have hmt := mkPr_take hx
   have hml := mkPr_le l i
   have hml2 := mkPr_le l (i + 1)
   have hp : (mix (mPr k l) l i).length = l.length := mix_len hmm hi
   have hp2 : (mix (mPr k l) l i)[i]? = some x := mix_at hmm hx
   have hp3 : ∀ h, (mix (mPr k l) l i)[i]'h = x := fun h => by have h9 := hp2; rw [List.getElem?_eq_getElem h] at h9; exact Option.some.inj h9
   have idm := pcids (mix (mPr k l) l i)
   have hpm : ((mix (mPr k l) l i).map TProc.oc).length = l.length := by rw [List.length_map, hp]
   refine AW.skipN (fun _ h => h) ?_
   refine AW.seq ?_
   refine AW.block ?_
   rcases pcases x.steps with ⟨hos, hos2, hos0, hm0⟩ | ⟨hos, hos2, hos0, hm0⟩
   all_goals (
    have hrow : ((mix (mPr k l) l i).map TProc.oc)[i]? = some [owc 6 (x.steps.map TStep.oc)] := by simp [hp2, TProc.oc]
    rw [hos] at hrow
    try (guard_hyp hos0 : 0 < x.steps.length; refine AW.thaw 1900 i 0 7004 rfl hrow rfl (by simp [go_sem, idm, not_ids_set]) ?_)
    refine AW.regN0 tiOk (fun i => if i = 6 then [0] else []) [0,1,5] (fun _ h => h) ?_
    intro k hk; simp -dsimp (maxSteps := 2000000) [go_sem, -decide_eq_true_eq, -decide_eq_false_iff_not, hp, hp2, hp3, hlt, idm, hos, mSt_len]
    repeat' first | apply And.intro | refine hk _ ?_ | intro hg | ((first | refine CallK.intro (dc_laws_markStepS_x x.steps _ (by constructor <;> omega)) ?_ | refine CallK.intro (dc_laws_markStepS_nil _) ?_); simp -dsimp (maxSteps := 2000000) [go_sem, -decide_eq_true_eq, -decide_eq_false_iff_not, hp, hp2, hp3, hlt, idm, hos, mSt_len]) | omega | exact True.intro
    all_goals clear hk k
    try (guard_hyp hos0 : 0 < x.steps.length; refine AW.fold 1900 i 0 7004 rfl (node_here (by (repeat rw [List.length_set]); omega)) rfl rfl (by simp [mSt_len]) (by decide) (by simp [go_sem, mSt_len]) ?_)
    refine rgK ?_
    intro k hk; simp -dsimp [go_sem, -decide_eq_true_eq, -decide_eq_false_iff_not, hp, hp2, hp3, hlt, idm, hos, mSt_len]
    repeat' first | apply And.intro | refine hk _ ?_ | intro hg | omega | exact True.intro
    all_goals clear hk k
    show ∃ _, _
    have hw := wrapi hlt (by omega)
    have hs := congrArg (List.map TProc.oc) (mix_set hmm (mPr_at hx))
    rw [List.map_set] at hs
    refine ⟨i + 1, by omega, by omega, Less.of rfl (by simp [go_sem, hw, hmt, hm0] <;> omega) (by rw [← hs]; first | (simp [go_sem, procM, TProc.oc, hos2, List.set_set]; done) | (rw [set_same (by simp [hp2, procM, TProc.oc, hos2, hos])]; simp [go_sem]))⟩))
 ·intro hc; try simp at hc
  all_goals (
   refine AW.exitN (fun _ h => h) ?_
   refine rg [0,4] ?_
   intro k hk; simp -dsimp [go_sem, -decide_eq_true_eq, -decide_eq_false_iff_not]
   repeat' first | apply And.intro | refine hk _ ?_ | intro hg | omega | exact True.intro
   all_goals clear hk k
   refine rt ?_
   obtain rfl : i = l.length := (by omega)
   simp [go_sem, Tryz.results14, mix_end hmm (Nat.le_refl _), hmm])

end Go.AM

/-! ### Pj -/
set_option linter.unusedVariables false
set_option linter.unusedSimpArgs false
namespace Go.AM

attribute [go_sem] renS AV.ren renL
@[go_sem ↓ high] theorem tree_app (a b : List (List AV)) : (∀ c ∈ a ++ b, ∀ x ∈ c, AV.tree x = true) ↔ (∀ c ∈ a, ∀ x ∈ c, AV.tree x = true) ∧ (∀ c ∈ b, ∀ x ∈ c, AV.tree x = true) := List.forall_mem_append
attribute [go_sem ↓ high] I1_treeL B1_treeL S1_treeL
theorem tree_sub {α : Type} {f : α → List AV} {l : List α} (h : (∀ c ∈ l.map f, ∀ x ∈ c, AV.tree x = true) ↔ True) {m : List (List AV)} (hm : ∀ c ∈ m, c ∈ l.map f) : (∀ c ∈ m, ∀ x ∈ c, AV.tree x = true) ↔ True :=
  ⟨fun _ => trivial, fun _ c hc => h.2 trivial c (hm c hc)⟩
@[go_sem ↓ high] theorem B1_treeT (l : List UInt8) (n : Nat) : (∀ c ∈ List.take n (l.map B1), ∀ x ∈ c, AV.tree x = true) ↔ True := tree_sub (B1_treeL l) fun _ => List.mem_of_mem_take
@[go_sem ↓ high] theorem I1_treeT (l : List Int) (n : Nat) : (∀ c ∈ List.take n (l.map I1), ∀ x ∈ c, AV.tree x = true) ↔ True := tree_sub (I1_treeL l) fun _ => List.mem_of_mem_take
@[go_sem ↓ high] theorem S1_treeT (l : List (List UInt8)) (n : Nat) : (∀ c ∈ List.take n (l.map S1), ∀ x ∈ c, AV.tree x = true) ↔ True := tree_sub (S1_treeL l) fun _ => List.mem_of_mem_take
@[go_sem high] theorem B1_comp : (fun x => List.map unown x) ∘ B1 = B1 := rfl
@[go_sem high] theorem I1_comp : (fun x => List.map unown x) ∘ I1 = I1 := rfl
@[go_sem high] theorem S1_comp : (fun x => List.map unown x) ∘ S1 = S1 := rfl
attribute [go_sem] mkL_len
@[go_sem] theorem take_dropl {α β : Type} (f : α → β) (l : List α) (k : Nat) : List.take (l.length - k) (List.drop k (l.map f)) = List.drop k (l.map f) := List.take_of_length_le (by simp)
@[go_sem] theorem take_mkL {α : Type} (g : α → List AV) (f : Int → α) (n : Nat) (k : Int) : List.take n ((mkL f n k).map g) = (mkL f n k).map g := List.take_of_length_le (by simp [mkL])
@[go_sem ↓ high] theorem decB_td (s : List UInt8) (a b : Nat) : decB (List.take a (List.drop b (s.map B1))) = some (List.take a (List.drop b s)) := by rw [← List.map_drop, ← List.map_take]; exact decB_B1 _
@[go_sem ↓ high] theorem decB_dt (s : List UInt8) (a b : Nat) : decB (List.drop a (List.take b (s.map B1))) = some (List.drop a (List.take b s)) := by rw [← List.map_take, ← List.map_drop]; exact decB_B1 _
@[go_sem ↓ high] theorem decB_t (s : List UInt8) (a : Nat) : decB (List.take a (s.map B1)) = some (List.take a s) := by rw [← List.map_take]; exact decB_B1 _
@[go_sem ↓ high] theorem decB_d (s : List UInt8) (a : Nat) : decB (List.drop a (s.map B1)) = some (List.drop a s) := by rw [← List.map_drop]; exact decB_B1 _
@[go_sem] theorem wrap_i64_byte (b : UInt8) : IntKind.wrap .i64 (b.toNat : Int) = (b.toNat : Int) := by have := b.toNat_lt; exact wrap64 (by omega) (by omega)

/-! chapter 13: a line, packed -/
def sumB (l : List UInt8) (s : Int) : Int := l.foldl (fun s b => (s * 251 + b.toNat) % 65521) s
def pkH (s : List UInt8) : List UInt8 := b8 s.length :: s
def pk (s : List UInt8) : List UInt8 := pkH s ++ [b8 (sumB (pkH s) 1 / 256), b8 (sumB (pkH s) 1)]
/-! chapter 13: the line at a beginning -/
def n0 (d : List UInt8) : Nat := (d.headD 0).toNat
def lnT (d : List UInt8) : List UInt8 := (d.take (n0 d + 1)).drop 1
def isL (d : List UInt8) : Bool := decide (n0 d + 3 ≤ d.length) && decide (lineF (lnT d) = 0) && decide (d.take (n0 d + 3) = pk (lnT d))
def rdL : Nat → List UInt8 → List (List UInt8) × Nat
  | 0, _ => ([], 0)
  | f + 1, d => if isL d = true then (lnT d :: (rdL f (d.drop (n0 d + 3))).1, n0 d + 3 + (rdL f (d.drop (n0 d + 3))).2) else ([], 0)
def rd (d : List UInt8) : List (List UInt8) × Nat := rdL d.length d
def whole (d : List UInt8) : Bool := decide ((rd d).2 = d.length)
@[go_sem] theorem mapM_B1 (s : List UInt8) : List.mapM byteOfCell (s.map B1) = some s := decB_B1 s
@[go_sem] theorem mapM_B1_t (s : List UInt8) (a : Nat) : List.mapM byteOfCell (List.take a (s.map B1)) = some (List.take a s) := decB_t s a
@[go_sem] theorem mapM_B1_d (s : List UInt8) (a : Nat) : List.mapM byteOfCell (List.drop a (s.map B1)) = some (List.drop a s) := decB_d s a
@[go_sem high] theorem mapM_comp (s : List UInt8) : List.mapM (byteOfCell ∘ B1) s = some s := by rw [← List.mapM_map]; exact decB_B1 s
end Go.AM

