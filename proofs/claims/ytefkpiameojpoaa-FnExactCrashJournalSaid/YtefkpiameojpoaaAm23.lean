/- The abstract machine, part 23: how what a law is given reads as abstract values. -/
import Derived.Test.YtefkpiameojpoaaEnc
import Derived.ChangeArms
import Derived.WideKeyArgs
set_option linter.unusedVariables false
set_option linter.unusedSimpArgs false
namespace Go.AM
open Go.ChangeShapes Go.WideShapes Go.RowKit

/-- cells that read as abstract values -/
def RdC (w : World) (cs : List Value) (ys : List AV) : Prop :=
  ys.length = cs.length ∧ (∀ (j : Nat) y v, ys[j]? = some y → cs[j]? = some v → I w (fun _ => none) y v) ∧ ∀ y ∈ ys, AV.plain y = true

theorem RdC.nil {w : World} {cs : List Value} (h : cs = []) : RdC w cs [] := by subst h; exact ⟨rfl, by intro j y v h; simp at h, by simp⟩

theorem RdC.one {w : World} {v : Value} {y : AV} (h : I w (fun _ => none) y v) (hp : y.plain = true) : RdC w [v] [y] := by
  refine ⟨rfl, ?_, by simpa using hp⟩
  intro j y' v' hy hv
  cases j with
  | zero => simp at hy hv; subst hy; subst hv; exact h
  | succ j => simp at hy

theorem RdC.cons {w : World} {cs : List Value} {o s : Nat} {ys zs : List AV} (h1 : RdC w ((cs.drop o).take s) ys) (h2 : RdC w (cs.drop (o + s)) zs) : RdC w (cs.drop o) (ys ++ zs) := by
  have e : cs.drop o = (cs.drop o).take s ++ cs.drop (o + s) := by rw [← List.drop_drop, List.take_append_drop]
  rw [e]
  obtain ⟨a1, a2, a3⟩ := h1
  obtain ⟨b1, b2, b3⟩ := h2
  refine ⟨by rw [List.length_append, List.length_append, a1, b1], ?_, ?_⟩
  · intro j y v hy hv
    rw [List.getElem?_append] at hy hv
    rw [a1] at hy
    split at hy
    · rename_i h; rw [if_pos h] at hv; exact a2 j y v hy hv
    · rename_i h; rw [if_neg h] at hv; exact b2 _ y v hy hv
  · intro y hy
    rcases List.mem_append.1 hy with hy | hy
    · exact a3 y hy
    · exact b3 y hy

/-- a type's data, read -/
structure Rd (P : Program) (t : TypeId) (α : Type) (f : α → List AV) (ok : α → Prop) (n : Nat) : Prop where
  size : P.cellsOf t = n
  read : ∀ {H : Type} (enc : TypeId × Value → H) (w : World) (base : Nat) (spare : Nat → Bool) (held : Bool) (fuel : Nat) (cs : List Value) (x : DataW H × List MemPlace),
    DataW.trod enc P w base spare held fuel t cs = some x → ∃ a : α, ok a ∧ RdC w cs (f a) ∧ cs.length = n

theorem cellsOf_of {P : Program} {ti : TI} (hT : TOk P ti) {t : Nat} {i : TInfo} (h : ti t = some i) : P.cellsOf t = i.size := by
  obtain ⟨info, h1, h2, _⟩ := (hT t i h).info
  simp [Program.cellsOf, h1, h2]

section
variable {P : Program} {t : TypeId}

theorem trod_int' {k : IntKind} {H : Type} {enc : TypeId × Value → H} {w : World} {base : Nat} {spare : Nat → Bool} {held : Bool} {fuel : Nat} {cs : List Value} {x : DataW H × List MemPlace} (ht : P.underlying t = some (.int k))
    (h : DataW.trod enc P w base spare held fuel t cs = some x) : ∃ n, cs = [.int k n] ∧ (Lit.int k n).wf = true := by
  cases fuel with
  | zero => simp [DataW.trod] at h
  | succ m =>
    unfold DataW.trod at h
    rw [ht] at h
    split at h <;> simp_all

theorem Rd.int (hs : P.cellsOf t = 1) (ht : P.underlying t = some (.int .i64)) : Rd P t Int I1 (fun n => -9223372036854775808 ≤ n ∧ n ≤ 9223372036854775807) 1 := by
  refine ⟨hs, ?_⟩
  intro H enc w base spare held fuel cs x h
  obtain ⟨n, rfl, hw⟩ := trod_int' ht h
  refine ⟨n, ?_, .one (.int _ _) rfl, rfl⟩
  simp [Lit.wf, IntKind.min, IntKind.max, IntKind.bits, IntKind.signed] at hw
  first | exact hw | omega

theorem Rd.byte (hs : P.cellsOf t = 1) (ht : P.underlying t = some (.int .u8)) : Rd P t UInt8 B1 (fun _ => True) 1 := by
  refine ⟨hs, ?_⟩
  intro H enc w base spare held fuel cs x h
  obtain ⟨n, rfl, hw⟩ := trod_int' ht h
  simp [Lit.wf, IntKind.min, IntKind.max, IntKind.bits, IntKind.signed] at hw
  refine ⟨UInt8.ofNat n.toNat, trivial, ?_, rfl⟩
  have e : ((UInt8.ofNat n.toNat).toNat : Int) = n := by rw [UInt8.toNat_ofNat']; omega
  unfold B1
  rw [e]
  exact .one (.int _ _) rfl

theorem trod_str' {H : Type} {enc : TypeId × Value → H} {w : World} {base : Nat} {spare : Nat → Bool} {held : Bool} {fuel : Nat} {cs : List Value} {x : DataW H × List MemPlace} (ht : P.underlying t = some .string)
    (h : DataW.trod enc P w base spare held fuel t cs = some x) : ∃ s, cs = [.string s] ∧ s.size ≤ maxLen := by
  cases fuel with
  | zero => simp [DataW.trod] at h
  | succ m =>
    unfold DataW.trod at h
    rw [ht] at h
    split at h <;> simp_all

theorem Rd.str (hs : P.cellsOf t = 1) (ht : P.underlying t = some .string) : Rd P t (List UInt8) S1 (fun s => s.length ≤ 9223372036854775807) 1 := by
  refine ⟨hs, ?_⟩
  intro H enc w base spare held fuel cs x h
  obtain ⟨s, rfl, hw⟩ := trod_str' ht h
  refine ⟨s.data.toList, ?_, .one (I.ofString s) rfl, rfl⟩
  unfold maxLen at hw
  exact hw

theorem trod_bool' {H : Type} {enc : TypeId × Value → H} {w : World} {base : Nat} {spare : Nat → Bool} {held : Bool} {fuel : Nat} {cs : List Value} {x : DataW H × List MemPlace} (ht : P.underlying t = some .bool)
    (h : DataW.trod enc P w base spare held fuel t cs = some x) : ∃ b, cs = [.bool b] := by
  cases fuel with
  | zero => simp [DataW.trod] at h
  | succ m =>
    unfold DataW.trod at h
    rw [ht] at h
    split at h <;> simp_all

theorem cell_spot {w : World} {a : Addr} {v : Value} (h : w.cell? a = some v) : a.spot = none ∧ a.block < w.heap.size := by
  unfold World.cell? at h
  split at h
  · rename_i hb
    refine ⟨?_, ?_⟩
    · split at h
      · cases h
      · rename_i hs; simpa using hs
    rcases Nat.lt_or_ge a.block w.heap.size with h1 | h1
    · exact h1
    · simp [Array.getElem?_eq_none h1] at hb
  · cases h

theorem mapM_get {α β : Type} {f : α → Option β} : ∀ {l : List α} {r : List β}, l.mapM f = some r → r.length = l.length ∧ ∀ (i : Nat) a, l[i]? = some a → f a = r[i]? := by
  intro l
  induction l with
  | nil => intro r h; simp at h; subst h; exact ⟨rfl, by intro i a h; simp at h⟩
  | cons x l ih =>
    intro r h
    simp only [List.mapM_cons, Option.bind_eq_bind] at h
    cases hx : f x with
    | none => simp [hx] at h
    | some y =>
      cases hl : l.mapM f with
      | none => simp [hx, hl] at h
      | some ys =>
        simp [hx, hl] at h
        subst h
        obtain ⟨h1, h2⟩ := ih hl
        refine ⟨by simp [h1], ?_⟩
        intro i a hi
        cases i with
        | zero => simp at hi; subst hi; simp [hx]
        | succ i => simpa using h2 i a (by simpa using hi)

theorem Rd.slice {e : TypeId} {α : Type} {f : α → List AV} {ok : α → Prop} {n : Nat} (he : Rd P e α f ok n) (hn : 0 < n) (hs : P.cellsOf t = 1) (ht : P.underlying t = some (.slice e)) :
    Rd P t (List α) (fun l => [.isl n (l.map f)]) (fun l => l.length ≤ 9223372036854775807 ∧ ∀ a ∈ l, ok a) 1 := by
  refine ⟨hs, ?_⟩
  intro H enc w base spare held fuel cs x h
  rcases DataW.trod_slice ht h with ⟨rfl, _⟩ | ⟨a, len, cap, elems, rest, m, rfl, rfl, _, hb, hlc, hcap, hel, hget, _⟩
  · exact ⟨[], ⟨Nat.zero_le _, by simp⟩, .one (.nsl _) rfl, rfl⟩
  · rw [he.size] at hget
    have hrow : ∀ i, i < len → ∃ (b : α) (vs : List Value), ok b ∧ RdC w vs (f b) ∧ vs.length = n ∧ ∀ j, j < n → w.cell? ((a.add (i * n)).add j) = vs[j]? := by
      intro i hi
      have h1 := hget i hi
      have h2 : ∃ y, elems[i]? = some y := ⟨elems[i]'(by omega), List.getElem?_eq_getElem _⟩
      obtain ⟨y, hy⟩ := h2
      rw [hy, Option.bind_eq_some_iff] at h1
      obtain ⟨vs, h3, h4⟩ := h1
      obtain ⟨b, h5, h6, h7⟩ := he.read enc w base spare held m vs y h4
      refine ⟨b, vs, h5, h6, h7, ?_⟩
      unfold World.cells? at h3
      split at h3
      · obtain ⟨_, h8⟩ := mapM_get h3
        intro j hj
        exact h8 j j (by simp [hj])
      · cases h3
    by_cases hz : len = 0
    · subst hz
      exact ⟨[], ⟨Nat.zero_le _, by simp⟩, .one (.esl _ _ _) rfl, rfl⟩
    obtain ⟨b0, vs0, hb0⟩ := hrow 0 (by omega)
    obtain ⟨g, gv, hg⟩ : ∃ (g : Nat → α) (gv : Nat → List Value), ∀ i, i < len → ok (g i) ∧ RdC w (gv i) (f (g i)) ∧ (gv i).length = n ∧ ∀ j, j < n → w.cell? ((a.add (i * n)).add j) = (gv i)[j]? := by
      refine ⟨fun i => if h : i < len then (hrow i h).choose else b0, fun i => if h : i < len then (hrow i h).choose_spec.choose else vs0, ?_⟩
      intro i hi
      simp only [dif_pos hi]
      exact (hrow i hi).choose_spec.choose_spec
    have hsp : a.spot = none ∧ a.block < w.heap.size := by
      obtain ⟨_, _, h3, h4⟩ := hg 0 (by omega)
      have h5 := h4 0 hn
      have h6 : ∃ v, (gv 0)[0]? = some v := ⟨(gv 0)[0]'(by omega), List.getElem?_eq_getElem _⟩
      obtain ⟨v, h6⟩ := h6
      rw [h6] at h5
      have h7 := cell_spot h5
      simpa [Addr.add] using h7
    obtain ⟨ab, ao, asp⟩ := a
    obtain ⟨hsp1, hsp2⟩ := hsp
    simp only at hsp1 hsp2
    subst hsp1
    simp only [addr_add] at hg
    have hmap : ∀ i, i < len → ((List.range len).map g)[i]? = some (g i) := by intro i hi; simp [hi]
    refine ⟨(List.range len).map g, ⟨by simp; unfold maxLen at hcap; omega, ?_⟩, .one ?_ rfl, rfl⟩
    · intro b hb
      obtain ⟨i, hi, rfl⟩ := List.mem_map.1 hb
      exact (hg i (by simpa using hi)).1
    · have := I.isl (w := w) (lab := fun _ => none) n (((List.range len).map g).map f) ab ao cap (fun i j => (gv i).getD j undef) rfl hsp2 (by simpa using hlc) ?_ ?_ ?_ ?_
      · simpa using this
      · intro c hc
        obtain ⟨b, hb, rfl⟩ := List.mem_map.1 hc
        obtain ⟨i, hi, rfl⟩ := List.mem_map.1 hb
        obtain ⟨_, h2, h3, _⟩ := hg i (by simpa using hi)
        rw [h2.1, h3]
      · intro c hc y hy
        obtain ⟨b, hb, rfl⟩ := List.mem_map.1 hc
        obtain ⟨i, hi, rfl⟩ := List.mem_map.1 hb
        exact (hg i (by simpa using hi)).2.1.2.2 y hy
      · intro i j hi hj
        have hi : i < len := by simpa using hi
        obtain ⟨_, h2, h3, h4⟩ := hg i hi
        rw [h4 j hj]
        simp [List.getD, h3, hj]
      · intro i c j y hi hj
        have hi' : i < len := by have := (List.getElem?_eq_some_iff.1 hi).1; simpa using this
        obtain ⟨_, h2, h3, h4⟩ := hg i hi'
        rw [List.getElem?_map, hmap i hi'] at hi
        cases hi
        have hj' : j < (gv i).length := by rw [← h2.1]; exact (List.getElem?_eq_some_iff.1 hj).1
        have := h2.2.1 j y (gv i)[j] hj (List.getElem?_eq_getElem hj')
        simpa [List.getD, hj'] using this

/-- an argument, read -/
theorem Rd.arg {α : Type} {f : α → List AV} {ok : α → Prop} {n : Nat} (h : Rd P t α f ok n) {w : World} {H : Type} {enc : TypeId × Value → H} {base : Nat} {spare : Nat → Bool} {held : Bool} {v : Value} {d : DataW H} {ps : List MemPlace}
    (hd : DataW.Trod enc P w base spare held t v d ps) : ∃ a, ok a ∧ RdC w v.cells.toList (f a) := by
  obtain ⟨fuel, hd⟩ := hd
  obtain ⟨a, h1, h2, _⟩ := h.read enc w base spare held fuel _ _ hd
  exact ⟨a, h1, h2⟩

theorem RdC.agg {w : World} {cs : Array Value} {ys : List AV} (h : RdC w cs.toList ys) : I w (fun _ => none) (.agg ys) (.agg cs) := by
  have := I.agg (w := w) (lab := fun _ => none) ys cs.toList h.1 h.2.1
  simpa using this

theorem cells_agg {w : World} {base : Nat} {fs : Array Field} {v : Value} (ht : P.underlying t = some (.struct fs)) (hv : Value.okWide P w .any base t v) : ∃ cs, v = .agg cs := by
  unfold Value.okWide at hv
  rw [ht] at hv
  obtain ⟨cs, h, _⟩ := hv
  exact ⟨cs, h⟩

/-- an argument of a struct's type -/
theorem Rd.argS {α : Type} {f : α → List AV} {ok : α → Prop} {n : Nat} (h : Rd P t α f ok n) {fs : Array Field} (ht : P.underlying t = some (.struct fs)) {w : World} {H : Type} {enc : TypeId × Value → H} {base base' : Nat} {spare : Nat → Bool} {held : Bool} {v : Value} {d : DataW H} {ps : List MemPlace}
    (hv : Value.okWide P w .any base' t v) (hd : DataW.Trod enc P w base spare held t v d ps) : ∃ a, ok a ∧ I w (fun _ => none) (.agg (f a)) v := by
  obtain ⟨cs, rfl⟩ := cells_agg ht hv
  obtain ⟨a, h1, h2⟩ := h.arg hd
  exact ⟨a, h1, h2.agg⟩

theorem cells_slice {w : World} {base : Nat} {e : TypeId} {v : Value} (ht : P.underlying t = some (.slice e)) (hv : Value.okWide P w .any base t v) : v.cells.toList = [v] := by
  unfold Value.okWide at hv
  rw [ht] at hv
  unfold Cell.okWide at hv
  rw [ht] at hv
  cases v with
  | agg cs => simp [Cell.ok, ht] at hv
  | _ => rfl

theorem cells_int {w : World} {base : Nat} {k : IntKind} {v : Value} (ht : P.underlying t = some (.int k)) (hv : Value.okWide P w .any base t v) : v.cells.toList = [v] := by
  unfold Value.okWide at hv
  rw [ht] at hv
  unfold Cell.okWide at hv
  rw [ht] at hv
  cases v with
  | agg cs => simp [Cell.ok, ht] at hv
  | _ => rfl

theorem cells_str {w : World} {base : Nat} {v : Value} (ht : P.underlying t = some .string) (hv : Value.okWide P w .any base t v) : v.cells.toList = [v] := by
  unfold Value.okWide at hv
  rw [ht] at hv
  unfold Cell.okWide at hv
  rw [ht] at hv
  cases v with
  | agg cs => simp [Cell.ok, ht] at hv
  | _ => rfl

/-- an argument of one cell -/
theorem Rd.arg1 {α : Type} {f : α → List AV} {ok : α → Prop} {n : Nat} (h : Rd P t α f ok n) {g : α → AV} (hg : ∀ a, f a = [g a]) {w : World} {H : Type} {enc : TypeId × Value → H} {base : Nat} {spare : Nat → Bool} {held : Bool} {v : Value} {d : DataW H} {ps : List MemPlace}
    (hv : v.cells.toList = [v]) (hd : DataW.Trod enc P w base spare held t v d ps) : ∃ a, ok a ∧ I w (fun _ => none) (g a) v := by
  obtain ⟨a, h1, h2⟩ := h.arg hd
  rw [hv, hg] at h2
  exact ⟨a, h1, h2.2.1 0 _ _ rfl rfl⟩

/-- an argument reads behind the call as it did -/
theorem Kept.trod {H : Type} {enc : TypeId × Value → H} (hl : laidOutB P = true) (hr : P.readableRec t = true) (hrow : t < P.types.size) {W W' : World} {v : Value} {d : DataW H} {ps : List MemPlace} (hk : Kept W W')
    (h : DataW.Trod enc P W 0 (fun _ => true) true t v d ps) (hlt : ∀ x ∈ ps, x.block < W.heap.size) {sp : Nat → Bool} (hs : ∀ p ∈ ps, sp p.block = true) : DataW.Trod enc P W' 0 sp true t v d ps := by
  refine WideElems.Trod_stays hl hr hrow h (fun x hx => ?_) hs
  cases x with
  | cell b o => exact World.cell?_of_block (w := W) (hk.heap b (hlt _ hx))
  | map b => exact hk.heap b (hlt _ hx)
end
end Go.AM
