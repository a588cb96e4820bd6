/- Joined texts: Am1 Am2 Am3 Am4 Am5 Am6 Am7 Am8 Am9 Am10 Am29 Am11. -/
import Derived.Calls
import Derived.Laws.Cells
import Derived.Laws.IdiomCopy
import Derived.Laws.Entries
import Derived.Laws.StructEq
import Derived.Laws.BytesString
import Derived.Deep.AppendSrc
import Derived.Laws.MakeOwn
import Derived.Lib.AppendZeros
set_option linter.unusedVariables false
set_option linter.unusedSimpArgs false
namespace Go.AM

inductive Root where
  | obj (n : Nat) | arg (k : Nat) | res | tmp
  deriving DecidableEq

abbrev Lab := Root × List (Nat × Nat)
def Lab.down (p : Lab) (i j : Nat) : Lab := (p.1, p.2 ++ [(i, j)])
abbrev Labs := Nat → Option Lab
abbrev Locs := Nat → Option (Nat × Nat)

/-- abstract values -/
inductive AV where
  | undef
  | bool (b : Bool)
  | int (k : IntKind) (n : Int)
  | str (s : List UInt8)
  | nilp
  | nils
  | zsl
  | nel
  | lns (n : Nat)
  | any
  | val (v : Value)
  | isl (es : Nat) (l : List (List AV))
  | osl (es : Nat) (l : List (List AV))
  | ip (l : List AV)
  | op (l : List AV)
  | ptr (id es i j : Nat)
  | sl (id es i len : Nat)
  | fn (f : FuncId) (caps : List AV)
  | agg (cs : List AV)
  | tup (vs : List AV)
  | gate (e : Bool) (x : AV)

instance : Inhabited AV := ⟨.undef⟩

/-- one cell's worth, nothing detached -/
def AV.plain : AV → Bool
  | .osl _ _ | .op _ | .agg _ | .tup _ | .undef | .any | .gate _ _ => false
  | _ => true

mutual
def AV.ids : AV → List Nat
  | .ptr id _ _ _ => [id]
  | .sl id _ _ _ => [id]
  | .fn _ cs => idsL cs
  | .agg cs => idsL cs
  | .tup cs => idsL cs
  | .gate _ x => x.ids
  | _ => []
def idsL : List AV → List Nat
  | [] => []
  | x :: xs => x.ids ++ idsL xs
end

theorem mem_idsL {x : AV} {l : List AV} (h : x ∈ l) {i : Nat} (hi : i ∈ x.ids) : i ∈ idsL l := by
  induction l with
  | nil => cases h
  | cons y ys ih =>
    simp only [idsL, List.mem_append]
    rcases List.mem_cons.1 h with rfl | h
    · exact Or.inl hi
    · exact Or.inr (ih h)

/-- one cell's worth, nothing that refers to an object by its id -/
def AV.tree : AV → Bool
  | .bool _ | .int _ _ | .str _ | .nilp | .nils | .zsl | .nel | .lns _ | .val _ | .isl _ _ | .ip _ | .osl _ _ | .op _ => true
  | _ => false

/-- a block of cells that may be written, at least n of them -/
def Blk (w : World) (b n : Nat) : Prop :=
  ∃ c ty fz, w.heap[b]? = some (.cells c ty fz) ∧ n ≤ c.size ∧ ∀ o, o < c.size → ¬ (fz.1 ≤ o ∧ o < fz.2)

theorem Blk.le {w : World} {b n m : Nat} (h : Blk w b n) (hm : m ≤ n) : Blk w b m := by
  obtain ⟨c, ty, fz, h1, h2, h3⟩ := h; exact ⟨c, ty, fz, h1, by omega, h3⟩

theorem Blk.lt {w : World} {b n : Nat} (h : Blk w b n) : b < w.heap.size := by
  obtain ⟨c, ty, fz, h1, _⟩ := h
  rcases Nat.lt_or_ge b w.heap.size with h | h
  · exact h
  · simp [Array.getElem?_eq_none h] at h1

theorem Blk.same {w w' : World} {b n : Nat} (h : Blk w b n) (e : w'.heap[b]? = w.heap[b]?) : Blk w' b n := by
  obtain ⟨c, ty, fz, h1, h2, h3⟩ := h; exact ⟨c, ty, fz, by rw [e, h1], h2, h3⟩

theorem cell_same {w w' : World} {a : Addr} (e : w'.heap[a.block]? = w.heap[a.block]?) : w'.cell? a = w.cell? a := by
  unfold World.cell?; rw [e]

theorem frozen_of_blk {w : World} {b n o : Nat} (h : Blk w b n) (ho : o < n) : w.frozen? ⟨b, o, none⟩ = false := by
  obtain ⟨c, ty, fz, h1, h2, h3⟩ := h
  obtain ⟨lo, hi⟩ := fz
  have := h3 o (by omega)
  simp only [World.frozen?, h1]
  simpa using this

/-- readonly -/
inductive I (w : World) (lab : Labs) : AV → Value → Prop
  | bool (b : Bool) : I w lab (.bool b) (.bool b)
  | int (k : IntKind) (n : Int) : I w lab (.int k n) (.int k n)
  | str (s : List UInt8) : I w lab (.str s) (.string ⟨s.toArray⟩)
  | nilp : I w lab .nilp (.pointer none)
  | nils : I w lab .nils (.slice none 0 0)
  | zsl (a : Option Addr) : I w lab .zsl (.slice a 0 0)
  | nel (a : Addr) (cap : Nat) : I w lab .nel (.slice (some a) 0 cap)
  | lns (n : Nat) (a : Option Addr) (cap : Nat) : I w lab (.lns n) (.slice a n cap)
  | any (v : Value) : I w lab .any v
  | val (a : Option Addr) (n cap : Nat) : I w lab (.val (.slice a n cap)) (.slice a n cap)
  | nsl (es : Nat) : I w lab (.isl es []) (.slice none 0 0)
  | esl (es : Nat) (a : Addr) (cap : Nat) : I w lab (.isl es []) (.slice (some a) 0 cap)
  | isl (es : Nat) (l : List (List AV)) (b off cap : Nat) (vals : Nat → Nat → Value) (hb : lab b = none) (hs : b < w.heap.size) (hc : l.length ≤ cap)
      (hes : ∀ c ∈ l, c.length = es) (hp : ∀ c ∈ l, ∀ x ∈ c, AV.plain x = true)
      (hv : ∀ i j, i < l.length → j < es → w.cell? ⟨b, off + i * es + j, none⟩ = some (vals i j))
      (hr : ∀ i c j x, l[i]? = some c → c[j]? = some x → I w lab x (vals i j)) :
      I w lab (.isl es l) (.slice (some ⟨b, off, none⟩) l.length cap)
  | ip (l : List AV) (b off : Nat) (vals : Nat → Value) (hb : lab b = none) (hs : b < w.heap.size)
      (hv : ∀ j, j < l.length → w.cell? ⟨b, off + j, none⟩ = some (vals j))
      (hr : ∀ j x, l[j]? = some x → I w lab x (vals j)) :
      I w lab (.ip l) (.pointer (some ⟨b, off, none⟩))
  | fn (f : FuncId) (cs : List AV) (vs : List Value) (hl : cs.length = vs.length)
      (hr : ∀ (j : Nat) x y, cs[j]? = some x → vs[j]? = some y → I w lab x y) : I w lab (.fn f cs) (.func (.func f) #[] ⟨vs⟩)
  | agg (cs : List AV) (vs : List Value) (hl : cs.length = vs.length)
      (hr : ∀ (j : Nat) x y, cs[j]? = some x → vs[j]? = some y → I w lab x y) : I w lab (.agg cs) (.agg ⟨vs⟩)
  | tup (cs : List AV) (vs : List Value) (hl : cs.length = vs.length)
      (hr : ∀ (j : Nat) x y, cs[j]? = some x → vs[j]? = some y → I w lab x y) : I w lab (.tup cs) (.tuple ⟨vs⟩)

theorem idsL_nil {cs : List AV} (h : ∀ x ∈ cs, x.ids = []) : idsL cs = [] := by
  induction cs with
  | nil => rfl
  | cons x cs ih => simp only [idsL]; rw [h x List.mem_cons_self, ih fun y hy => h y (List.mem_cons_of_mem _ hy)]; rfl

theorem I.ids {w : World} {lab : Labs} {x : AV} {v : Value} (h : I w lab x v) : x.ids = [] := by
  have key : ∀ (cs : List AV) (vs : List Value), cs.length = vs.length → (∀ (j : Nat) x y, cs[j]? = some x → vs[j]? = some y → x.ids = []) → idsL cs = [] := by
    intro cs vs hl ih
    refine idsL_nil fun x hx => ?_
    obtain ⟨j, hj⟩ := List.mem_iff_getElem?.1 hx
    have : j < vs.length := by rw [← hl]; exact (List.getElem?_eq_some_iff.1 hj).1
    exact ih j x _ hj (List.getElem?_eq_getElem this)
  induction h with
  | fn f cs vs hl _ ih => exact key cs vs hl ih
  | agg cs vs hl _ ih => exact key cs vs hl ih
  | tup cs vs hl _ ih => exact key cs vs hl ih
  | _ => rfl

/-- blocks that nobody here writes: those without a label may be read, those of the root 'tmp' may not -/
def still : Option Lab → Prop
  | none => True
  | some (.tmp, _) => True
  | _ => False

/-- what every step keeps -/
structure Ext (lab : Labs) (w : World) (lab' : Labs) (w' : World) : Prop where
  size : w.heap.size ≤ w'.heap.size
  os : w'.os = w.os
  out : w'.output = w.output
  kept : ∀ b, b < w.heap.size → still (lab b) → lab' b = lab b ∧ w'.heap[b]? = w.heap[b]?
  blk : ∀ b n, Blk w b n → Blk w' b n

theorem Ext.imm {lab : Labs} {w : World} {lab' : Labs} {w' : World} (h : Ext lab w lab' w') : ∀ b, b < w.heap.size → lab b = none → lab' b = none ∧ w'.heap[b]? = w.heap[b]? := by
  intro b hb hl
  have := h.kept b hb (by rw [hl]; trivial)
  exact ⟨by rw [this.1, hl], this.2⟩

theorem Ext.refl (lab : Labs) (w : World) : Ext lab w lab w := ⟨Nat.le_refl _, rfl, rfl, fun _ _ _ => ⟨rfl, rfl⟩, fun _ _ h => h⟩

theorem Ext.trans {l1 l2 l3 : Labs} {w1 w2 w3 : World} (h : Ext l1 w1 l2 w2) (h' : Ext l2 w2 l3 w3) : Ext l1 w1 l3 w3 :=
  ⟨Nat.le_trans h.size h'.size, h'.os.trans h.os, h'.out.trans h.out, fun b hb hl => by
    have a := h.kept b hb hl
    have c := h'.kept b (Nat.lt_of_lt_of_le hb h.size) (by rw [a.1]; exact hl)
    exact ⟨c.1.trans a.1, c.2.trans a.2⟩, fun b n hb => h'.blk b n (h.blk b n hb)⟩

theorem I.mono {w w' : World} {lab lab' : Labs} {x : AV} {v : Value} (h : I w lab x v)
    (hk : ∀ b, b < w.heap.size → lab b = none → lab' b = none ∧ w'.heap[b]? = w.heap[b]?) (hz : w.heap.size ≤ w'.heap.size) : I w' lab' x v := by
  induction h with
  | bool b => exact .bool b
  | int k n => exact .int k n
  | str s => exact .str s
  | nilp => exact .nilp
  | nils => exact .nils
  | zsl a => exact .zsl a
  | nel a cap => exact .nel a cap
  | lns n a cap => exact .lns n a cap
  | any v => exact .any v
  | val a n cap => exact .val a n cap
  | nsl es => exact .nsl es
  | esl es a cap => exact .esl es a cap
  | isl es l b off cap vals hb hs hc hes hp hv _ ih =>
    exact .isl es l b off cap vals (hk b hs hb).1 (Nat.lt_of_lt_of_le hs hz) hc hes hp
      (fun i j hi hj => by rw [cell_same (a := ⟨b, off + i * es + j, none⟩) (hk b hs hb).2]; exact hv i j hi hj) ih
  | ip l b off vals hb hs hv _ ih =>
    exact .ip l b off vals (hk b hs hb).1 (Nat.lt_of_lt_of_le hs hz)
      (fun j hj => by rw [cell_same (a := ⟨b, off + j, none⟩) (hk b hs hb).2]; exact hv j hj) ih
  | fn f cs vs hl _ ih => exact .fn f cs vs hl ih
  | agg cs vs hl _ ih => exact .agg cs vs hl ih
  | tup cs vs hl _ ih => exact .tup cs vs hl ih

theorem I.ext {w w' : World} {lab lab' : Labs} {x : AV} {v : Value} (h : I w lab x v) (e : Ext lab w lab' w') : I w' lab' x v := h.mono e.imm e.size

/-- trees: what is owned bears the label of its place -/
inductive T (w : World) (lab : Labs) : Lab → AV → Value → Prop
  | imm (p : Lab) (x : AV) (v : Value) (h : I w lab x v) : T w lab p x v
  | osl (p : Lab) (es : Nat) (l : List (List AV)) (b off cap : Nat) (vals : Nat → Nat → Value) (hb : lab b = some p) (hk : Blk w b (off + cap * es)) (hc : l.length ≤ cap)
      (hes : ∀ c ∈ l, c.length = es) (hp : ∀ c ∈ l, ∀ x ∈ c, AV.tree x = true)
      (hv : ∀ i j, i < l.length → j < es → w.cell? ⟨b, off + i * es + j, none⟩ = some (vals i j))
      (hr : ∀ i c j x, l[i]? = some c → c[j]? = some x → T w lab (p.down i j) x (vals i j)) :
      T w lab p (.osl es l) (.slice (some ⟨b, off, none⟩) l.length cap)
  | op (p : Lab) (l : List AV) (b off : Nat) (vals : Nat → Value) (hb : lab b = some p) (hk : Blk w b (off + l.length)) (hp : ∀ x ∈ l, AV.tree x = true)
      (hv : ∀ j, j < l.length → w.cell? ⟨b, off + j, none⟩ = some (vals j))
      (hr : ∀ j x, l[j]? = some x → T w lab (p.down 0 j) x (vals j)) :
      T w lab p (.op l) (.pointer (some ⟨b, off, none⟩))
  | agg (p : Lab) (cs : List AV) (vs : List Value) (hl : cs.length = vs.length)
      (hr : ∀ (j : Nat) x y, cs[j]? = some x → vs[j]? = some y → T w lab (p.down 0 j) x y) : T w lab p (.agg cs) (.agg ⟨vs⟩)
  | tup (p : Lab) (cs : List AV) (vs : List Value) (hl : cs.length = vs.length)
      (hr : ∀ (j : Nat) x y, cs[j]? = some x → vs[j]? = some y → T w lab (p.down 1 j) x y) : T w lab p (.tup cs) (.tuple ⟨vs⟩)

def Lab.app (p : Lab) (q : List (Nat × Nat)) : Lab := (p.1, p.2 ++ q)
theorem Lab.app_nil (p : Lab) : p.app [] = p := by simp [Lab.app]
theorem Lab.down_app (p : Lab) (i j : Nat) (q : List (Nat × Nat)) : (p.down i j).app q = p.app ((i, j) :: q) := by simp [Lab.app, Lab.down]
/-- a tree is moved to another place -/
theorem T.move {w w' : World} {lab lab' : Labs} {p p' : Lab} {x : AV} {v : Value} (h : T w lab p x v)
    (hk : ∀ b, b < w.heap.size → lab b = none → lab' b = none ∧ w'.heap[b]? = w.heap[b]?)
    (hm : ∀ b q, b < w.heap.size → lab b = some (p.app q) → lab' b = some (p'.app q) ∧ w'.heap[b]? = w.heap[b]?)
    (hz : w.heap.size ≤ w'.heap.size) : T w' lab' p' x v := by
  induction h generalizing p' with
  | imm p x v h => exact .imm _ _ _ (h.mono hk hz)
  | osl p es l b off cap vals hb hk1 hc hes hp hv _ ih =>
    have hh := hm b [] hk1.lt (by rw [Lab.app_nil]; exact hb)
    refine .osl p' es l b off cap vals (by rw [hh.1, Lab.app_nil]) (hk1.same hh.2) hc hes hp
      (fun i j hi hj => by rw [cell_same (a := ⟨b, off + i * es + j, none⟩) hh.2]; exact hv i j hi hj) ?_
    intro i c j x hi hj
    refine ih i c j x hi hj (p' := p'.down i j) ?_
    intro b q hb hq
    rw [Lab.down_app] at hq
    rw [Lab.down_app]
    exact hm b _ hb hq
  | op p l b off vals hb hk1 hp hv _ ih =>
    have hh := hm b [] hk1.lt (by rw [Lab.app_nil]; exact hb)
    refine .op p' l b off vals (by rw [hh.1, Lab.app_nil]) (hk1.same hh.2) hp
      (fun j hj => by rw [cell_same (a := ⟨b, off + j, none⟩) hh.2]; exact hv j hj) ?_
    intro j x hj
    refine ih j x hj (p' := p'.down 0 j) ?_
    intro b q hb hq
    rw [Lab.down_app] at hq
    rw [Lab.down_app]
    exact hm b _ hb hq
  | agg p cs vs hl _ ih =>
    refine .agg p' cs vs hl ?_
    intro j x y hx hy
    refine ih j x y hx hy (p' := p'.down 0 j) ?_
    intro b q hb hq
    rw [Lab.down_app] at hq
    rw [Lab.down_app]
    exact hm b _ hb hq
  | tup p cs vs hl _ ih =>
    refine .tup p' cs vs hl ?_
    intro j x y hx hy
    refine ih j x y hx hy (p' := p'.down 1 j) ?_
    intro b q hb hq
    rw [Lab.down_app] at hq
    rw [Lab.down_app]
    exact hm b _ hb hq

/-- values of slots -/
inductive V (w : World) (lab : Labs) (loc : Locs) : AV → Value → Prop
  | imm (x : AV) (v : Value) (h : I w lab x v) : V w lab loc x v
  | undef (v : Value) : V w lab loc .undef v
  | ptr (id es i j : Nat) (v : Value) (h : ∀ b base, loc id = some (b, base) → v = .pointer (some ⟨b, base + i * es + j, none⟩)) : V w lab loc (.ptr id es i j) v
  | sl (id es i len : Nat) (v : Value)
      (h : ∀ b base, loc id = some (b, base) → ∃ a cap, v = .slice (some a) len cap ∧ len ≤ cap ∧ (cap = 0 ∧ i ≠ 0 ∨ a = ⟨b, base + i * es, none⟩) ∧ Blk w b (base + (i + cap) * es)) : V w lab loc (.sl id es i len) v
  | fn (f : FuncId) (cs : List AV) (vs : List Value) (hl : cs.length = vs.length)
      (hr : ∀ (j : Nat) x y, cs[j]? = some x → vs[j]? = some y → V w lab loc x y) : V w lab loc (.fn f cs) (.func (.func f) #[] ⟨vs⟩)
  | agg (cs : List AV) (vs : List Value) (hl : cs.length = vs.length)
      (hr : ∀ (j : Nat) x y, cs[j]? = some x → vs[j]? = some y → V w lab loc x y) : V w lab loc (.agg cs) (.agg ⟨vs⟩)
  | tup (cs : List AV) (vs : List Value) (hl : cs.length = vs.length)
      (hr : ∀ (j : Nat) x y, cs[j]? = some x → vs[j]? = some y → V w lab loc x y) : V w lab loc (.tup cs) (.tuple ⟨vs⟩)
  | gate (e : Bool) (x : AV) (v : Value) (h : e = true → V w lab loc x v) : V w lab loc (.gate e x) v

theorem V.mono {w w' : World} {lab lab' : Labs} {loc loc' : Locs} {x : AV} {v : Value} (h : V w lab loc x v)
    (hk : ∀ b, b < w.heap.size → lab b = none → lab' b = none ∧ w'.heap[b]? = w.heap[b]?) (hz : w.heap.size ≤ w'.heap.size)
    (hl : ∀ id ∈ x.ids, ∀ b base, loc' id = some (b, base) → loc id = some (b, base) ∧ ∀ n, Blk w b n → Blk w' b n) : V w' lab' loc' x v := by
  induction h with
  | imm x v h => exact .imm _ _ (h.mono hk hz)
  | undef v => exact .undef v
  | ptr id es i j v h =>
    refine .ptr id es i j v fun b base hb => h b base (hl id (by simp [AV.ids]) b base hb).1
  | sl id es i len v h =>
    refine .sl id es i len v fun b base hb => ?_
    have hh := hl id (by simp [AV.ids]) b base hb
    obtain ⟨a, cap, h1, h2, h3, h4⟩ := h b base hh.1
    exact ⟨a, cap, h1, h2, h3, hh.2 _ h4⟩
  | fn f cs vs hl' _ ih =>
    refine .fn f cs vs hl' fun j x y hx hy => ih j x y hx hy fun id hid => hl id ?_
    simp only [AV.ids]; exact mem_idsL (List.mem_of_getElem? hx) hid
  | agg cs vs hl' _ ih =>
    refine .agg cs vs hl' fun j x y hx hy => ih j x y hx hy fun id hid => hl id ?_
    simp only [AV.ids]; exact mem_idsL (List.mem_of_getElem? hx) hid
  | tup cs vs hl' _ ih =>
    refine .tup cs vs hl' fun j x y hx hy => ih j x y hx hy fun id hid => hl id ?_
    simp only [AV.ids]; exact mem_idsL (List.mem_of_getElem? hx) hid
  | gate e x v _ ih => exact .gate e x v fun he => ih he fun id hid => hl id (by simpa [AV.ids] using hid)


/-! inversion -/
section inv
variable {w : World} {lab : Labs} {loc : Locs} {p : Lab} {v : Value}
theorem I.inv_bool {b : Bool} (h : I w lab (.bool b) v) : v = .bool b := by cases h; rfl
theorem I.inv_int {k : IntKind} {n : Int} (h : I w lab (.int k n) v) : v = .int k n := by cases h; rfl
theorem I.inv_str {s : List UInt8} (h : I w lab (.str s) v) : v = .string ⟨s.toArray⟩ := by cases h; rfl
theorem V.inv_bool {b : Bool} (h : V w lab loc (.bool b) v) : v = .bool b := by cases h with | imm _ _ h => exact h.inv_bool
theorem V.inv_int {k : IntKind} {n : Int} (h : V w lab loc (.int k n) v) : v = .int k n := by cases h with | imm _ _ h => exact h.inv_int
theorem V.inv_str {s : List UInt8} (h : V w lab loc (.str s) v) : v = .string ⟨s.toArray⟩ := by cases h with | imm _ _ h => exact h.inv_str
theorem V.inv_nils (h : V w lab loc .nils v) : v = .slice none 0 0 := by cases h with | imm _ _ h => cases h; rfl
theorem V.inv_zsl (h : V w lab loc .zsl v) : ∃ a, v = .slice a 0 0 := by cases h with | imm _ _ h => cases h with | zsl a => exact ⟨a, rfl⟩
theorem V.inv_isl {es : Nat} {l : List (List AV)} (h : V w lab loc (.isl es l) v) : I w lab (.isl es l) v := by cases h with | imm _ _ h => exact h
theorem V.inv_ip {l : List AV} (h : V w lab loc (.ip l) v) : I w lab (.ip l) v := by cases h with | imm _ _ h => exact h
theorem V.inv_ptr {id es i j b base : Nat} (h : V w lab loc (.ptr id es i j) v) (hl : loc id = some (b, base)) : v = .pointer (some ⟨b, base + i * es + j, none⟩) := by
  cases h with
  | imm _ _ h => cases h
  | ptr _ _ _ _ _ h => exact h b base hl
theorem V.inv_sl {id es i len b base : Nat} (h : V w lab loc (.sl id es i len) v) (hl : loc id = some (b, base)) :
    ∃ a cap, v = .slice (some a) len cap ∧ len ≤ cap ∧ (cap = 0 ∧ i ≠ 0 ∨ a = ⟨b, base + i * es, none⟩) ∧ Blk w b (base + (i + cap) * es) := by
  cases h with
  | imm _ _ h => cases h
  | sl _ _ _ _ _ h => exact h b base hl
theorem V.inv_agg {cs : List AV} (h : V w lab loc (.agg cs) v) : ∃ vs : List Value, v = .agg ⟨vs⟩ ∧ cs.length = vs.length ∧ ∀ (j : Nat) x y, cs[j]? = some x → vs[j]? = some y → V w lab loc x y := by
  cases h with
  | imm _ _ h => cases h with | agg _ vs hl hr => exact ⟨vs, rfl, hl, fun j x y hx hy => .imm _ _ (hr j x y hx hy)⟩
  | agg _ vs hl hr => exact ⟨vs, rfl, hl, hr⟩
theorem V.inv_tup {cs : List AV} (h : V w lab loc (.tup cs) v) : ∃ vs : List Value, v = .tuple ⟨vs⟩ ∧ cs.length = vs.length ∧ ∀ (j : Nat) x y, cs[j]? = some x → vs[j]? = some y → V w lab loc x y := by
  cases h with
  | imm _ _ h => cases h with | tup _ vs hl hr => exact ⟨vs, rfl, hl, fun j x y hx hy => .imm _ _ (hr j x y hx hy)⟩
  | tup _ vs hl hr => exact ⟨vs, rfl, hl, hr⟩
theorem V.inv_fn {f : FuncId} {cs : List AV} (h : V w lab loc (.fn f cs) v) : ∃ vs : List Value, v = .func (.func f) #[] ⟨vs⟩ ∧ cs.length = vs.length ∧ ∀ (j : Nat) x y, cs[j]? = some x → vs[j]? = some y → V w lab loc x y := by
  cases h with
  | imm _ _ h => cases h with | fn _ _ vs hl hr => exact ⟨vs, rfl, hl, fun j x y hx hy => .imm _ _ (hr j x y hx hy)⟩
  | fn _ _ vs hl hr => exact ⟨vs, rfl, hl, hr⟩
theorem V.bool (b : Bool) : V w lab loc (.bool b) (.bool b) := .imm _ _ (.bool b)
theorem V.int (k : IntKind) (n : Int) : V w lab loc (.int k n) (.int k n) := .imm _ _ (.int k n)
theorem V.str (s : List UInt8) : V w lab loc (.str s) (.string ⟨s.toArray⟩) := .imm _ _ (.str s)
end inv

end Go.AM
namespace Go.AM

structure Node where
  es : Nat
  l : List (List AV)

def look {α : Type} (k : Nat) : List (Nat × α) → Option α
  | [] => none
  | (i, x) :: r => if k = i then some x else look k r

theorem look_append {α : Type} (k : Nat) (a b : List (Nat × α)) : look k (a ++ b) = (look k a).or (look k b) := by
  induction a with
  | nil => simp [look]
  | cons x a ih =>
    obtain ⟨i, x⟩ := x
    simp only [List.cons_append, look]
    split <;> simp [ih]

theorem look_none {α : Type} {k : Nat} {a : List (Nat × α)} (h : k ∉ a.map (·.1)) : look k a = none := by
  induction a with
  | nil => rfl
  | cons x a ih =>
    obtain ⟨i, x⟩ := x
    simp only [List.map_cons, List.mem_cons, not_or] at h
    simp only [look]
    rw [if_neg h.1]; exact ih h.2

theorem look_mem {α : Type} {k : Nat} {a : List (Nat × α)} {x : α} (h : look k a = some x) : (k, x) ∈ a := by
  induction a with
  | nil => cases h
  | cons y a ih =>
    obtain ⟨i, y⟩ := y
    simp only [look] at h
    split at h
    · rename_i e; subst e; cases h; exact List.mem_cons_self
    · exact List.mem_cons_of_mem _ (ih h)

structure St where
  n : Nat
  slots : List (Nat × AV)
  objs : List (Nat × Option Node)

def St.slot (st : St) (s : Nat) : Option AV := look s st.slots
def St.obj (st : St) (i : Nat) : Option Node := (look i st.objs).join

def Node.ids (nd : Node) : List Nat := nd.l.flatMap idsL
def oids : Option Node → List Nat
  | some nd => nd.ids
  | none => []
def slotIds (l : List (Nat × AV)) : List Nat := l.flatMap fun p => p.2.ids
def objIds (l : List (Nat × Option Node)) : List Nat := l.flatMap fun p => oids p.2
def St.ids (st : St) : List Nat := slotIds st.slots ++ objIds st.objs

theorem ids_of_slot {st : St} {s : Nat} {x : AV} (h : st.slot s = some x) {i : Nat} (hi : i ∈ x.ids) : i ∈ st.ids := by
  simp only [St.ids, List.mem_append, slotIds, List.mem_flatMap]
  exact Or.inl ⟨(s, x), look_mem h, hi⟩

theorem obj_look {st : St} {i : Nat} {nd : Node} (h : st.obj i = some nd) : look i st.objs = some (some nd) := by
  unfold St.obj at h
  cases e : look i st.objs with
  | none => simp [e] at h
  | some o => cases o with
    | none => simp [e] at h
    | some x => simp [e] at h; subst h; rfl

theorem ids_of_obj {st : St} {k : Nat} {nd : Node} (h : st.obj k = some nd) {i : Nat} (hi : i ∈ nd.ids) : i ∈ st.ids := by
  simp only [St.ids, List.mem_append, objIds, List.mem_flatMap]
  exact Or.inr ⟨(k, some nd), look_mem (obj_look h), hi⟩

theorem ids_of_cell {nd : Node} {i j : Nat} {c : List AV} {x : AV} (h1 : nd.l[i]? = some c) (h2 : c[j]? = some x) {k : Nat} (hk : k ∈ x.ids) : k ∈ nd.ids := by
  simp only [Node.ids, List.mem_flatMap]
  exact ⟨c, List.mem_of_getElem? h1, mem_idsL (List.mem_of_getElem? h2) hk⟩

/-- a cell's content: a slot's value, or a detached tree -/
def Cell (w : World) (lab : Labs) (loc : Locs) (p : Lab) (x : AV) (v : Value) : Prop := V w lab loc x v ∨ T w lab p x v

structure ObjOk (w : World) (lab : Labs) (loc : Locs) (id : Nat) (nd : Node) (b base : Nat) : Prop where
  hlab : lab b = some (.obj id, [])
  blk : Blk w b (base + nd.l.length * nd.es)
  es : ∀ c ∈ nd.l, c.length = nd.es
  cells : ∀ (i : Nat) c (j : Nat) x, nd.l[i]? = some c → c[j]? = some x → ∃ v, w.cell? ⟨b, base + i * nd.es + j, none⟩ = some v ∧ Cell w lab loc (.obj id, [(i, j)]) x v

structure RepL (w0 : World) (lab0 : Labs) (st : St) (a : Act) (w : World) (lab : Labs) (loc : Locs) : Prop where
  size : a.tmps.size = st.n
  defers : a.defers = []
  slots : ∀ s x, st.slot s = some x → V w lab loc x (a.tmps.getD s undef)
  objs : ∀ id nd, st.obj id = some nd → ∃ b base, loc id = some (b, base) ∧ ObjOk w lab loc id nd b base
  dead : ∀ id, st.obj id = none → loc id = none
  fresh : ∀ b, lab b ≠ none → b < w.heap.size
  ext : Ext lab0 w0 lab w

def Rep (w0 : World) (lab0 : Labs) (st : St) (a : Act) (w : World) : Prop := ∃ lab loc, RepL w0 lab0 st a w lab loc

/-- what one operation does to a state -/
structure Eff where
  rd : List (Nat × AV) := []
  ob : List (Nat × Option Node) := []
  new : List Nat := []
  wr : List (Nat × AV) := []
  up : List (Nat × Option Node) := []
  ex : List Nat := []

def Eff.pre (e : Eff) (st : St) : Prop :=
  (∀ p ∈ e.rd, st.slot p.1 = some p.2) ∧ (∀ p ∈ e.ob, st.obj p.1 = p.2) ∧ (∀ i ∈ e.new, i ∉ st.ids) ∧ (∀ i ∈ e.ex, (st.obj i).isSome = true)

def Eff.apply (e : Eff) (st : St) : St := { st with slots := e.wr ++ st.slots, objs := e.up ++ st.objs }

theorem slot_apply (e : Eff) (st : St) (s : Nat) : (e.apply st).slot s = (look s e.wr).or (st.slot s) := look_append _ _ _

theorem obj_apply (e : Eff) (st : St) (i : Nat) : (e.apply st).obj i = match look i e.up with | some o => o | none => st.obj i := by
  simp only [Eff.apply, St.obj, look_append]
  cases look i e.up with
  | none => rfl
  | some o => cases o <;> rfl

/-- states that say the same -/
structure St.Alike (st st' : St) : Prop where
  n : st'.n = st.n
  slot : ∀ s, st'.slot s = st.slot s
  obj : ∀ i, st'.obj i = st.obj i
  ids : ∀ i, i ∈ st'.ids ↔ i ∈ st.ids

theorem Rep.alike {w0 : World} {lab0 : Labs} {st st' : St} {a : Act} {w : World} (h : Rep w0 lab0 st a w) (e : St.Alike st st') : Rep w0 lab0 st' a w := by
  obtain ⟨lab, loc, h⟩ := h
  exact ⟨lab, loc, by rw [h.size, e.n], h.defers, fun s x hx => h.slots s x (by rw [← e.slot, hx]), fun i nd hn => h.objs i nd (by rw [← e.obj, hn]),
    fun i hi => h.dead i (by rw [← e.obj, hi]), h.fresh, h.ext⟩

/-- a state that says less -/
structure St.Less (st st' : St) : Prop where
  n : st'.n = st.n
  slot : ∀ s x, st'.slot s = some x → st.slot s = some x
  obj : ∀ i nd, st'.obj i = some nd → st.obj i = some nd

theorem V.forget {w : World} {lab : Labs} {loc loc' : Locs} {x : AV} {v : Value} (h : V w lab loc x v)
    (hl : ∀ id b base, loc' id = some (b, base) → loc id = some (b, base)) : V w lab loc' x v :=
  h.mono (fun _ _ h => ⟨h, rfl⟩) (Nat.le_refl _) fun id _ b base hb => ⟨hl id b base hb, fun _ h => h⟩

theorem Rep.less {w0 : World} {lab0 : Labs} {st st' : St} {a : Act} {w : World} (h : Rep w0 lab0 st a w) (e : St.Less st st') : Rep w0 lab0 st' a w := by
  obtain ⟨lab, loc, h⟩ := h
  let loc' : Locs := fun i => match st'.obj i with | some _ => loc i | none => none
  have hl : ∀ id b base, loc' id = some (b, base) → loc id = some (b, base) := by
    intro id b base hb
    simp only [loc'] at hb
    split at hb
    · exact hb
    · cases hb
  refine ⟨lab, loc', by rw [h.size, e.n], h.defers, fun s x hx => (h.slots s x (e.slot s x hx)).forget hl, ?_, ?_, h.fresh, h.ext⟩
  · intro i nd hn
    obtain ⟨b, base, h1, h2⟩ := h.objs i nd (e.obj i nd hn)
    refine ⟨b, base, by simp only [loc', hn]; exact h1, h2.hlab, h2.blk, h2.es, ?_⟩
    intro k c j x hc hx
    obtain ⟨v, hv, hx⟩ := h2.cells k c j x hc hx
    exact ⟨v, hv, hx.imp (fun h => h.forget hl) id⟩
  · intro i hi; simp only [loc', hi]


/-- the one lemma by which every operation's effect is told -/
theorem RepL.step {w0 : World} {lab0 : Labs} {st : St} {a a' : Act} {w w' : World} {lab lab' : Labs} {loc loc' : Locs} (h : RepL w0 lab0 st a w lab loc) (e : Eff)
    (hsize : a'.tmps.size = a.tmps.size) (hdef : a'.defers = []) (hext : Ext lab w lab' w')
    (hslots : ∀ s, look s e.wr = none → a'.tmps.getD s undef = a.tmps.getD s undef)
    (hwr : ∀ s x, look s e.wr = some x → V w' lab' loc' x (a'.tmps.getD s undef))
    (hkept : ∀ id nd b base, st.obj id = some nd → look id e.up = none → loc id = some (b, base) →
      loc' id = some (b, base) ∧ ∀ b' q, b' < w.heap.size → lab b' = some (.obj id, q) → lab' b' = lab b' ∧ w'.heap[b']? = w.heap[b']?)
    (hup : ∀ id nd, look id e.up = some (some nd) → ∃ b base, loc' id = some (b, base) ∧ ObjOk w' lab' loc' id nd b base)
    (hdead : ∀ id, look id e.up = some none ∨ (look id e.up = none ∧ st.obj id = none) → loc' id = none)
    (hfresh : ∀ b, lab' b ≠ none → b < w'.heap.size)
    (hloc : ∀ id, id ∈ st.ids → ∀ b base, loc' id = some (b, base) → loc id = some (b, base)) :
    RepL w0 lab0 (e.apply st) a' w' lab' loc' := by
  have hV : ∀ x v, (∀ i ∈ x.ids, i ∈ st.ids) → V w lab loc x v → V w' lab' loc' x v := fun x v hi hv =>
    hv.mono hext.imm hext.size fun id hid b base hb => ⟨hloc id (hi id hid) b base hb, fun n hn => hext.blk b n hn⟩
  refine ⟨by rw [hsize, h.size]; rfl, hdef, ?_, ?_, ?_, hfresh, h.ext.trans hext⟩
  · intro s x hx
    rw [slot_apply] at hx
    cases he : look s e.wr with
    | some y => rw [he] at hx; simp at hx; subst hx; exact hwr s _ he
    | none =>
      rw [he] at hx; simp at hx
      rw [hslots s he]
      exact hV x _ (fun i hi => ids_of_slot hx hi) (h.slots s x hx)
  · intro id nd hn
    rw [obj_apply] at hn
    cases he : look id e.up with
    | some o => rw [he] at hn; simp at hn; subst hn; exact hup id nd he
    | none =>
      rw [he] at hn; simp at hn
      obtain ⟨b, base, h1, h2⟩ := h.objs id nd hn
      obtain ⟨h3, h4⟩ := hkept id nd b base hn he h1
      refine ⟨b, base, h3, ?_⟩
      have hb := h4 b [] h2.blk.lt h2.hlab
      refine ⟨by rw [hb.1]; exact h2.hlab, h2.blk.same hb.2, h2.es, ?_⟩
      intro i c j x hi hj
      obtain ⟨v, hv, hx⟩ := h2.cells i c j x hi hj
      refine ⟨v, by rw [cell_same (a := ⟨b, base + i * nd.es + j, none⟩) hb.2]; exact hv, ?_⟩
      rcases hx with hx | hx
      · exact Or.inl (hV x v (fun k hk => ids_of_obj hn (ids_of_cell hi hj hk)) hx)
      · refine Or.inr (hx.move hext.imm ?_ hext.size)
        intro b' q hb' hq
        have := h4 b' _ hb' hq
        exact ⟨by rw [this.1, hq], this.2⟩
  · intro id hid
    rw [obj_apply] at hid
    cases he : look id e.up with
    | some o => rw [he] at hid; simp at hid; subst hid; exact hdead id (Or.inl he)
    | none => rw [he] at hid; simp at hid; exact hdead id (Or.inr ⟨he, hid⟩)

end Go.AM
namespace Go.AM

inductive TKind where
  | bool | int (k : IntKind) | str | slice (e : Nat) | struct (fs : List (Nat × Nat)) | pointer (e : Nat) | other

structure TInfo where
  kind : TKind
  size : Nat
  bytes : Nat
  zero : Option (List AV)
  flat : Bool      -- a struct of int64s: may be compared

abbrev TI := Nat → Option TInfo

def ofV : Value → Option AV
  | .bool b => some (.bool b)
  | .int k n => some (.int k n)
  | .string s => some (.str s.data.toList)
  | .pointer none => some .nilp
  | .slice none 0 0 => some .nils
  | _ => none

theorem ofV_sound {w : World} {lab : Labs} {v : Value} {x : AV} (h : ofV v = some x) : I w lab x v := by
  unfold ofV at h
  split at h <;> first | (cases h; done) | skip
  · cases h; exact .bool _
  · cases h; exact .int _ _
  · cases h; exact .str _
  · cases h; exact .nilp
  · cases h; exact .nils

theorem ofV_one {v : Value} {x : AV} (h : ofV v = some x) : v.oneCell' = true := by
  unfold ofV at h
  split at h <;> first | rfl | (cases h)

def KOk (P : Program) (t : Nat) : TKind → Prop
  | .bool => P.underlying t = some .bool
  | .int k => P.underlying t = some (.int k)
  | .str => P.underlying t = some .string
  | .slice e => P.underlying t = some (.slice e)
  | .struct fs => ∃ fields : Array Field, P.underlying t = some (.struct fields) ∧ fields.toList.map (fun f => (f.offset, f.type)) = fs
  | .pointer e => P.underlying t = some (.pointer e)
  | .other => True

/-- a struct of n numbers, compared -/
def FlatEq (P : Program) (t n : Nat) : Prop := P.eqGuardType P.depth t = false ∧ ∀ (w : World) (a b : List Int), a.length = n → b.length = n →
  (Op.equalIn 10000 t (.agg ⟨a.map (Value.int .i64)⟩) (.agg ⟨b.map (Value.int .i64)⟩)).run P w = .ok (decide (a = b)) w

structure TOk1 (P : Program) (t : Nat) (i : TInfo) : Prop where
  eqs : i.flat = true → FlatEq P t i.size
  info : ∃ info, P.info? t = some info ∧ info.size = i.size ∧ info.bytes = i.bytes ∧ ∀ z, i.zero = some z → ∃ zv, info.zero = some zv ∧ zv.cells.toList.mapM ofV = some z ∧ z.length = i.size
  kind : KOk P t i.kind

def TOk (P : Program) (ti : TI) : Prop := ∀ t i, ti t = some i → TOk1 P t i

def tkind (ti : TI) (t : Nat) : TKind := match ti t with | some i => i.kind | none => .other
theorem tkind_ok {P : Program} {ti : TI} (hT : TOk P ti) (t : Nat) : KOk P t (tkind ti t) := by
  unfold tkind; cases h : ti t with
  | none => trivial
  | some i => exact (hT t i h).kind

/-- is it an aggregate? -/
def TKind.agg : TKind → Option Bool
  | .struct _ => some true
  | .other => none
  | _ => some false

section run
variable {P : Program} {ti : TI} (hT : TOk P ti) {t : Nat} {i : TInfo} (h : ti t = some i)
include hT h

theorem t_sizeOf (w : World) : (sizeOf t).run P w = .ok i.size w := by
  obtain ⟨info, h1, h2, _⟩ := (hT t i h).info
  simp [sizeOf, typeInfo, h1, h2]

theorem t_isAgg {b : Bool} (hb : i.kind.agg = some b) (w : World) : (isAgg t).run P w = .ok b w := by
  have hk := (hT t i h).kind
  cases hi : i.kind <;> simp [hi, TKind.agg, KOk] at hb hk <;> subst hb
  case struct fs =>
    obtain ⟨fields, hf, _⟩ := hk
    simp [isAgg, run_underlying hf]
  all_goals simp [isAgg, run_underlying hk]

end run

theorem addr_add (b o n : Nat) : (⟨b, o, none⟩ : Addr).add n = ⟨b, o + n, none⟩ := by
  unfold Addr.add; split <;> simp_all

/-! ### integers, bools, strings -/
def intBin (b : BinOp) (k : IntKind) (x y : Int) : Option (AV × Prop) :=
  match b with
  | .add => some (.int k (k.wrap (x + y)), True)
  | .sub => some (.int k (k.wrap (x - y)), True)
  | .mul => some (.int k (k.wrap (x * y)), True)
  | .quo => some (.int k (k.wrap (x.tdiv y)), y ≠ 0)
  | .rem => some (.int k (x.tmod y), y ≠ 0)
  | .and => some (.int k (k.wrap (BitVec.ofInt k.bits x &&& BitVec.ofInt k.bits y).toNat), True)
  | .eql => some (.bool (decide (x = y)), True)
  | .neq => some (.bool (!decide (x = y)), True)
  | .lss => some (.bool (decide (x < y)), True)
  | .leq => some (.bool (decide (x ≤ y)), True)
  | .gtr => some (.bool (decide (y < x)), True)
  | .geq => some (.bool (decide (y ≤ x)), True)
  | _ => none

def strBin (b : BinOp) (x y : List UInt8) : Option (AV × Prop) :=
  match b with
  | .add => some (.str (x ++ y), x.length + y.length ≤ 140737488355328)
  | .eql => some (.bool (decide (x = y)), True)
  | .neq => some (.bool (!decide (x = y)), True)
  | _ => none

def intsA : List AV → Option (List Int)
  | [] => some []
  | x :: r => match x, intsA r with
    | .int .i64 n, some l => some (n :: l)
    | _, _ => none

theorem intsA_eq : ∀ {xs : List AV} {l : List Int}, intsA xs = some l → xs = l.map (AV.int .i64) := by
  intro xs
  induction xs with
  | nil => intro l h; simp [intsA] at h; subst h; rfl
  | cons x r ih =>
    intro l h
    simp only [intsA] at h
    split at h <;> first | (cases h; done) | cases h
    rename_i n l' hr
    rw [ih hr]; rfl

def binA (ti : TI) (b : BinOp) (t : Nat) : AV → AV → Option (AV × Prop)
  | .int k x, .int k' y =>
    match b with
    | .shl => some (.int k (k.wrap (x * 2 ^ (min y.toNat k.bits))), 0 ≤ y)
    | .shr => some (.int k (x.fdiv (2 ^ (min y.toNat k.bits))), 0 ≤ y)
    | _ => if k = k' then intBin b k x y else none
  | .str x, .str y => strBin b x y
  | .bool x, .bool y =>
    match tkind ti t, b with
    | .bool, .eql => some (.bool (x == y), True)
    | .bool, .neq => some (.bool (x != y), True)
    | _, _ => none
  | .nils, .nils => match tkind ti t, b with
    | .slice _, .eql => some (.bool true, True)
    | .slice _, .neq => some (.bool false, True)
    | _, _ => none
  | .sl _ _ _ _, .nils => match tkind ti t, b with
    | .slice _, .eql => some (.bool false, True)
    | .slice _, .neq => some (.bool true, True)
    | _, _ => none
  | .nel, .nils => match tkind ti t, b with
    | .slice _, .eql => some (.bool false, True)
    | .slice _, .neq => some (.bool true, True)
    | _, _ => none
  | .isl _ (_ :: _), .nils => match tkind ti t, b with
    | .slice _, .eql => some (.bool false, True)
    | .slice _, .neq => some (.bool true, True)
    | _, _ => none
  | .agg xs, .agg ys => match ti t, intsA xs, intsA ys with
    | some i, some a, some c => if i.flat = true ∧ a.length = i.size ∧ c.length = i.size then match b with
        | .eql => some (.bool (decide (a = c)), True)
        | .neq => some (.bool (!decide (a = c)), True)
        | _ => none else none
    | _, _, _ => none
  | _, _ => none

theorem bytes_toList (s : ByteArray) : s.toList = s.data.toList := by
  have h : ∀ n i r, s.size - i = n → i ≤ s.size → ByteArray.toList.loop s i r = r.reverse ++ s.data.toList.drop i := by
    intro n
    induction n with
    | zero =>
      intro i r hn hi
      rw [ByteArray.toList.loop]
      have : ¬ i < s.size := by omega
      have h2 : s.data.toList.length ≤ i := by have : s.data.toList.length = s.size := rfl; omega
      simp [this, List.drop_eq_nil_of_le h2]
    | succ n ih =>
      intro i r hn hi
      rw [ByteArray.toList.loop]
      have hlt : i < s.size := by omega
      have h2 : i < s.data.toList.length := by have : s.data.toList.length = s.size := rfl; omega
      simp only [hlt, if_true]
      rw [ih (i + 1) _ (by omega) (by omega), List.drop_eq_getElem_cons h2]
      have : s.get! i = s.data.toList[i] := by
        have : s.get! i = s.data[i]! := by cases s; rfl
        rw [this, getElem!_pos s.data i hlt]; simp
      simp [this]
  have := h s.size 0 [] (by omega) (by omega)
  simpa [ByteArray.toList] using this

section eq
variable {P : Program} (w : World) {t : Nat}
theorem run_equalIn_bool (d : Nat) (a b : Bool) (h : P.underlying t = some .bool) : (Op.equalIn (d + 1) t (.bool a) (.bool b)).run P w = .ok (a == b) w := by
  simp [Op.equalIn, run_underlying h]
theorem run_equalIn_int (d : Nat) (k : IntKind) (a b : Int) (h : P.underlying t = some (.int k)) : (Op.equalIn (d + 1) t (.int k a) (.int k b)).run P w = .ok (a == b) w := by
  simp [Op.equalIn, run_underlying h]
theorem run_equalIn_nils (d e : Nat) (h : P.underlying t = some (.slice e)) : (Op.equalIn (d + 1) t (.slice none 0 0) (.slice none 0 0)).run P w = .ok true w := by
  simp [Op.equalIn, run_underlying h]
theorem run_equalIn_slnil (d e : Nat) (a : Addr) (n c : Nat) (h : P.underlying t = some (.slice e)) : (Op.equalIn (d + 1) t (.slice (some a) n c) (.slice none 0 0)).run P w = .ok false w := by
  simp [Op.equalIn, run_underlying h]
theorem run_equal_bool (a b : Bool) (h : P.underlying t = some .bool) : (Op.equal t (.bool a) (.bool b)).run P w = .ok (a == b) w := run_equalIn_bool w 9999 a b h
theorem run_equal_nils (e : Nat) (h : P.underlying t = some (.slice e)) : (Op.equal t (.slice none 0 0) (.slice none 0 0)).run P w = .ok true w := run_equalIn_nils w 9999 e h
theorem run_equal_slnil (e : Nat) (a : Addr) (n c : Nat) (h : P.underlying t = some (.slice e)) : (Op.equal t (.slice (some a) n c) (.slice none 0 0)).run P w = .ok false w := run_equalIn_slnil w 9999 e a n c h
end eq

section bin
variable {P : Program} {ti : TI} (hT : TOk P ti) {w : World} {lab : Labs} {loc : Locs}

theorem intBin_sound {b : BinOp} {k : IntKind} {x y : Int} {z : AV} {ok : Prop} (h : intBin b k x y = some (z, ok)) (hok : ok) (t : Nat) (hb : b ≠ .shl ∧ b ≠ .shr) :
    ∃ v, (binOp b t (.int k x) (.int k y)).run P w = .ok v w ∧ V w lab loc z v := by
  unfold intBin at h
  split at h <;> first | (cases h; done) | (cases h)
  · exact ⟨_, by simp [binOp, Op.intArith], V.int _ _⟩
  · exact ⟨_, by simp [binOp, Op.intArith], V.int _ _⟩
  · exact ⟨_, by simp [binOp, Op.intArith], V.int _ _⟩
  · exact ⟨_, by simp [binOp]; unfold Op.intDiv; rw [if_neg hok]; rfl, V.int _ _⟩
  · exact ⟨_, by simp [binOp]; unfold Op.intDiv; rw [if_neg hok]; rfl, V.int _ _⟩
  · exact ⟨_, by simp [binOp, Op.intBits], V.int _ _⟩
  · refine ⟨.bool (decide (x = y)), ?_, V.bool _⟩
    simp [binOp, Op.intCmp]; by_cases e : x = y <;> simp [e]
  · refine ⟨.bool (!decide (x = y)), ?_, V.bool _⟩
    simp [binOp, Op.intCmp]; by_cases e : x = y <;> simp [e]
  · exact ⟨_, by simp [binOp, Op.intCmp], V.bool _⟩
  · exact ⟨_, by simp [binOp, Op.intCmp], V.bool _⟩
  · exact ⟨_, by simp [binOp, Op.intCmp], V.bool _⟩
  · exact ⟨_, by simp [binOp, Op.intCmp], V.bool _⟩

theorem strBin_sound {b : BinOp} {x y : List UInt8} {z : AV} {ok : Prop} (h : strBin b x y = some (z, ok)) (hok : ok) (t : Nat) :
    ∃ v, (binOp b t (.string ⟨x.toArray⟩) (.string ⟨y.toArray⟩)).run P w = .ok v w ∧ V w lab loc z v := by
  unfold strBin at h
  split at h <;> first | (cases h; done) | (cases h)
  · refine ⟨.string (⟨x.toArray⟩ ++ ⟨y.toArray⟩), ?_, ?_⟩
    · have hs : ((⟨x.toArray⟩ : ByteArray).size + (⟨y.toArray⟩ : ByteArray).size : Nat) = x.length + y.length := by simp [ByteArray.size]
      have hn : ¬ (((⟨x.toArray⟩ : ByteArray).size + (⟨y.toArray⟩ : ByteArray).size : Nat) : Int) > IntKind.i64.max := by
        rw [hs]; have : IntKind.i64.max = 9223372036854775807 := by decide
        rw [this]; omega
      simp only [binOp, Op.stringOp]
      rw [if_neg hn]; rfl
    · have : (⟨x.toArray⟩ ++ ⟨y.toArray⟩ : ByteArray) = ⟨(x ++ y).toArray⟩ := by
        apply ByteArray.ext; simp
      rw [this]; exact V.str _
  · refine ⟨.bool (decide (x = y)), ?_, V.bool _⟩
    simp only [binOp, Op.stringOp, bytes_toList]
    by_cases hxy : x = y <;> simp [hxy]
  · refine ⟨.bool (!decide (x = y)), ?_, V.bool _⟩
    simp only [binOp, Op.stringOp, bytes_toList]
    by_cases hxy : x = y <;> simp [hxy]

include hT in
theorem binA_sound {b : BinOp} {t : Nat} {x y : AV} {z : AV} {ok : Prop} (h : binA ti b t x y = some (z, ok)) (hok : ok) {vx vy : Value}
    (hx : V w lab loc x vx) (hy : V w lab loc y vy) (hlx : ∀ i ∈ x.ids, ∃ p, loc i = some p) (ox oy : Operand) :
    ∃ v, (do eqGuard b t ox oy vx vy; binOp b t vx vy : Sem Value).run P w = .ok v w ∧ V w lab loc z v := by
  unfold binA at h
  have hk := tkind_ok hT t
  split at h
  · rename_i k x k' y
    rw [hx.inv_int, hy.inv_int]
    have hg : (eqGuard b t ox oy (.int k x) (.int k' y)).run P w = .ok () w := by unfold eqGuard; split <;> simp
    simp only [Sem.run_bind, hg, Result.andThen_ok]
    split at h
    · cases h
      refine ⟨_, ?_, V.int _ _⟩
      have hn : ¬ y < 0 := Int.not_lt.2 hok
      simp [binOp, Op.shift, hn]
    · cases h
      refine ⟨_, ?_, V.int _ _⟩
      have hn : ¬ y < 0 := Int.not_lt.2 hok
      simp [binOp, Op.shift, hn]
    · split at h
      · rename_i h1 h2 e
        subst e
        exact intBin_sound h hok t ⟨h1, h2⟩
      · cases h
  · rename_i x y
    rw [hx.inv_str, hy.inv_str]
    have hg : (eqGuard b t ox oy (.string ⟨x.toArray⟩) (.string ⟨y.toArray⟩)).run P w = .ok () w := by unfold eqGuard; split <;> simp
    simp only [Sem.run_bind, hg, Result.andThen_ok]
    exact strBin_sound h hok t
  · rename_i x y
    rw [hx.inv_bool, hy.inv_bool]
    have hg : (eqGuard b t ox oy (.bool x) (.bool y)).run P w = .ok () w := by unfold eqGuard; split <;> simp
    simp only [Sem.run_bind, hg, Result.andThen_ok]
    split at h <;> first | (cases h; done) | skip
    all_goals
      rename_i hk'
      rw [hk'] at hk
      cases h
      refine ⟨_, ?_, V.bool _⟩
      simp [binOp, run_equal_bool w x y hk, bne]
  · rw [hx.inv_nils, hy.inv_nils]
    have hg : (eqGuard b t ox oy (.slice none 0 0) (.slice none 0 0)).run P w = .ok () w := by unfold eqGuard; split <;> simp
    simp only [Sem.run_bind, hg, Result.andThen_ok]
    split at h <;> first | (cases h; done) | skip
    all_goals
      rename_i hk'
      rw [hk'] at hk
      cases h
      refine ⟨_, ?_, V.bool _⟩
      simp [binOp, run_equal_nils w _ hk]
  rotate_left 3
  · rename_i xs ys
    split at h <;> first | (cases h; done) | skip
    rename_i i a c hi ha hc
    split at h <;> first | (cases h; done) | skip
    rename_i hcond
    obtain ⟨hf, hla, hlc⟩ := hcond
    obtain ⟨hg, he⟩ := (hT t i hi).eqs hf
    have key : ∀ {zs : List AV} {l : List Int} {v : Value}, intsA zs = some l → V w lab loc (.agg zs) v → v = .agg ⟨l.map (Value.int .i64)⟩ := by
      intro zs l v hz hv
      obtain ⟨vs, rfl, hl, hr⟩ := hv.inv_agg
      have hzs := intsA_eq hz
      congr 2
      apply List.ext_getElem?
      intro j
      rw [List.getElem?_map]
      cases hj : l[j]? with
      | none =>
        have h1 : l.length ≤ j := List.getElem?_eq_none_iff.1 hj
        have h2 : vs.length = l.length := by rw [← hl, hzs]; simp
        simp [List.getElem?_eq_none (show vs.length ≤ j by omega)]
      | some n =>
        have h3 : zs[j]? = some (.int .i64 n) := by rw [hzs, List.getElem?_map, hj]; rfl
        have h4 : j < vs.length := by rw [← hl]; exact (List.getElem?_eq_some_iff.1 h3).1
        have h5 := hr j _ vs[j] h3 (List.getElem?_eq_getElem h4)
        rw [List.getElem?_eq_getElem h4, h5.inv_int]; rfl
    rw [key ha hx, key hc hy]
    have hgu := run_eqGuard_agg (P := P) w b t ox oy ⟨a.map (Value.int .i64)⟩ ⟨c.map (Value.int .i64)⟩ hg
    simp only [Sem.run_bind, hgu, Result.andThen_ok]
    split at h <;> first | (cases h; done) | cases h
    · refine ⟨_, ?_, V.bool _⟩
      rw [run_eql_struct, he w a c hla hlc]; rfl
    · refine ⟨_, ?_, V.bool _⟩
      rw [run_neq_struct, he w a c hla hlc]; rfl
  rotate_right 3
  all_goals try (cases h; done)
  all_goals
    have hsl : ∃ a n c, vx = .slice (some a) n c := by
      first
        | (cases hx with | imm _ _ hI => cases hI with | nel a c => exact ⟨_, _, _, rfl⟩)
        | (cases hx.inv_isl with | isl _ _ b off cap vals hb hs hc hes hp hv hr => exact ⟨_, _, _, rfl⟩)
        | (obtain ⟨⟨b, base⟩, hp⟩ := hlx _ (by simp only [AV.ids]; exact List.mem_singleton.2 rfl); obtain ⟨a, c, h1, _⟩ := hx.inv_sl hp; exact ⟨_, _, _, h1⟩)
    obtain ⟨a, n, c, rfl⟩ := hsl
    rw [hy.inv_nils]
    have hg : (eqGuard b t ox oy (.slice (some a) n c) (.slice none 0 0)).run P w = .ok () w := by unfold eqGuard; split <;> simp
    simp only [Sem.run_bind, hg, Result.andThen_ok]
    split at h <;> first | (cases h; done) | skip
    all_goals
      rename_i hk'
      rw [hk'] at hk
      cases h
      refine ⟨_, ?_, V.bool _⟩
      simp [binOp, run_equal_slnil w _ a n c hk]

end bin

end Go.AM
namespace Go.AM

theorem getD_lt {α : Type} {l : List α} {i : Nat} {d : α} (h : i < l.length) : l[i]? = some (l.getD i d) := by simp [List.getD, h]

theorem T.inv_plain {w : World} {lab : Labs} {p : Lab} {x : AV} {v : Value} (h : T w lab p x v) (hx : x.plain = true) : I w lab x v := by
  cases h with
  | imm _ _ _ h => exact h
  | osl => simp [AV.plain] at hx
  | op => simp [AV.plain] at hx
  | agg => simp [AV.plain] at hx
  | tup => simp [AV.plain] at hx

theorem Cell.inv_plain {w : World} {lab : Labs} {loc : Locs} {p : Lab} {x : AV} {v : Value} (h : Cell w lab loc p x v) (hx : x.plain = true) : V w lab loc x v := by
  rcases h with h | h
  · exact h
  · exact .imm _ _ (h.inv_plain hx)

def unA (u : UnOp) : AV → Option (AV × Prop)
  | .bool b => match u with | .not => some (.bool (!b), True) | _ => none
  | .int k n => match u with | .neg => some (.int k (k.wrap (0 - n)), True) | _ => none
  | _ => none

def indexA (ti : TI) (t : Nat) : AV → AV → Option (AV × Prop)
  | .str s, .int _ i => match tkind ti t with
    | .str => some (.int .u8 (s.getD i.toNat 0).toNat, 0 ≤ i ∧ i < s.length)
    | _ => none
  | _, _ => none

def esize (ti : TI) (t : Nat) : Option Nat :=
  match tkind ti t with
  | .slice e => (ti e).map (·.size)
  | _ => none

def indexAddrA (ti : TI) (nodes : Nat → Option Node) (t : Nat) : AV → AV → Option (AV × Prop)
  | .isl es l, .int _ i => if esize ti t = some es then some (.ip (l.getD i.toNat []), 0 ≤ i ∧ i < l.length) else none
  | .sl id es i0 len, .int _ i => match nodes id with
    | some _ => if esize ti t = some es then some (.ptr id es (i0 + i.toNat) 0, 0 ≤ i ∧ i < len) else none
    | none => none
  | _, _ => none

/-- a field's offset and type: its type has cells -/
def fieldOf (ti : TI) (s f : Nat) : Option (Nat × Nat × TInfo) :=
  match tkind ti s with
  | .struct fs => match fs[f]? with
    | some (o, ft) => match ti ft with
      | some fi => if fi.size = 0 then none else some (o, ft, fi)
      | none => none
    | none => none
  | _ => none

def fieldAddrA (ti : TI) (nodes : Nat → Option Node) (s f : Nat) : AV → Option (AV × Prop)
  | .ip l => match fieldOf ti s f with
    | some (o, _, _) => some (.ip (l.drop o), True)
    | none => none
  | .ptr id es i j => match nodes id, fieldOf ti s f with
    | some _, some (o, _, _) => some (.ptr id es i (j + o), True)
    | _, _ => none
  | _ => none

def fieldA (ti : TI) (s f : Nat) : AV → Option (AV × Prop)
  | .agg cs => match fieldOf ti s f with
    | some (o, _, fi) => match fi.kind.agg with
      | some true => some (.agg ((cs.drop o).take fi.size), True)
      | some false => some (cs.getD o .undef, o < cs.length)
      | none => none
    | none => none
  | _ => none

def loadA (ti : TI) (nodes : Nat → Option Node) (t : Nat) : AV → Option (AV × Prop)
  | .ip l => match ti t with
    | some i => match i.kind.agg with
      | some true => some (.agg (l.take i.size), i.size ≤ l.length)
      | some false => some (l.getD 0 .undef, 0 < l.length)
      | none => none
    | none => none
  | .ptr id es i j => match nodes id, ti t with
    | some nd, some ty => if nd.es = es then match ty.kind.agg with
      | some true => some (.agg (((nd.l.getD i []).drop j).take ty.size), i < nd.l.length ∧ j + ty.size ≤ es ∧ (((nd.l.getD i []).drop j).take ty.size).all AV.plain = true)
      | some false => some ((nd.l.getD i []).getD j .undef, i < nd.l.length ∧ j < es ∧ ((nd.l.getD i []).getD j .undef).plain = true)
      | none => none else none
    | _, _ => none
  | _ => none

def extractA (i : Nat) : AV → Option (AV × Prop)
  | .tup vs => some (vs.getD i .undef, i < vs.length)
  | _ => none

def lenA (ti : TI) (nodes : Nat → Option Node) (t : Nat) : AV → Option (AV × Prop)
  | .str s => match tkind ti t with | .str => some (.int .i64 s.length, True) | _ => none
  | .isl _ l => match tkind ti t with | .slice _ => some (.int .i64 l.length, True) | _ => none
  | .nils | .zsl => match tkind ti t with | .slice _ => some (.int .i64 0, True) | _ => none
  | .sl id _ _ len => match tkind ti t, nodes id with | .slice _, some _ => some (.int .i64 len, True) | _, _ => none
  | .lns n => match tkind ti t with | .slice _ => some (.int .i64 n, True) | _ => none
  | _ => none

def capA (ti : TI) (t : Nat) : AV → Option (AV × Prop)
  | .nils | .zsl => match tkind ti t with | .slice _ => some (.int .i64 0, True) | _ => none
  | _ => none

def encB (s : List UInt8) : List (List AV) := s.map fun b => [.int .u8 b.toNat]
def byteOfCell : List AV → Option UInt8
  | [.int .u8 n] => if 0 ≤ n ∧ n < 256 then some (UInt8.ofNat n.toNat) else none
  | _ => none
def decB (l : List (List AV)) : Option (List UInt8) := l.mapM byteOfCell

theorem decB_encB (s : List UInt8) : decB (encB s) = some s := by
  unfold decB encB
  induction s with
  | nil => rfl
  | cons b s ih =>
    have : byteOfCell [.int .u8 b.toNat] = some b := by
      have := b.toNat_lt
      simp [byteOfCell]; omega
    simp only [List.map_cons, List.mapM_cons, this, ih]; rfl

section snd
variable {P : Program} {ti : TI} (hT : TOk P ti) {w : World} {lab : Labs} {loc : Locs} {nodes : Nat → Option Node}
  (hn : ∀ id nd, nodes id = some nd → ∃ b base, loc id = some (b, base) ∧ ObjOk w lab loc id nd b base)

theorem unA_sound {u : UnOp} {x z : AV} {ok : Prop} (h : unA u x = some (z, ok)) {vx : Value} (hx : V w lab loc x vx) :
    ∃ v, (Op.unary u vx).run P w = .ok v w ∧ V w lab loc z v := by
  unfold unA at h
  split at h
  · split at h <;> first | (cases h; done) | cases h
    rw [hx.inv_bool]; exact ⟨_, by simp [Op.unary], V.bool _⟩
  · split at h <;> first | (cases h; done) | cases h
    rw [hx.inv_int]; exact ⟨_, by simp [Op.unary, Op.intArith], V.int _ _⟩
  · cases h

include hT in
theorem indexA_sound {t : Nat} {x y z : AV} {ok : Prop} (h : indexA ti t x y = some (z, ok)) (hok : ok) {vx vy : Value} (hx : V w lab loc x vx) (hy : V w lab loc y vy) :
    ∃ v, (Instr.index t vx vy).run P w = .ok v w ∧ V w lab loc z v := by
  unfold indexA at h
  split at h
  · rename_i s k i
    have hk := tkind_ok hT t
    split at h <;> first | (cases h; done) | cases h
    rename_i hk'
    rw [hk'] at hk
    rw [hx.inv_str, hy.inv_int]
    obtain ⟨h0, h1⟩ := hok
    have hlt : i.toNat < s.length := by omega
    refine ⟨.int .u8 (s.getD i.toNat 0).toNat, ?_, V.int _ _⟩
    have hg : (⟨s.toArray⟩ : ByteArray)[i.toNat]? = some s[i.toNat] := by
      have hz : i.toNat < (⟨s.toArray⟩ : ByteArray).size := by simpa [ByteArray.size] using hlt
      exact getElem?_pos (⟨s.toArray⟩ : ByteArray) i.toNat hz
    simp [Instr.index, asIntOf, run_underlying hk, h0, hg, List.getD, hlt]
  · cases h

include hT hn in
theorem indexAddrA_sound {t : Nat} {x y z : AV} {ok : Prop} (h : indexAddrA ti nodes t x y = some (z, ok)) (hok : ok) {vx vy : Value} (hx : V w lab loc x vx) (hy : V w lab loc y vy) :
    ∃ v, (Instr.indexAt t vx vy).run P w = .ok v w ∧ V w lab loc z v := by
  have key : ∀ es, esize ti t = some es → ∃ e, P.underlying t = some (.slice e) ∧ (sizeOf e).run P w = .ok es w := by
    intro es he
    unfold esize at he
    have hk := tkind_ok hT t
    split at he
    · rename_i e hk'
      rw [hk'] at hk
      cases hi : ti e with
      | none => simp [hi] at he
      | some i => simp [hi] at he; subst he; exact ⟨e, hk, t_sizeOf hT hi w⟩
    · cases he
  unfold indexAddrA at h
  split at h
  · rename_i es l k i
    split at h <;> first | (cases h; done) | cases h
    rename_i he
    obtain ⟨e, hu, hs⟩ := key es he
    rw [hy.inv_int]
    obtain ⟨h0, h1⟩ := hok
    have hlt : i.toNat < l.length := by omega
    cases hx.inv_isl with
    | esl => simp at hlt
    | nsl => simp at hlt
    | isl _ _ b off cap vals hb hsz hc hes hp hv hr =>
      refine ⟨.pointer (some ⟨b, off + i.toNat * es, none⟩), ?_, ?_⟩
      · simp [Instr.indexAt, asIntOf, run_underlying hu, hs, h0, h1, addr_add]
      · have hl : l[i.toNat]? = some (l.getD i.toNat []) := by simp [List.getD, hlt]
        have hln : (l.getD i.toNat []).length = es := hes _ (List.mem_of_getElem? hl)
        refine .imm _ _ (.ip _ b _ (fun j => vals i.toNat j) hb hsz ?_ ?_)
        · intro j hj; exact hv i.toNat j hlt (by omega)
        · intro j x hj; exact hr i.toNat _ j x hl hj
  · rename_i id es i0 len k i
    split at h <;> first | (cases h; done) | skip
    rename_i nd hnd
    split at h <;> first | (cases h; done) | cases h
    rename_i he
    obtain ⟨e, hu, hs⟩ := key es he
    rw [hy.inv_int]
    obtain ⟨h0, h1⟩ := hok
    obtain ⟨b, base, hl, _⟩ := hn id nd hnd
    obtain ⟨a, cap, rfl, h2, h3, _⟩ := hx.inv_sl hl
    have ha : a = ⟨b, base + i0 * es, none⟩ := by rcases h3 with h3 | h3 <;> first | exact h3 | omega
    subst ha
    refine ⟨.pointer (some ⟨b, base + i0 * es + i.toNat * es, none⟩), ?_, ?_⟩
    · simp [Instr.indexAt, asIntOf, run_underlying hu, hs, h0, h1, addr_add]
    · refine .ptr _ _ _ _ _ fun b' base' hl' => ?_
      rw [hl] at hl'; cases hl'
      simp [Nat.add_mul, Nat.add_assoc]
  · cases h

include hT in
theorem fieldOf_sound {s f o ft : Nat} {fi : TInfo} (h : fieldOf ti s f = some (o, ft, fi)) :
    ∃ (fields : Array Field) (fd : Field), P.underlying s = some (.struct fields) ∧ fields[f]? = some fd ∧ fd.offset = o ∧ fd.type = ft ∧ ti ft = some fi ∧ fi.size ≠ 0 := by
  unfold fieldOf at h
  have hk := tkind_ok hT s
  split at h <;> first | (cases h; done) | skip
  rename_i fs hk'
  rw [hk'] at hk
  obtain ⟨fields, hu, hf⟩ := hk
  split at h <;> first | (cases h; done) | skip
  rename_i o' ft' hf'
  split at h <;> first | (cases h; done) | skip
  rename_i fi' hi
  split at h <;> first | (cases h; done) | cases h
  rename_i hne
  rw [← hf] at hf'
  simp only [List.getElem?_map, Option.map_eq_some_iff, Prod.mk.injEq] at hf'
  obtain ⟨fd, h1, h2, h3⟩ := hf'
  exact ⟨fields, fd, hu, by simpa using h1, h2, h3, hi, hne⟩

include hT hn in
theorem fieldAddrA_sound {s f : Nat} {x z : AV} {ok : Prop} (h : fieldAddrA ti nodes s f x = some (z, ok)) {vx : Value} (hx : V w lab loc x vx) :
    ∃ v, (Instr.fieldAt s vx f).run P w = .ok v w ∧ V w lab loc z v := by
  unfold fieldAddrA at h
  split at h
  · rename_i l
    split at h <;> first | (cases h; done) | cases h
    rename_i o ft fi hf
    obtain ⟨fields, fd, hu, h1, h2, h3, h4, h5⟩ := fieldOf_sound hT hf
    cases hx.inv_ip with
    | ip _ b off vals hb hs hv hr =>
      refine ⟨.pointer (some ⟨b, off + o, none⟩), ?_, ?_⟩
      · have hz := t_sizeOf hT h4 w
        simp [Instr.fieldAt, run_underlying hu, h1, Instr.sureAddr, fieldPlace, h3, hz, h5, h2, addr_add]
      · refine .imm _ _ (.ip _ b (off + o) (fun j => vals (o + j)) hb hs ?_ ?_)
        · intro j hj
          have := hv (o + j) (by simp at hj; omega)
          rw [← Nat.add_assoc] at this; exact this
        · intro j x hj
          rw [List.getElem?_drop] at hj
          exact hr (o + j) x hj
  · rename_i id es i j
    split at h <;> first | (cases h; done) | cases h
    rename_i nd o ft fi hnd hf
    obtain ⟨fields, fd, hu, h1, h2, h3, h4, h5⟩ := fieldOf_sound hT hf
    obtain ⟨b, base, hl, _⟩ := hn id nd hnd
    rw [hx.inv_ptr hl]
    refine ⟨.pointer (some ⟨b, base + i * es + j + o, none⟩), ?_, ?_⟩
    · have hz := t_sizeOf hT h4 w
      simp [Instr.fieldAt, run_underlying hu, h1, Instr.sureAddr, fieldPlace, h3, hz, h5, h2, addr_add]
    · refine .ptr _ _ _ _ _ fun b' base' hl' => ?_
      rw [hl] at hl'; cases hl'
      simp [Nat.add_assoc]
  · cases h

include hT in
theorem fieldA_sound {s f : Nat} {x z : AV} {ok : Prop} (h : fieldA ti s f x = some (z, ok)) (hok : ok) {vx : Value} (hx : V w lab loc x vx) :
    ∃ v, (Instr.field s vx f).run P w = .ok v w ∧ V w lab loc z v := by
  unfold fieldA at h
  split at h <;> first | (cases h; done) | skip
  rename_i cs
  split at h <;> first | (cases h; done) | skip
  rename_i o ft fi hf
  obtain ⟨fields, fd, hu, h1, h2, h3, h4, h5⟩ := fieldOf_sound hT hf
  obtain ⟨vs, rfl, hl, hr⟩ := hx.inv_agg
  split at h <;> first | (cases h; done) | cases h
  · rename_i ha
    refine ⟨.agg ⟨(vs.drop o).take fi.size⟩, ?_, ?_⟩
    · have hz := t_sizeOf hT h4 w
      have hg := t_isAgg hT h4 ha w
      simp [Instr.field, run_underlying hu, h1, asAgg, part, h3, h2, hg, hz, List.take_drop]
    · refine .agg _ _ (by simp [hl]) ?_
      intro j x y hx hy
      rw [List.getElem?_take] at hx hy
      split at hx <;> first | (cases hx; done) | skip
      rename_i hj
      rw [if_pos hj] at hy
      rw [List.getElem?_drop] at hx hy
      exact hr _ x y hx hy
  · rename_i ha
    have ho : o < vs.length := by rw [← hl]; exact hok
    refine ⟨vs[o], ?_, ?_⟩
    · have hg := t_isAgg hT h4 ha w
      simp [Instr.field, run_underlying hu, h1, asAgg, part, h3, h2, hg, ho]
    · have h1 : cs[o]? = some (cs.getD o .undef) := by
        have : o < cs.length := hok
        simp [List.getD, this]
      exact hr o _ _ h1 (by simp [ho])

include hT hn in
theorem loadA_sound {t : Nat} {x z : AV} {ok : Prop} (h : loadA ti nodes t x = some (z, ok)) (hok : ok) {vx : Value} (hx : V w lab loc x vx) :
    ∃ v, (Instr.loadAt t vx).run P w = .ok v w ∧ V w lab loc z v := by
  unfold loadA at h
  split at h
  · rename_i l
    split at h <;> first | (cases h; done) | skip
    rename_i i hi
    cases hx.inv_ip with
    | ip _ b off vals hb hs hv hr =>
      split at h <;> first | (cases h; done) | cases h
      · rename_i ha
        have hz := t_sizeOf hT hi w
        have hg := t_isAgg hT hi ha w
        have hld := run_loadCells (P := P) w ⟨b, off, none⟩ i.size vals (fun j hj => by rw [addr_add]; exact hv j (by omega))
        refine ⟨.agg ⟨(List.range i.size).map vals⟩, by simp [Instr.loadAt, Instr.sureAddr, loadVar, hg, hz, hld], ?_⟩
        refine .imm _ _ (.agg _ _ (by simp; omega) ?_)
        intro j x y hx hy
        rw [List.getElem?_take] at hx
        split at hx <;> first | (cases hx; done) | skip
        rename_i hj
        simp [hj] at hy
        subst hy
        exact hr j x hx
      · rename_i ha
        have hg := t_isAgg hT hi ha w
        have hc := hv 0 hok
        refine ⟨vals 0, by simp at hc; simp [Instr.loadAt, Instr.sureAddr, loadVar, hg, hc], ?_⟩
        exact .imm _ _ (hr 0 _ (by have : 0 < l.length := hok; simp [List.getD, this]))
  · rename_i id es i j
    split at h <;> first | (cases h; done) | skip
    rename_i nd ty hnd hi
    split at h <;> first | (cases h; done) | skip
    rename_i hes
    obtain ⟨b, base, hl, ho⟩ := hn id nd hnd
    rw [hx.inv_ptr hl]
    split at h <;> first | (cases h; done) | cases h
    · rename_i ha
      obtain ⟨h1, h2, h3⟩ := hok
      have hz := t_sizeOf hT hi w
      have hg := t_isAgg hT hi ha w
      have hci : nd.l[i]? = some (nd.l.getD i []) := by simp [List.getD, h1]
      have hlen : (nd.l.getD i []).length = es := by rw [← hes]; exact ho.es _ (List.mem_of_getElem? hci)
      have hcell : ∀ k, k < ty.size → ∃ v, w.cell? ⟨b, base + i * es + j + k, none⟩ = some v ∧ V w lab loc ((nd.l.getD i []).getD (j + k) .undef) v := by
        intro k hk
        have hk2 : (nd.l.getD i [])[j + k]? = some ((nd.l.getD i []).getD (j + k) .undef) := by
          have hlt : j + k < (nd.l.getD i []).length := by omega
          exact getD_lt hlt
        obtain ⟨v, hv, hcv⟩ := ho.cells i _ (j + k) _ hci hk2
        refine ⟨v, by rw [hes, ← Nat.add_assoc] at hv; exact hv, hcv.inv_plain ?_⟩
        rw [List.all_eq_true] at h3
        apply h3
        rw [List.mem_iff_getElem?]
        exact ⟨k, by rw [List.getElem?_take, if_pos hk, List.getElem?_drop]; exact hk2⟩
      let f : Nat → Value := fun k => (w.cell? ⟨b, base + i * es + j + k, none⟩).getD undef
      have hld := run_loadCells (P := P) w ⟨b, base + i * es + j, none⟩ ty.size f (fun k hk => by
        obtain ⟨v, hv, _⟩ := hcell k hk
        rw [addr_add]; simp only [f, hv]; rfl)
      refine ⟨.agg ⟨(List.range ty.size).map f⟩, by simp [Instr.loadAt, Instr.sureAddr, loadVar, hg, hz, hld], ?_⟩
      have hlen2 : (nd.l[i]?.getD []).length = es := by rw [← List.getD_eq_getElem?_getD]; exact hlen
      refine .agg _ _ (by simp; omega) ?_
      intro k x y hx hy
      rw [List.getElem?_take] at hx
      split at hx <;> first | (cases hx; done) | skip
      rename_i hk
      rw [List.getElem?_drop] at hx
      simp [hk] at hy
      subst hy
      obtain ⟨v, hv, hcv⟩ := hcell k hk
      have : (nd.l.getD i []).getD (j + k) .undef = x := by unfold List.getD; unfold List.getD at hx; rw [hx]; rfl
      rw [this] at hcv
      simp only [f, hv]; exact hcv
    · rename_i ha
      obtain ⟨h1, h2, h3⟩ := hok
      have hg := t_isAgg hT hi ha w
      have hci : nd.l[i]? = some (nd.l.getD i []) := by simp [List.getD, h1]
      have hlen : (nd.l.getD i []).length = es := by rw [← hes]; exact ho.es _ (List.mem_of_getElem? hci)
      have hk2 : (nd.l.getD i [])[j]? = some ((nd.l.getD i []).getD j .undef) := by
        have hlt : j < (nd.l.getD i []).length := by omega
        exact getD_lt hlt
      obtain ⟨v, hv, hcv⟩ := ho.cells i _ j _ hci hk2
      rw [hes] at hv
      refine ⟨v, by simp [Instr.loadAt, Instr.sureAddr, loadVar, hg, hv], hcv.inv_plain h3⟩
  · cases h

theorem extractA_sound {i : Nat} {x z : AV} {ok : Prop} (h : extractA i x = some (z, ok)) (hok : ok) {vx : Value} (hx : V w lab loc x vx) :
    ∃ v, (Instr.extract vx i).run P w = .ok v w ∧ V w lab loc z v := by
  unfold extractA at h
  split at h <;> first | (cases h; done) | cases h
  rename_i vs
  obtain ⟨us, rfl, hl, hr⟩ := hx.inv_tup
  have hi : i < us.length := by rw [← hl]; exact hok
  have h2 : vs[i]? = some (vs.getD i .undef) := by have : i < vs.length := hok; simp [List.getD, this]
  exact ⟨us[i], by simp [Instr.extract, hi], hr i _ _ h2 (by simp [hi])⟩

include hT hn in
theorem lenA_sound {t ty : Nat} {x z : AV} {ok : Prop} (h : lenA ti nodes t x = some (z, ok)) {vx : Value} (hx : V w lab loc x vx) :
    ∃ v, (Builtin.len_ #[t] ty #[vx]).run P w = .ok v w ∧ V w lab loc z v := by
  have hk := tkind_ok hT t
  unfold lenA at h
  split at h
  · split at h <;> first | (cases h; done) | cases h
    rename_i hk'; rw [hk'] at hk
    rw [hx.inv_str]
    refine ⟨_, by simp [Builtin.len_, run_underlying hk]; rfl, ?_⟩
    simp [goInt, ByteArray.size]; exact V.int _ _
  · split at h <;> first | (cases h; done) | cases h
    rename_i hk'; rw [hk'] at hk
    cases hx.inv_isl with
    | esl => exact ⟨_, by simp [Builtin.len_, run_underlying hk]; rfl, V.int _ _⟩
    | nsl => exact ⟨_, by simp [Builtin.len_, run_underlying hk]; rfl, V.int _ _⟩
    | isl => exact ⟨_, by simp [Builtin.len_, run_underlying hk]; rfl, V.int _ _⟩
  · split at h <;> first | (cases h; done) | cases h
    rename_i hk'; rw [hk'] at hk
    rw [hx.inv_nils]
    exact ⟨_, by simp [Builtin.len_, run_underlying hk]; rfl, V.int _ _⟩
  · split at h <;> first | (cases h; done) | cases h
    rename_i hk'; rw [hk'] at hk
    obtain ⟨a, rfl⟩ := hx.inv_zsl
    exact ⟨_, by simp [Builtin.len_, run_underlying hk]; rfl, V.int _ _⟩
  · split at h <;> first | (cases h; done) | cases h
    rename_i nd hk' hnd; rw [hk'] at hk
    obtain ⟨b, base, hl, _⟩ := hn _ nd hnd
    obtain ⟨a, cap, rfl, _⟩ := hx.inv_sl hl
    exact ⟨_, by simp [Builtin.len_, run_underlying hk]; rfl, V.int _ _⟩
  · split at h <;> first | (cases h; done) | cases h
    rename_i hk'; rw [hk'] at hk
    cases hx with
    | imm _ _ hI => cases hI with | lns n a cap => exact ⟨_, by simp [Builtin.len_, run_underlying hk]; rfl, V.int _ _⟩
  · cases h

include hT in
theorem capA_sound {t ty : Nat} {x z : AV} {ok : Prop} (h : capA ti t x = some (z, ok)) {vx : Value} (hx : V w lab loc x vx) :
    ∃ v, (Builtin.cap_ #[t] ty #[vx]).run P w = .ok v w ∧ V w lab loc z v := by
  have hk := tkind_ok hT t
  unfold capA at h
  split at h
  · split at h <;> first | (cases h; done) | cases h
    rename_i hk'; rw [hk'] at hk
    rw [hx.inv_nils]
    exact ⟨_, by simp [Builtin.cap_, run_underlying hk]; rfl, V.int _ _⟩
  · split at h <;> first | (cases h; done) | cases h
    rename_i hk'; rw [hk'] at hk
    obtain ⟨a, rfl⟩ := hx.inv_zsl
    exact ⟨_, by simp [Builtin.cap_, run_underlying hk]; rfl, V.int _ _⟩
  · cases h
end snd

end Go.AM
namespace Go.AM

def intOf : Option AV → Int → Option Int
  | none, d => some d
  | some (.int _ n), _ => some n
  | _, _ => none

def sliceA (ti : TI) (nodes : Nat → Option Node) (t : Nat) (x : AV) (lo hi mx : Option AV) : Option (AV × Prop) :=
  match mx with
  | none => match x with
    | .str s => match tkind ti t, intOf lo 0, intOf hi s.length with
      | .str, some l, some h => some (.str ((s.take h.toNat).drop l.toNat), 0 ≤ l ∧ l ≤ h ∧ h ≤ s.length)
      | _, _, _ => none
    | .isl es c => match esize ti t, intOf lo 0, intOf hi c.length with
      | some es', some l, some h => if es' = es then some (.isl es ((c.take h.toNat).drop l.toNat), 0 ≤ l ∧ l ≤ h ∧ h ≤ c.length) else none
      | _, _, _ => none
    | .nils => match esize ti t, intOf lo 0, intOf hi (0 : Nat) with
      | some _, some l, some h => some (.nils, 0 ≤ l ∧ l ≤ h ∧ h ≤ (0 : Nat))
      | _, _, _ => none
    | .zsl => match esize ti t, intOf lo 0, intOf hi (0 : Nat) with
      | some _, some l, some h => some (.zsl, 0 ≤ l ∧ l ≤ h ∧ h ≤ (0 : Nat))
      | _, _, _ => none
    | .sl id es i len => match nodes id, esize ti t, intOf lo 0, intOf hi len with
      | some _, some es', some l, some h => if es' = es then some (.sl id es (i + l.toNat) (h.toNat - l.toNat), 0 ≤ l ∧ l ≤ h ∧ h ≤ len) else none
      | _, _, _, _ => none
    | _ => none
  | some (.int _ m) => match esize ti t, intOf lo 0, hi with
    | some _, some l, some (.int _ h) => match x with
      | .nils => some (.nils, l = 0 ∧ h = 0 ∧ m = 0)
      | .isl _ _ | .zsl => some (.zsl, l = 0 ∧ h = 0 ∧ m = 0)
      | .sl id _ _ _ => match nodes id with
        | some _ => some (.zsl, l = 0 ∧ h = 0 ∧ m = 0)
        | none => none
      | _ => none
    | _, _, _ => none
  | _ => none

def convA (ti : TI) (nodes : Nat → Option Node) (src dst : Nat) : AV → Option (AV × Prop)
  | .int _ n => match tkind ti src, tkind ti dst with
    | .int _, .int k => some (.int k (k.wrap n), True)
    | _, _ => none
  | .isl es l => match tkind ti src, tkind ti dst with
    | .slice e, .str => match tkind ti e, decB l with
      | .int .u8, some s => if es = 1 then some (.str s, True) else none
      | _, _ => none
    | _, _ => none
  | .nils | .zsl => match tkind ti src, tkind ti dst with
    | .slice e, .str => match tkind ti e with
      | .int .u8 => some (.str [], True)
      | _ => none
    | _, _ => none
  | .sl id es i len => match nodes id, tkind ti src, tkind ti dst with
    | some nd, .slice e, .str => match tkind ti e, decB ((nd.l.drop i).take len) with
      | .int .u8, some s => if es = 1 ∧ nd.es = 1 then some (.str s, i + len ≤ nd.l.length) else none
      | _, _ => none
    | _, _, _ => none
  | _ => none

def AV.cellsA : AV → List AV
  | .agg cs => cs
  | x => [x]

def okCell (nodes : Nat → Option Node) (x : AV) : Bool := x.plain && x.ids.all fun i => (nodes i).isSome

def isCells (nodes : Nat → Option Node) : AV → Bool
  | .agg _ => true
  | x => okCell nodes x

def fillA (nodes : Nat → Option Node) (place : Nat → Option (Nat × Nat)) : List AV → List (Nat × AV) → Option (List AV)
  | cells, [] => some cells
  | cells, (i, v) :: rest => match place i with
    | none => none
    | some (off, size) =>
      if isCells nodes v = true ∧ v.cellsA.length = size ∧ off + size ≤ cells.length then
        fillA nodes place (cells.take off ++ (v.cellsA ++ cells.drop (off + size))) rest
      else none

def placeOf (ti : TI) (t i : Nat) : Option (Nat × Nat) :=
  match tkind ti t with
  | .struct fs => match fs[i]? with
    | some (o, ft) => match ti ft with
      | some fi => some (o, fi.size)
      | none => none
    | none => none
  | _ => none

/-- all of a struct's fields are in the table -/
def allFields (ti : TI) (t : Nat) : Bool :=
  match tkind ti t with
  | .struct fs => fs.all fun p => (ti p.2).isSome
  | _ => false

def buildA (ti : TI) (nodes : Nat → Option Node) (t : Nat) (parts : List (Nat × AV)) : Option (AV × Prop) :=
  match ti t with
  | some i => match i.zero with
    | some z => if allFields ti t = true then
        match fillA nodes (placeOf ti t) z parts with
        | some cells => some (.agg cells, True)
        | none => none
      else none
    | none => none
  | none => none

def minmaxA (isMax : Bool) : AV → AV → Option (AV × Prop)
  | .int k x, .int k' y => if k = k' then some (.int k (if isMax then (if y > x then y else x) else (if y < x then y else x)), True) else none
  | _, _ => none

section snd
variable {P : Program} {ti : TI} (hT : TOk P ti) {w : World} {lab : Labs} {loc : Locs} {nodes : Nat → Option Node}
  (hn : ∀ id nd, nodes id = some nd → ∃ b base, loc id = some (b, base) ∧ ObjOk w lab loc id nd b base)

include hT in
theorem esize_sound {t es : Nat} (he : esize ti t = some es) : ∃ e, P.underlying t = some (.slice e) ∧ ∀ w, (sizeOf e).run P w = .ok es w := by
  unfold esize at he
  have hk := tkind_ok hT t
  split at he
  · rename_i e hk'
    rw [hk'] at hk
    cases hi : ti e with
    | none => simp [hi] at he
    | some i => simp [hi] at he; subst he; exact ⟨e, hk, fun w => t_sizeOf hT hi w⟩
  · cases he

theorem run_bound (k : IntKind) (i : Int) (y : Nat) (c : BoundsCode) (h0 : 0 ≤ i) (h1 : i ≤ y) : (Instr.sliceBound (.int k i) y c).run P w = .ok i.toNat w := by
  simp [Instr.sliceBound, asIntOf, h0, h1]

/-- an optional operand and its value -/
def OptV (w : World) (lab : Labs) (loc : Locs) (x : Option AV) (v : Option Value) : Prop :=
  (x = none ∧ v = none) ∨ ∃ y u, x = some y ∧ v = some u ∧ V w lab loc y u

theorem OptV.int {x : Option AV} {v : Option Value} (h : OptV w lab loc x v) {d n : Int} (hi : intOf x d = some n) :
    (v = none ∧ n = d) ∨ ∃ k, v = some (.int k n) := by
  rcases h with ⟨rfl, rfl⟩ | ⟨y, u, rfl, rfl, hv⟩
  · simp [intOf] at hi; exact Or.inl ⟨rfl, hi.symm⟩
  · cases y <;> simp [intOf] at hi
    subst hi
    exact Or.inr ⟨_, by rw [hv.inv_int]⟩

theorem run_bounds2 {isS : Bool} {len cap : Nat} {lo hi : Option AV} {vlo vhi : Option Value} {l h : Int} (hlo : OptV w lab loc lo vlo) (hhi : OptV w lab loc hi vhi)
    (hl : intOf lo 0 = some l) (hh : intOf hi len = some h) (h0 : 0 ≤ l) (h1 : l ≤ h) (h2 : h ≤ len) (h3 : len ≤ cap) :
    (Instr.sliceBounds isS len cap vlo vhi none).run P w = .ok (l.toNat, h.toNat, cap) w := by
  rcases hlo.int hl with ⟨rfl, rfl⟩ | ⟨k, rfl⟩ <;> rcases hhi.int hh with ⟨rfl, rfl⟩ | ⟨k', rfl⟩
  · simp [Instr.sliceBounds]
  · simp [Instr.sliceBounds, run_bound k' h cap _ (by omega) (by omega)]
  · simp [Instr.sliceBounds, run_bound k l len _ h0 (by omega)]
  · simp [Instr.sliceBounds, run_bound k' h cap _ (by omega) (by omega), run_bound k l h.toNat _ h0 (by omega)]

theorem run_bounds3 {isS : Bool} {len cap : Nat} {lo : Option AV} {vlo : Option Value} {k1 k2 : IntKind} {l : Int} (hlo : OptV w lab loc lo vlo)
    (hl : intOf lo 0 = some l) (h0 : l = 0) :
    (Instr.sliceBounds isS len cap vlo (some (.int k1 0)) (some (.int k2 0))).run P w = .ok (0, 0, 0) w := by
  subst h0
  rcases hlo.int hl with ⟨rfl, _⟩ | ⟨k, rfl⟩
  · simp [Instr.sliceBounds, run_bound k2 0 cap _ (by omega) (by omega), run_bound k1 0 0 _ (by omega) (by omega)]
  · simp [Instr.sliceBounds, run_bound k2 0 cap _ (by omega) (by omega), run_bound k1 0 0 _ (by omega) (by omega), run_bound k 0 0 _ (by omega) (by omega)]

theorem toArray_extract (s : List UInt8) (l h : Nat) (hl : l ≤ h) : (⟨s.toArray⟩ : ByteArray).extract l h = ⟨((s.take h).drop l).toArray⟩ := by
  apply ByteArray.ext
  rw [ByteArray.data_extract]
  simp [List.drop_take]

include hT in
/-- a slice of a slice: what the model answers -/
theorem run_slice2 {t es : Nat} (he : esize ti t = some es) {a : Option Addr} {len cap : Nat} {lo hi : Option AV} {vlo vhi : Option Value} {l h : Int}
    (hlo : OptV w lab loc lo vlo) (hhi : OptV w lab loc hi vhi) (hl : intOf lo 0 = some l) (hh : intOf hi len = some h) (h0 : 0 ≤ l) (h1 : l ≤ h) (h2 : h ≤ len) (h3 : len ≤ cap) :
    (Instr.sliceAt t (.slice a len cap) vlo vhi none).run P w = .ok (.slice (if cap = l.toNat then a else a.map (·.add (l.toNat * es))) (h.toNat - l.toNat) (cap - l.toNat)) w := by
  obtain ⟨e, hu, hs⟩ := esize_sound hT he
  have hb := run_bounds2 (P := P) (isS := true) hlo hhi hl hh h0 h1 h2 h3
  simp only [Instr.sliceAt, Instr.slice, Sem.run_bind, run_underlying (P := P) hu, Result.andThen_ok, hb, hs]
  rfl

include hT in
theorem run_slice3 {t es : Nat} (he : esize ti t = some es) {a : Option Addr} {len cap : Nat} {lo : Option AV} {vlo : Option Value} {k1 k2 : IntKind} {l : Int}
    (hlo : OptV w lab loc lo vlo) (hl : intOf lo 0 = some l) (h0 : l = 0) :
    (Instr.sliceAt t (.slice a len cap) vlo (some (.int k1 0)) (some (.int k2 0))).run P w = .ok (.slice (if 0 = 0 then a else a.map (·.add (0 * es))) (0 - 0) (0 - 0)) w := by
  obtain ⟨e, hu, hs⟩ := esize_sound hT he
  have hb := run_bounds3 (P := P) (isS := true) (len := len) (cap := cap) (k1 := k1) (k2 := k2) hlo hl h0
  simp only [Instr.sliceAt, Instr.slice, Sem.run_bind, run_underlying (P := P) hu, Result.andThen_ok, hb, hs]
  rfl

include hT hn in
theorem sliceA_sound {t : Nat} {x z : AV} {lo hi mx : Option AV} {ok : Prop} (h : sliceA ti nodes t x lo hi mx = some (z, ok)) (hok : ok) {vx : Value} {vlo vhi vmx : Option Value}
    (hx : V w lab loc x vx) (hlo : OptV w lab loc lo vlo) (hhi : OptV w lab loc hi vhi) (hmx : OptV w lab loc mx vmx) :
    ∃ v, (Instr.sliceAt t vx vlo vhi vmx).run P w = .ok v w ∧ V w lab loc z v := by
  unfold sliceA at h
  split at h
  · have hm : vmx = none := by rcases hmx with ⟨_, h⟩ | ⟨_, _, h, _⟩ <;> first | exact h | cases h
    subst hm
    split at h
    · rename_i s
      have hk := tkind_ok hT t
      split at h <;> first | (cases h; done) | cases h
      rename_i l h' hk' hl hh
      rw [hk'] at hk
      obtain ⟨h0, h1, h2⟩ := hok
      rw [hx.inv_str]
      have hz : (⟨s.toArray⟩ : ByteArray).size = s.length := by simp [ByteArray.size]
      have hb := run_bounds2 (P := P) (isS := false) (len := s.length) (cap := s.length) hlo hhi hl hh h0 h1 h2 (Nat.le_refl _)
      refine ⟨.string ((⟨s.toArray⟩ : ByteArray).extract l.toNat h'.toNat), ?_, ?_⟩
      · simp only [Instr.sliceAt, Instr.slice, Sem.run_bind, run_underlying (P := P) hk, Result.andThen_ok, Option.isSome_none, Bool.false_eq_true, if_false, hz, hb]
        rfl
      · rw [toArray_extract _ _ _ (by omega)]; exact V.str _
    · rename_i es c
      split at h <;> first | (cases h; done) | skip
      rename_i es' l h' he hl hh
      split at h <;> first | (cases h; done) | cases h
      rename_i hes
      subst hes
      obtain ⟨h0, h1, h2⟩ := hok
      cases hx.inv_isl with
      | esl _ a cap =>
        have hl0 : l.toNat = 0 := by simp at h2; omega
        have hh0 : h'.toNat = 0 := by simp at h2; omega
        refine ⟨_, run_slice2 hT he (len := 0) hlo hhi hl hh h0 h1 h2 (Nat.zero_le _), ?_⟩
        rw [hl0, hh0]
        simp only [Option.map_some, List.take_nil, List.drop_nil]
        split
        · exact .imm _ _ (.esl _ _ _)
        · exact .imm _ _ (.esl _ _ _)
      | nsl =>
        have hl0 : l.toNat = 0 := by simp at h2; omega
        have hh0 : h'.toNat = 0 := by simp at h2; omega
        refine ⟨_, run_slice2 hT he (len := 0) (cap := 0) hlo hhi hl hh h0 h1 h2 (Nat.zero_le _), ?_⟩
        rw [hl0, hh0]
        exact .imm _ _ (.nsl _)
      | isl _ _ b off cap vals hb hsz hc hes hp hv hr =>
        refine ⟨_, run_slice2 hT he hlo hhi hl hh h0 h1 h2 hc, ?_⟩
        have hlen : ((c.take h'.toNat).drop l.toNat).length = h'.toNat - l.toNat := by simp; omega
        simp only [Option.map_some, addr_add]
        by_cases hz : h'.toNat - l.toNat = 0
        · have : (c.take h'.toNat).drop l.toNat = [] := List.eq_nil_of_length_eq_zero (by omega)
          rw [this, hz]
          split
          · exact .imm _ _ (.esl _ _ _)
          · exact .imm _ _ (.esl _ _ _)
        · rw [if_neg (by omega)]
          have hres := I.isl (w := w) (lab := lab) es' ((c.take h'.toNat).drop l.toNat) b (off + l.toNat * es') (cap - l.toNat) (fun i j => vals (l.toNat + i) j) hb hsz (by omega)
            (fun x hx => hes x (List.mem_of_mem_take (List.mem_of_mem_drop hx))) (fun x hx => hp x (List.mem_of_mem_take (List.mem_of_mem_drop hx)))
            (fun i j hi hj => by
              have := hv (l.toNat + i) j (by omega) hj
              rw [Nat.add_mul, ← Nat.add_assoc] at this; exact this)
            (fun i cc j x hi hj => by
              rw [List.getElem?_drop, List.getElem?_take] at hi
              split at hi <;> first | (cases hi; done) | skip
              exact hr _ cc j x hi hj)
          rw [hlen] at hres
          exact .imm _ _ hres
    · split at h <;> first | (cases h; done) | cases h
      rename_i es' l h' he hl hh
      obtain ⟨h0, h1, h2⟩ := hok
      have hl0 : l.toNat = 0 := by omega
      have hh0 : h'.toNat = 0 := by omega
      rw [hx.inv_nils]
      refine ⟨_, run_slice2 hT he (len := 0) (cap := 0) hlo hhi hl hh h0 h1 h2 (Nat.zero_le _), ?_⟩
      rw [hl0, hh0]
      exact .imm _ _ .nils
    · split at h <;> first | (cases h; done) | cases h
      rename_i es' l h' he hl hh
      obtain ⟨h0, h1, h2⟩ := hok
      have hl0 : l.toNat = 0 := by omega
      have hh0 : h'.toNat = 0 := by omega
      obtain ⟨a, rfl⟩ := hx.inv_zsl
      refine ⟨_, run_slice2 hT he (len := 0) (cap := 0) hlo hhi hl hh h0 h1 h2 (Nat.zero_le _), ?_⟩
      rw [hl0, hh0]
      exact .imm _ _ (.zsl _)
    · rename_i id es i len
      split at h <;> first | (cases h; done) | skip
      rename_i nd es' l h' hnd he hl hh
      split at h <;> first | (cases h; done) | cases h
      rename_i hes
      subst hes
      obtain ⟨h0, h1, h2⟩ := hok
      obtain ⟨b, base, hlc, _⟩ := hn id nd hnd
      obtain ⟨a, cap, rfl, h3, h4, h5⟩ := hx.inv_sl hlc
      refine ⟨_, run_slice2 hT he hlo hhi hl hh h0 h1 h2 h3, ?_⟩
      have key : ∀ a', (cap - l.toNat = 0 ∧ i + l.toNat ≠ 0 ∨ a' = (⟨b, base + (i + l.toNat) * es', none⟩ : Addr)) → V w lab loc (.sl id es' (i + l.toNat) (h'.toNat - l.toNat)) (.slice (some a') (h'.toNat - l.toNat) (cap - l.toNat)) := by
        intro a' ha'
        refine .sl _ _ _ _ _ fun b' base' hl' => ?_
        rw [hlc] at hl'; cases hl'
        exact ⟨a', _, rfl, by omega, ha', by rw [show i + l.toNat + (cap - l.toNat) = i + cap by omega]; exact h5⟩
      split
      · refine key a ?_
        by_cases hl0 : l.toNat = 0
        · rcases h4 with h4 | h4
          · exact Or.inl (by omega)
          · right; rw [h4, hl0, Nat.add_zero]
        · exact Or.inl (by omega)
      · simp only [Option.map_some]
        refine key _ ?_
        rcases h4 with h4 | h4
        · exact Or.inl (by omega)
        · right; rw [h4, addr_add, Nat.add_mul, Nat.add_assoc]
    · cases h
  · rename_i k m
    rcases hmx with ⟨h, _⟩ | ⟨_, u, h, rfl, hu'⟩
    · cases h
    cases h
    rw [hu'.inv_int]
    split at h <;> first | (cases h; done) | skip
    rename_i es' l k' h' he hl
    rcases hhi with ⟨h, _⟩ | ⟨_, u2, h, rfl, hu2⟩
    · cases h
    cases h
    rw [hu2.inv_int]
    split at h
    · cases h
      obtain ⟨h0, rfl, rfl⟩ := hok
      rw [hx.inv_nils]
      exact ⟨_, run_slice3 hT he hlo hl h0, .imm _ _ .nils⟩
    · cases h
      obtain ⟨h0, rfl, rfl⟩ := hok
      cases hx.inv_isl with
      | esl _ a cap => exact ⟨_, run_slice3 hT he hlo hl h0, .imm _ _ (.zsl _)⟩
      | nsl => exact ⟨_, run_slice3 hT he hlo hl h0, .imm _ _ (.zsl _)⟩
      | isl => exact ⟨_, run_slice3 hT he hlo hl h0, .imm _ _ (.zsl _)⟩
    · cases h
      obtain ⟨h0, rfl, rfl⟩ := hok
      obtain ⟨a, rfl⟩ := hx.inv_zsl
      exact ⟨_, run_slice3 hT he hlo hl h0, .imm _ _ (.zsl _)⟩
    · split at h <;> first | (cases h; done) | cases h
      rename_i nd hnd
      obtain ⟨h0, rfl, rfl⟩ := hok
      obtain ⟨b, base, hlc, _⟩ := hn _ nd hnd
      obtain ⟨a, cap, rfl, _⟩ := hx.inv_sl hlc
      exact ⟨_, run_slice3 hT he hlo hl h0, .imm _ _ (.zsl _)⟩
    · cases h
  · cases h

theorem byteOfCell_some {c : List AV} {b : UInt8} (h : byteOfCell c = some b) : c = [.int .u8 b.toNat] := by
  unfold byteOfCell at h
  split at h <;> first | (cases h; done) | skip
  split at h <;> first | (cases h; done) | cases h
  rename_i n hn
  have : (UInt8.ofNat n.toNat).toNat = n.toNat := by rw [UInt8.toNat_ofNat']; omega
  rw [this]; congr 2; omega

theorem decB_some {l : List (List AV)} {s : List UInt8} (h : decB l = some s) : l = encB s := by
  unfold decB at h
  induction l generalizing s with
  | nil => simp at h; subst h; rfl
  | cons c l ih =>
    simp only [List.mapM_cons, Option.bind_eq_bind] at h
    cases hc : byteOfCell c with
    | none => simp [hc] at h
    | some b =>
      simp only [hc, Option.bind_some] at h
      cases hl : l.mapM byteOfCell with
      | none => simp [hl] at h
      | some s' =>
        simp [hl] at h
        subst h
        rw [byteOfCell_some hc, ih hl]; rfl

theorem foldl_push (s : List UInt8) (a : ByteArray) : (s.map fun b => (b.toNat : Int)).foldl (fun r n => r.push (UInt8.ofNat n.toNat)) a = ⟨(a.data.toList ++ s).toArray⟩ := by
  induction s generalizing a with
  | nil => apply ByteArray.ext; simp
  | cons b s ih =>
    simp only [List.map_cons, List.foldl_cons]
    rw [ih]
    apply ByteArray.ext
    simp

theorem run_bytes (a : Addr) (cap : Nat) (s : List UInt8) (h : ∀ j b, s[j]? = some b → w.cell? (a.add j) = some (.int .u8 b.toNat)) :
    (Conv.bytesToString (.slice (some a) s.length cap)).run P w = .ok (.string ⟨s.toArray⟩) w := by
  have hld := run_loadCells_list (P := P) w a ((s.map fun b => (b.toNat : Int)).map (Value.int .u8)) (by
    intro j v hv
    simp only [List.getElem?_map, Option.map_eq_some_iff] at hv
    obtain ⟨_, ⟨b, hb, rfl⟩, rfl⟩ := hv
    exact h j b hb)
  simp only [List.length_map] at hld
  rw [run_bytesToString w a s.length cap (s.map fun b => (b.toNat : Int)) hld, foldl_push]
  simp

include hT hn in
theorem convA_sound {src dst : Nat} {x z : AV} {ok : Prop} (h : convA ti nodes src dst x = some (z, ok)) (hok : ok) {vx : Value} (hx : V w lab loc x vx) :
    ∃ v, (convert src dst vx).run P w = .ok v w ∧ V w lab loc z v := by
  have hks := tkind_ok hT src
  have hkd := tkind_ok hT dst
  unfold convA at h
  split at h
  · split at h <;> first | (cases h; done) | cases h
    rename_i h1 h2
    rw [h1] at hks; rw [h2] at hkd
    rw [hx.inv_int]
    exact ⟨_, by simp [convert, run_underlying hks, run_underlying hkd, Conv.intToInt], V.int _ _⟩
  · split at h <;> first | (cases h; done) | skip
    rename_i es l _ _ e h1 h2
    rw [h1] at hks; rw [h2] at hkd
    have hke := tkind_ok hT e
    split at h <;> first | (cases h; done) | skip
    rename_i s h3 hd
    rw [h3] at hke
    split at h <;> first | (cases h; done) | cases h
    rename_i hes
    subst hes
    have hl := decB_some hd
    subst hl
    obtain ⟨L, hL⟩ : ∃ L, L = encB s := ⟨_, rfl⟩
    rw [← hL] at hx
    cases hx.inv_isl with
    | esl _ a cap =>
      have hs : s = [] := by cases s <;> simp [encB] at hL ⊢
      subst hs
      refine ⟨_, ?_, V.str _⟩
      rw [run_convert_bytes_string w src dst e _ _ _ hks hke hkd]
      have := run_bytes (P := P) (w := w) a cap [] (by intro j b hb; simp at hb)
      simpa using this
    | nsl =>
      have hs : s = [] := by cases s <;> simp [encB] at hL ⊢
      subst hs
      refine ⟨.string .empty, ?_, V.str []⟩
      rw [run_convert_bytes_string w src dst e _ _ _ hks hke hkd]
      simp [Conv.bytesToString]
    | isl _ _ b off cap vals hb hsz hc hes hp hv hr =>
      subst hL
      refine ⟨_, ?_, V.str _⟩
      rw [run_convert_bytes_string w src dst e _ _ _ hks hke hkd]
      have := run_bytes (P := P) (w := w) ⟨b, off, none⟩ cap s (by
        intro j x hx
        have hj : j < s.length := by rcases Nat.lt_or_ge j s.length with h | h; exact h; simp [List.getElem?_eq_none h] at hx
        have hc := hv j 0 (by simpa [encB] using hj) (by omega)
        have hi := hr j [.int .u8 x.toNat] 0 _ (by simp [encB, hx]) rfl
        rw [addr_add]
        simp only [Nat.mul_one, Nat.add_zero] at hc
        rw [hc, hi.inv_int])
      simpa [encB] using this
  · split at h <;> first | (cases h; done) | skip
    rename_i _ _ e h1 h2
    rw [h1] at hks; rw [h2] at hkd
    have hke := tkind_ok hT e
    split at h <;> first | (cases h; done) | cases h
    rename_i h3
    rw [h3] at hke
    rw [hx.inv_nils]
    refine ⟨.string .empty, ?_, V.str []⟩
    rw [run_convert_bytes_string w src dst e _ _ _ hks hke hkd]
    simp [Conv.bytesToString]
  · split at h <;> first | (cases h; done) | skip
    rename_i _ _ e h1 h2
    rw [h1] at hks; rw [h2] at hkd
    have hke := tkind_ok hT e
    split at h <;> first | (cases h; done) | cases h
    rename_i h3
    rw [h3] at hke
    obtain ⟨a, rfl⟩ := hx.inv_zsl
    refine ⟨_, ?_, V.str []⟩
    cases a with
    | none =>
      rw [run_convert_bytes_string w src dst e _ _ _ hks hke hkd]
      simp [Conv.bytesToString]
      rfl
    | some a =>
    rw [run_convert_bytes_string w src dst e _ _ _ hks hke hkd]
    have := run_bytes (P := P) (w := w) a 0 [] (by intro j b hb; simp at hb)
    simpa using this
  · split at h <;> first | (cases h; done) | skip
    rename_i id es i len _ _ _ nd e hnd h1 h2
    rw [h1] at hks; rw [h2] at hkd
    have hke := tkind_ok hT e
    split at h <;> first | (cases h; done) | skip
    rename_i s h3 hd
    rw [h3] at hke
    split at h <;> first | (cases h; done) | cases h
    rename_i hes
    obtain ⟨hes1, hes2⟩ := hes
    subst hes1
    obtain ⟨b, base, hlc, ho⟩ := hn id nd hnd
    obtain ⟨a, cap, rfl, hc1, hc2, hc3⟩ := hx.inv_sl hlc
    have hl := decB_some hd
    have hlen : s.length = len := by
      have := congrArg List.length hl
      simp [encB] at this; omega
    refine ⟨_, ?_, V.str _⟩
    rw [run_convert_bytes_string w src dst e _ _ _ hks hke hkd]
    have := run_bytes (P := P) (w := w) a cap s (by
      intro j x hsx
      have hj : j < s.length := by rcases Nat.lt_or_ge j s.length with h | h; exact h; simp [List.getElem?_eq_none h] at hsx
      have ha : a = ⟨b, base + i * 1, none⟩ := by rcases hc2 with h | h <;> first | exact h | omega
      subst ha
      have hcl : nd.l[i + j]? = some [.int .u8 x.toNat] := by
        have h4 : ((nd.l.drop i).take len)[j]? = (encB s)[j]? := by rw [hl]
        rw [List.getElem?_take, if_pos (by omega), List.getElem?_drop] at h4
        rw [h4]; simp [encB, hsx]
      obtain ⟨v, hv, hcv⟩ := ho.cells (i + j) _ 0 _ hcl rfl
      rw [addr_add]
      rw [hes2] at hv
      simp only [Nat.mul_one, Nat.add_zero] at hv
      rw [show base + i * 1 + j = base + (i + j) by omega, hv, (hcv.inv_plain rfl).inv_int])
    rw [hlen] at this
    exact this
  · cases h

theorem minmaxA_sound {m : Bool} {ats : Array TypeId} {ty : Nat} {x y z : AV} {ok : Prop} (h : minmaxA m x y = some (z, ok)) {vx vy : Value} (hx : V w lab loc x vx) (hy : V w lab loc y vy) :
    ∃ v, (if m then Builtin.max_ ats ty #[vx, vy] else Builtin.min_ ats ty #[vx, vy]).run P w = .ok v w ∧ V w lab loc z v := by
  unfold minmaxA at h
  split at h <;> first | (cases h; done) | skip
  split at h <;> first | (cases h; done) | cases h
  rename_i hk
  subst hk
  rw [hx.inv_int, hy.inv_int]
  cases m
  · exact ⟨_, by simp [Builtin.min_, Builtin.min2], V.int _ _⟩
  · exact ⟨_, by simp [Builtin.max_, Builtin.max2], V.int _ _⟩
end snd

end Go.AM
namespace Go.AM

theorem foldl_setIf (vs : List Value) : ∀ (k : Nat) (cs : Array Value) (off : Nat), off + k + vs.length ≤ cs.size →
    let r := (vs.zipIdx k).foldl (fun (cs : Array Value) (p : Value × Nat) => cs.setIfInBounds (off + p.2) p.1) cs
    r.size = cs.size ∧ ∀ m : Nat, r[m]? = if off + k ≤ m ∧ m < off + k + vs.length then vs[m - off - k]? else cs[m]? := by
  induction vs with
  | nil =>
    intro k cs off h
    refine ⟨rfl, fun m => ?_⟩
    simp only [List.zipIdx_nil, List.foldl_nil, List.length_nil]
    rw [if_neg (by omega)]
  | cons v vs ih =>
    intro k cs off h
    simp only [List.length_cons] at h
    have hh := ih (k + 1) (cs.setIfInBounds (off + k) v) off (by simp; omega)
    simp only [List.zipIdx_cons, List.foldl_cons]
    refine ⟨by rw [hh.1]; simp, fun m => ?_⟩
    rw [hh.2 m]
    simp only [List.length_cons]
    by_cases h1 : off + (k + 1) ≤ m ∧ m < off + (k + 1) + vs.length
    · rw [if_pos h1, if_pos (by omega)]
      have : m - off - k = (m - off - (k + 1)) + 1 := by omega
      rw [this, List.getElem?_cons_succ]
    · rw [if_neg h1]
      by_cases h2 : m = off + k
      · subst h2
        rw [if_pos (by omega)]
        have : off + k - off - k = 0 := by omega
        rw [this, Array.getElem?_setIfInBounds]
        rw [if_pos rfl, if_pos (by omega)]; rfl
      · rw [if_neg (by omega), Array.getElem?_setIfInBounds]
        rw [if_neg (by omega)]

/-- an array of cells and what is told of it -/
def CellsV (w : World) (lab : Labs) (loc : Locs) (xs : List AV) (c : Array Value) : Prop :=
  xs.length = c.size ∧ ∀ (j : Nat) x y, xs[j]? = some x → c[j]? = some y → V w lab loc x y

section snd
variable {P : Program} {ti : TI} (hT : TOk P ti) {w : World} {lab : Labs} {loc : Locs} {nodes : Nat → Option Node}
  (hn : ∀ id nd, nodes id = some nd → ∃ b base, loc id = some (b, base) ∧ ObjOk w lab loc id nd b base)

include hn in
theorem okCell_one {x : AV} {v : Value} (h : okCell nodes x = true) (hv : V w lab loc x v) : v.oneCell' = true := by
  unfold okCell at h
  simp only [Bool.and_eq_true, List.all_eq_true] at h
  obtain ⟨h1, h2⟩ := h
  cases hv with
  | imm _ _ hi => cases hi <;> first | rfl | (simp [AV.plain] at h1)
  | undef => simp [AV.plain] at h1
  | ptr id es i j v hh =>
    have := h2 id (by simp only [AV.ids]; exact List.mem_singleton.2 rfl)
    obtain ⟨nd, hnd⟩ := Option.isSome_iff_exists.1 this
    obtain ⟨b, base, hl, _⟩ := hn id nd hnd
    rw [hh b base hl]; rfl
  | sl id es i len v hh =>
    have := h2 id (by simp only [AV.ids]; exact List.mem_singleton.2 rfl)
    obtain ⟨nd, hnd⟩ := Option.isSome_iff_exists.1 this
    obtain ⟨b, base, hl, _⟩ := hn id nd hnd
    obtain ⟨a, cap, rfl, _⟩ := hh b base hl; rfl
  | fn => rfl
  | agg => simp [AV.plain] at h1
  | tup => simp [AV.plain] at h1
  | gate => simp [AV.plain] at h1

include hn in
/-- a value's cells -/
theorem isCells_sound {x : AV} {v : Value} (h : isCells nodes x = true) (hv : V w lab loc x v) : CellsV w lab loc x.cellsA v.cells := by
  by_cases ha : ∃ cs, x = .agg cs
  · obtain ⟨cs, rfl⟩ := ha
    obtain ⟨vs, rfl, hl, hr⟩ := hv.inv_agg
    exact ⟨by simp [AV.cellsA, Value.cells, hl], fun j x y hx hy => hr j x y hx (by simpa [Value.cells] using hy)⟩
  · have h1 : okCell nodes x = true := by
      unfold isCells at h
      split at h
      · rename_i cs; exact absurd ⟨cs, rfl⟩ ha
      · exact h
    have h2 : x.cellsA = [x] := by
      unfold AV.cellsA
      split
      · rename_i cs; exact absurd ⟨cs, rfl⟩ ha
      · rfl
    have h3 : v.cells = #[v] := by
      have := okCell_one hn h1 hv
      cases v <;> first | rfl | (simp [Value.oneCell'] at this)
    rw [h2, h3]
    refine ⟨rfl, ?_⟩
    intro j x' y hx hy
    cases j with
    | zero => simp at hx hy; subst hx; subst hy; exact hv
    | succ j => simp at hx

include hn in
theorem fill_sound {place placeA : Nat → Option (Nat × Nat)} (hp : ∀ i o n, placeA i = some (o, n) → place i = some (o, n)) :
    ∀ (parts : List (Nat × AV)) (vparts : List (Nat × Value)) (xs out : List AV) (c : Array Value), fillA nodes placeA xs parts = some out → CellsV w lab loc xs c →
      parts.length = vparts.length → (∀ (j : Nat) p q, parts[j]? = some p → vparts[j]? = some q → p.1 = q.1 ∧ V w lab loc p.2 q.2) →
      ∃ c', Instr.fill place c vparts = some c' ∧ CellsV w lab loc out c' := by
  intro parts
  induction parts with
  | nil =>
    intro vparts xs out c h hc hl _
    have : vparts = [] := List.eq_nil_of_length_eq_zero (by simpa using hl.symm)
    subst this
    simp [fillA] at h; subst h
    exact ⟨c, rfl, hc⟩
  | cons p parts ih =>
    intro vparts xs out c h hc hl hr
    obtain ⟨i, x⟩ := p
    cases vparts with
    | nil => simp at hl
    | cons q vparts =>
      obtain ⟨i', v⟩ := q
      obtain ⟨hi, hv⟩ := hr 0 _ _ rfl rfl
      simp at hi hv; subst hi
      simp only [fillA] at h
      split at h <;> first | (cases h; done) | skip
      rename_i off size hpl
      split at h <;> first | (cases h; done) | skip
      rename_i hcond
      obtain ⟨h1, h2, h3⟩ := hcond
      have hcv := isCells_sound hn h1 hv
      have hsz : v.cells.size = size := by rw [← hcv.1, h2]
      have hfold := foldl_setIf v.cells.toList 0 c off (by simp; have := hc.1; omega)
      simp only [Nat.add_zero, Array.length_toList, Nat.sub_zero] at hfold
      have hle : v.cells.zipIdx.foldl (fun cs (x : Value × Nat) => cs.setIfInBounds (off + x.2) x.1) c = (v.cells.toList.zipIdx).foldl (fun (cs : Array Value) (x : Value × Nat) => cs.setIfInBounds (off + x.2) x.1) c := by
        rw [← Array.foldl_toList]; simp
      have hnew : CellsV w lab loc (xs.take off ++ (x.cellsA ++ xs.drop (off + size))) (v.cells.zipIdx.foldl (fun cs (x : Value × Nat) => cs.setIfInBounds (off + x.2) x.1) c) := by
        rw [hle]
        refine ⟨by rw [hfold.1]; simp [h2]; have := hc.1; omega, ?_⟩
        intro j y z hy hz
        rw [hfold.2 j] at hz
        rw [List.getElem?_append] at hy
        have hc1 := hc.1
        have htk : (xs.take off).length = off := by simp; omega
        rw [htk] at hy
        by_cases hj1 : j < off
        · rw [if_pos hj1, List.getElem?_take, if_pos hj1] at hy
          rw [if_neg (by omega)] at hz
          exact hc.2 j y z hy hz
        · rw [if_neg hj1, List.getElem?_append, h2] at hy
          by_cases hj2 : j - off < size
          · rw [if_pos hj2] at hy
            rw [if_pos (by omega)] at hz
            exact hcv.2 (j - off) y z hy (by simpa using hz)
          · rw [if_neg hj2, List.getElem?_drop] at hy
            rw [if_neg (by omega)] at hz
            rw [show off + size + (j - off - size) = j by omega] at hy
            exact hc.2 j y z hy hz
      obtain ⟨c', hc', hout⟩ := ih vparts _ out _ h hnew (by simpa using hl) (fun j p q hp hq => hr (j + 1) p q (by simpa using hp) (by simpa using hq))
      refine ⟨c', ?_, hout⟩
      simp only [Instr.fill, hp _ _ _ hpl]
      rw [if_neg]
      · exact hc'
      · have := hc.1
        simp [hsz]; omega

theorem run_mapM_list {α β : Type} (f : α → Sem β) (g : α → β) (l : List α) (h : ∀ a ∈ l, (f a).run P w = .ok (g a) w) : (l.mapM f).run P w = .ok (l.map g) w := by
  induction l with
  | nil => simp [List.mapM_nil]
  | cons a l ih =>
    have h1 := h a List.mem_cons_self
    have h2 := ih fun b hb => h b (List.mem_cons_of_mem _ hb)
    simp [List.mapM_cons, h1, h2]

theorem run_mapM_array {α β : Type} (f : α → Sem β) (g : α → β) (l : Array α) (h : ∀ a ∈ l.toList, (f a).run P w = .ok (g a) w) : (l.mapM f).run P w = .ok (l.map g) w := by
  rw [Array.mapM_eq_mapM_toList]
  simp [run_mapM_list f g l.toList h]
  apply Array.ext'; simp

theorem zero_cells {zs : List Value} {z : List AV} (h : zs.mapM ofV = some z) : zs.length = z.length ∧ ∀ (j : Nat) x y, z[j]? = some x → zs[j]? = some y → ofV y = some x := by
  induction zs generalizing z with
  | nil => simp at h; subst h; simp
  | cons v zs ih =>
    simp only [List.mapM_cons, Option.bind_eq_bind] at h
    cases hv : ofV v with
    | none => simp [hv] at h
    | some x =>
      cases hl : zs.mapM ofV with
      | none => simp [hv, hl] at h
      | some z' =>
        simp [hv, hl] at h; subst h
        obtain ⟨h1, h2⟩ := ih hl
        refine ⟨by simp [h1], ?_⟩
        intro j a b ha hb
        cases j with
        | zero => simp at ha hb; subst ha; subst hb; exact hv
        | succ j => simp at ha hb; exact h2 j a b ha hb

include hT in
theorem t_zero {t : Nat} {i : TInfo} {z : List AV} (h : ti t = some i) (hz : i.zero = some z) :
    ∃ zv : Value, (∀ w, (zeroValue t).run P w = .ok zv w) ∧ zv.cells.toList.mapM ofV = some z ∧ z.length = i.size := by
  obtain ⟨info, h1, h2, h3, h4⟩ := (hT t i h).info
  obtain ⟨zv, h5, h6, h7⟩ := h4 z hz
  exact ⟨zv, fun w => by simp [zeroValue, typeInfo, h1, h5], h6, h7⟩

theorem zero_CellsV {zs : Array Value} {z : List AV} (h : zs.toList.mapM ofV = some z) : CellsV w lab loc z zs := by
  obtain ⟨h1, h2⟩ := zero_cells h
  exact ⟨by simpa using h1.symm, fun j x y hx hy => .imm _ _ (ofV_sound (h2 j x y hx (by simpa using hy)))⟩

include hT in
theorem places {t : Nat} (ha : allFields ti t = true) : ∃ (fields : Array Field) (pl : Array (Nat × Nat)), P.underlying t = some (.struct fields) ∧
    (∀ w : World, (fields.mapM fun f => do pure (f.offset, ← sizeOf f.type) : Sem (Array (Nat × Nat))).run P w = .ok pl w) ∧ ∀ i o n, placeOf ti t i = some (o, n) → pl[i]? = some (o, n) := by
  unfold allFields at ha
  have hk := tkind_ok hT t
  split at ha <;> first | (cases ha; done) | skip
  rename_i fs hk'
  rw [hk'] at hk
  obtain ⟨fields, hu, hf⟩ := hk
  let g : Field → Nat × Nat := fun f => (f.offset, match ti f.type with | some i => i.size | none => 0)
  refine ⟨fields, fields.map g, hu, ?_, ?_⟩
  · intro w
    refine run_mapM_array _ g fields ?_
    intro f hfm
    rw [List.all_eq_true] at ha
    have := ha (f.offset, f.type) (by rw [← hf]; exact List.mem_map_of_mem hfm)
    obtain ⟨i, hi⟩ := Option.isSome_iff_exists.1 this
    simp at hi
    simp [g, hi, t_sizeOf hT hi w]
  · intro i o n hp
    unfold placeOf at hp
    rw [hk'] at hp
    simp only at hp
    split at hp <;> first | (cases hp; done) | skip
    rename_i o' ft hfi
    split at hp <;> first | (cases hp; done) | cases hp
    rename_i fi hti
    rw [← hf] at hfi
    simp only [List.getElem?_map, Option.map_eq_some_iff, Prod.mk.injEq] at hfi
    obtain ⟨fd, h1, h2, h3⟩ := hfi
    simp at h1
    simp [h1, g, h2, h3, hti]

include hT hn in
theorem buildA_sound {t : Nat} {parts : List (Nat × AV)} {vparts : List (Nat × Value)} {z : AV} {ok : Prop} (h : buildA ti nodes t parts = some (z, ok))
    (hl : parts.length = vparts.length) (hr : ∀ (j : Nat) p q, parts[j]? = some p → vparts[j]? = some q → p.1 = q.1 ∧ V w lab loc p.2 q.2) :
    ∃ v, (Instr.build t vparts.toArray).run P w = .ok v w ∧ V w lab loc z v := by
  unfold buildA at h
  split at h <;> first | (cases h; done) | skip
  rename_i i hi
  split at h <;> first | (cases h; done) | skip
  rename_i zs hz
  split at h <;> first | (cases h; done) | skip
  rename_i hall
  split at h <;> first | (cases h; done) | cases h
  rename_i cells hf
  obtain ⟨zv, hzr, hzc, _⟩ := t_zero hT hi hz
  obtain ⟨fields, pl, hu, hm, hp⟩ := places hT hall
  obtain ⟨c', hc', hcv⟩ := fill_sound hn (place := (pl[·]?)) hp parts vparts zs cells zv.cells hf (zero_CellsV hzc) hl hr
  refine ⟨.agg c', ?_, ?_⟩
  · simp only [Instr.build, Sem.run_bind, hzr, Result.andThen_ok, run_underlying (P := P) hu, hm, hc']
    rfl
  · obtain ⟨c'⟩ := c'
    exact .agg _ _ (by simpa using hcv.1) (fun j x y hx hy => hcv.2 j x y hx (by simpa using hy))
end snd

/-! ### all of them -/
def liveA (nodes : Nat → Option Node) (x : AV) : Bool := x.ids.all fun i => (nodes i).isSome

def takeOpt {α : Type} (o : Option Operand) (l : List α) : Option α × List α :=
  match o with
  | none => (none, l)
  | some _ => (l.head?, l.drop 1)

/-- append(nil, what is empty) -/
def appNilA (ti : TI) (t tx : Nat) (b x : AV) : Option (AV × Prop) :=
  match b, x with
  | .nils, .nils => match tkind ti t, tkind ti tx with
    | .slice e, .slice _ => if (ti e).isSome = true then some (.nils, True) else none
    | _, _ => none
  | .nils, .isl _ l => match tkind ti t, tkind ti tx with
    | .slice e, .slice _ => if (ti e).isSome = true ∧ l.isEmpty = true then some (.nils, True) else none
    | _, _ => none
  | _, _ => none

def evalP (ti : TI) (nodes : Nat → Option Node) (op : Op) (vs : List AV) : Option (AV × Prop) :=
  match op with
  | .move _ | .assign _ => match vs with | [x] => some (x, True) | _ => none
  | .binOp b t _ _ _ => match vs with | [x, y] => if liveA nodes x then binA ti b t x y else none | _ => none
  | .unOp u _ _ => match vs with | [x] => unA u x | _ => none
  | .index t _ _ => match vs with | [x, y] => indexA ti t x y | _ => none
  | .indexAddr t _ _ => match vs with | [x, y] => indexAddrA ti nodes t x y | _ => none
  | .fieldAddr s _ f => match vs with | [x] => fieldAddrA ti nodes s f x | _ => none
  | .field s _ f => match vs with | [x] => fieldA ti s f x | _ => none
  | .load t _ => match vs with | [x] => loadA ti nodes t x | _ => none
  | .extract _ i => match vs with | [x] => extractA i x | _ => none
  | .convert s d _ => match vs with | [x] => convA ti nodes s d x | _ => none
  | .build t parts => if vs.length = parts.size then buildA ti nodes t ((parts.toList.map (·.1)).zip vs) else none
  | .makeFunc (.func f) first caps => if first.size = 0 ∧ vs.length = caps.size then some (.fn f vs, True) else none
  | .nilCheck _ => match vs with
    | [.ip l] => some (.ip l, True)
    | [.ptr id es i j] => match nodes id with | some _ => some (.ptr id es i j, True) | none => none
    | [.fn f cs] => some (.fn f cs, True)
    | _ => none
  | .slice t _ lo hi mx => match vs with
    | x :: r => sliceA ti nodes t x (takeOpt lo r).1 (takeOpt hi (takeOpt lo r).2).1 (takeOpt mx (takeOpt hi (takeOpt lo r).2).2).1
    | _ => none
  | .call c => match c.callee with
    | .builtin .len => match vs, c.argTypes.toList with | [x], [t] => lenA ti nodes t x | _, _ => none
    | .builtin .cap => match vs, c.argTypes.toList with | [x], [t] => capA ti t x | _, _ => none
    | .builtin .max => match vs with | [x, y] => minmaxA true x y | _ => none
    | .builtin .min => match vs with | [x, y] => minmaxA false x y | _ => none
    | .builtin .append => match vs, c.argTypes.toList with | [x, y], [t, tx] => appNilA ti t tx x y | _, _ => none
    | _ => none
  | _ => none

section snd
variable {P : Program} {ti : TI} (hT : TOk P ti) {w : World} {lab : Labs} {loc : Locs} {nodes : Nat → Option Node}
  (hn : ∀ id nd, nodes id = some nd → ∃ b base, loc id = some (b, base) ∧ ObjOk w lab loc id nd b base)

/-- operands and what is told of them -/
def OpsV (w : World) (lab : Labs) (loc : Locs) (xs : List AV) (vs : List Value) : Prop :=
  xs.length = vs.length ∧ ∀ (j : Nat) x y, xs[j]? = some x → vs[j]? = some y → V w lab loc x y

theorem OpsV.one {x : AV} {vs : List Value} (h : OpsV w lab loc [x] vs) : ∃ v, vs = [v] ∧ V w lab loc x v := by
  obtain ⟨h1, h2⟩ := h
  match vs, h1 with
  | [v], _ => exact ⟨v, rfl, h2 0 _ _ rfl rfl⟩

theorem OpsV.two {x y : AV} {vs : List Value} (h : OpsV w lab loc [x, y] vs) : ∃ v u, vs = [v, u] ∧ V w lab loc x v ∧ V w lab loc y u := by
  obtain ⟨h1, h2⟩ := h
  match vs, h1 with
  | [v, u], _ => exact ⟨v, u, rfl, h2 0 _ _ rfl rfl, h2 1 _ _ rfl rfl⟩

theorem OpsV.tail {x : AV} {xs : List AV} {v : Value} {vs : List Value} (h : OpsV w lab loc (x :: xs) (v :: vs)) : V w lab loc x v ∧ OpsV w lab loc xs vs :=
  ⟨h.2 0 _ _ rfl rfl, by have := h.1; simp at this; exact this, fun j a b ha hb => h.2 (j + 1) a b (by simpa using ha) (by simpa using hb)⟩

theorem takeOpt_V {o : Option Operand} {xs : List AV} {ρ : Operand → Value} {rest : List Value} (h : OpsV w lab loc xs ((o.map ρ).toList ++ rest)) :
    OptV w lab loc (takeOpt o xs).1 (o.map ρ) ∧ OpsV w lab loc (takeOpt o xs).2 rest := by
  cases o with
  | none => exact ⟨Or.inl ⟨rfl, rfl⟩, by simpa [takeOpt] using h⟩
  | some y =>
    simp only [Option.map_some, Option.toList_some, List.singleton_append] at h
    cases xs with
    | nil => have := h.1; simp at this
    | cons x xs =>
      obtain ⟨h1, h2⟩ := h.tail
      exact ⟨Or.inr ⟨x, ρ y, rfl, rfl, h1⟩, h2⟩

include hT in
theorem appNilA_sound {t tx ty : Nat} {x y z : AV} {ok : Prop} (h : appNilA ti t tx x y = some (z, ok)) {vx vy : Value} (hx : V w lab loc x vx) (hy : V w lab loc y vy) :
    ∃ v, (Builtin.append_ #[t, tx] ty #[vx, vy]).run P w = .ok v w ∧ V w lab loc z v := by
  have hk := tkind_ok hT t
  have hkx := tkind_ok hT tx
  unfold appNilA at h
  split at h
  · split at h <;> first | (cases h; done) | skip
    rename_i e e' h1 h2
    split at h <;> first | (cases h; done) | cases h
    rename_i hs
    obtain ⟨i, hi⟩ := Option.isSome_iff_exists.1 hs
    obtain ⟨info, i1, _⟩ := (hT e i hi).info
    rw [h1] at hk; rw [h2] at hkx
    rw [hy.inv_nils]
    have hx' := hx
    rw [hx.inv_nils] at hx' ⊢
    exact ⟨_, by simp [Builtin.append_, run_underlying hk, run_underlying hkx, sizeOf, typeInfo, i1, Builtin.lenOf, Builtin.firstCells], hx'⟩
  · split at h <;> first | (cases h; done) | skip
    rename_i e e' h1 h2
    split at h <;> first | (cases h; done) | cases h
    rename_i hs
    obtain ⟨i, hi⟩ := Option.isSome_iff_exists.1 hs.1
    obtain ⟨info, i1, _⟩ := (hT e i hi).info
    rw [h1] at hk; rw [h2] at hkx
    have hl := List.isEmpty_iff.1 hs.2
    subst hl
    have hx' := hx
    rw [hx.inv_nils] at hx' ⊢
    cases hy.inv_isl <;>
      exact ⟨_, by simp [Builtin.append_, run_underlying hk, run_underlying hkx, sizeOf, typeInfo, i1, Builtin.lenOf, Builtin.firstCells, loadCells, loadCellsFrom], hx'⟩
  · cases h

include hT hn in
theorem evalP_sound {o : Oper} {ρ : Operand → Value} {vs : List AV} {z : AV} {ok : Prop} (h : evalP ti nodes o.op vs = some (z, ok)) (hok : ok)
    (hv : OpsV w lab loc vs (o.op.operands.toList.map ρ)) : ∃ v, (execOp ρ o).run P w = .ok (.value v) w ∧ V w lab loc z v := by
  have fin : ∀ {s : Sem Value}, (execOp ρ o = do pure (.value (← s))) → (∃ v, s.run P w = .ok v w ∧ V w lab loc z v) → ∃ v, (execOp ρ o).run P w = .ok (.value v) w ∧ V w lab loc z v := by
    intro s hs ⟨v, h1, h2⟩
    exact ⟨v, by rw [hs]; simp [h1], h2⟩
  unfold evalP at h
  split at h
  · rename_i x ho
    split at h <;> first | (cases h; done) | cases h
    rw [ho] at hv
    obtain ⟨v, h1, h2⟩ := hv.one
    simp [Op.operands] at h1; subst h1
    exact ⟨ρ x, by simp [execOp, ho], h2⟩
  · rename_i x ho
    split at h <;> first | (cases h; done) | cases h
    rw [ho] at hv
    obtain ⟨v, h1, h2⟩ := hv.one
    simp [Op.operands] at h1; subst h1
    exact ⟨ρ x, by simp [execOp, ho], h2⟩
  · rename_i b t x y ty ho
    split at h <;> first | (cases h; done) | skip
    split at h <;> first | (cases h; done) | skip
    rename_i hlive
    rw [ho] at hv
    obtain ⟨v, u, h1, h2, h3⟩ := hv.two
    simp [Op.operands] at h1
    obtain ⟨rfl, rfl⟩ := h1
    refine fin (s := do eqGuard b t x y (ρ x) (ρ y); binOp b t (ρ x) (ρ y)) (by simp [execOp, ho]) ?_
    refine binA_sound hT h hok h2 h3 ?_ x y
    intro i hi
    unfold liveA at hlive
    rw [List.all_eq_true] at hlive
    obtain ⟨nd, hnd⟩ := Option.isSome_iff_exists.1 (hlive i hi)
    obtain ⟨b, base, hl, _⟩ := hn i nd hnd
    exact ⟨_, hl⟩
  · rename_i u t x ho
    split at h <;> first | (cases h; done) | skip
    rw [ho] at hv
    obtain ⟨v, h1, h2⟩ := hv.one
    simp [Op.operands] at h1; subst h1
    exact fin (s := Op.unary u (ρ x)) (by simp [execOp, ho]) (unA_sound h h2)
  · rename_i t x y ho
    split at h <;> first | (cases h; done) | skip
    rw [ho] at hv
    obtain ⟨v, u, h1, h2, h3⟩ := hv.two
    simp [Op.operands] at h1
    obtain ⟨rfl, rfl⟩ := h1
    exact fin (s := Instr.index t (ρ x) (ρ y)) (by simp [execOp, ho]) (indexA_sound hT h hok h2 h3)
  · rename_i t x y ho
    split at h <;> first | (cases h; done) | skip
    rw [ho] at hv
    obtain ⟨v, u, h1, h2, h3⟩ := hv.two
    simp [Op.operands] at h1
    obtain ⟨rfl, rfl⟩ := h1
    exact fin (s := Instr.indexAt t (ρ x) (ρ y)) (by simp [execOp, ho]) (indexAddrA_sound hT hn h hok h2 h3)
  · rename_i s x f ho
    split at h <;> first | (cases h; done) | skip
    rw [ho] at hv
    obtain ⟨v, h1, h2⟩ := hv.one
    simp [Op.operands] at h1; subst h1
    exact fin (s := Instr.fieldAt s (ρ x) f) (by simp [execOp, ho]) (fieldAddrA_sound hT hn h h2)
  · rename_i s x f ho
    split at h <;> first | (cases h; done) | skip
    rw [ho] at hv
    obtain ⟨v, h1, h2⟩ := hv.one
    simp [Op.operands] at h1; subst h1
    exact fin (s := Instr.field s (ρ x) f) (by simp [execOp, ho]) (fieldA_sound hT h hok h2)
  · rename_i t x ho
    split at h <;> first | (cases h; done) | skip
    rw [ho] at hv
    obtain ⟨v, h1, h2⟩ := hv.one
    simp [Op.operands] at h1; subst h1
    exact fin (s := Instr.loadAt t (ρ x)) (by simp [execOp, ho]) (loadA_sound hT hn h hok h2)
  · rename_i x i ho
    split at h <;> first | (cases h; done) | skip
    rw [ho] at hv
    obtain ⟨v, h1, h2⟩ := hv.one
    simp [Op.operands] at h1; subst h1
    exact fin (s := Instr.extract (ρ x) i) (by simp [execOp, ho]) (extractA_sound h hok h2)
  · rename_i s d x ho
    split at h <;> first | (cases h; done) | skip
    rw [ho] at hv
    obtain ⟨v, h1, h2⟩ := hv.one
    simp [Op.operands] at h1; subst h1
    exact fin (s := convert s d (ρ x)) (by simp [execOp, ho]) (convA_sound hT hn h hok h2)
  · rename_i t parts ho
    split at h <;> first | (cases h; done) | skip
    rename_i hlen
    rw [ho] at hv
    have hops : (Op.operands (.build t parts)).toList.map ρ = parts.toList.map fun p => ρ p.2 := by simp [Op.operands]
    rw [hops] at hv
    refine fin (s := Instr.build t (parts.map fun (i, x) => (i, ρ x))) (by simp [execOp, ho]) ?_
    have := buildA_sound hT hn (vparts := parts.toList.map fun p => (p.1, ρ p.2)) h (by simp [hlen]) (by
      intro j p q hp hq
      simp only [List.getElem?_zip_eq_some, List.getElem?_map, Option.map_eq_some_iff] at hp hq
      obtain ⟨⟨a, ha, hp1⟩, hp2⟩ := hp
      obtain ⟨c, hc, rfl⟩ := hq
      rw [ha] at hc; cases hc
      exact ⟨hp1.symm, hv.2 j _ _ hp2 (by simp [ha])⟩)
    have e : (parts.toList.map fun p => (p.1, ρ p.2)).toArray = parts.map fun (i, x) => (i, ρ x) := by apply Array.ext'; simp
    rw [e] at this
    exact this
  · rename_i f first caps ho
    split at h <;> first | (cases h; done) | cases h
    rename_i hlen
    obtain ⟨h0, h1⟩ := hlen
    rw [ho] at hv
    have hf : first = #[] := Array.eq_empty_of_size_eq_zero h0
    subst hf
    simp only [Op.operands, Array.empty_append] at hv
    refine ⟨.func (.func f) #[] ⟨caps.toList.map ρ⟩, ?_, .fn f vs _ (by simp [h1]) (fun j x y hx hy => hv.2 j x y hx hy)⟩
    simp only [execOp, ho, Instr.makeFunc]
    simp
    apply Array.ext'; simp
  · rename_i x ho
    rw [ho] at hv
    split at h
    · cases h
      obtain ⟨v, h1, h2⟩ := hv.one
      simp [Op.operands] at h1; subst h1
      obtain ⟨b, off, hx⟩ : ∃ b off, ρ x = .pointer (some ⟨b, off, none⟩) := by
        have := h2.inv_ip
        generalize ρ x = u at this
        cases this
        exact ⟨_, _, rfl⟩
      exact ⟨ρ x, by simp [execOp, ho, hx], h2⟩
    · split at h <;> first | (cases h; done) | cases h
      rename_i nd hnd
      obtain ⟨v, h1, h2⟩ := hv.one
      simp [Op.operands] at h1; subst h1
      obtain ⟨b, base, hl, _⟩ := hn _ nd hnd
      have hx := h2.inv_ptr hl
      exact ⟨ρ x, by simp [execOp, ho, hx], h2⟩
    · cases h
      obtain ⟨v, h1, h2⟩ := hv.one
      simp [Op.operands] at h1; subst h1
      obtain ⟨us, hx, _⟩ := h2.inv_fn
      exact ⟨ρ x, by simp [execOp, ho, hx], h2⟩
    · cases h
  · rename_i t x lo hi mx ho
    split at h <;> first | (cases h; done) | skip
    rename_i y r
    rw [ho] at hv
    have hops : (Op.operands (.slice t x lo hi mx)).toList.map ρ = ρ x :: ((lo.map ρ).toList ++ ((hi.map ρ).toList ++ ((mx.map ρ).toList ++ []))) := by
      cases lo <;> cases hi <;> cases mx <;> simp [Op.operands]
    rw [hops] at hv
    obtain ⟨h1, h2⟩ := hv.tail
    obtain ⟨h3, h4⟩ := takeOpt_V h2
    obtain ⟨h5, h6⟩ := takeOpt_V h4
    obtain ⟨h7, _⟩ := takeOpt_V h6
    exact fin (s := Instr.sliceAt t (ρ x) (lo.map ρ) (hi.map ρ) (mx.map ρ)) (by simp [execOp, ho]) (sliceA_sound hT hn h hok h1 h3 h5 h7)
  · rename_i c ho
    rw [ho] at hv
    split at h
    · rename_i hc
      split at h <;> first | (cases h; done) | skip
      rename_i x t hat
      obtain ⟨v, h1, h2⟩ := hv.one
      have hargs : c.args.map ρ = #[v] := by
        simp [Op.operands, Call.operands, hc] at h1; apply Array.ext'; simpa using h1
      have hat' : c.argTypes = #[t] := by apply Array.ext'; simpa using hat
      obtain ⟨u, h3, h4⟩ := lenA_sound hT hn (ty := o.type) h h2
      refine ⟨u, ?_, h4⟩
      simp [execOp, ho, resolve, hc, invoke, builtin, hargs, hat', h3]
    · rename_i hc
      split at h <;> first | (cases h; done) | skip
      rename_i x t hat
      obtain ⟨v, h1, h2⟩ := hv.one
      have hargs : c.args.map ρ = #[v] := by
        simp [Op.operands, Call.operands, hc] at h1; apply Array.ext'; simpa using h1
      have hat' : c.argTypes = #[t] := by apply Array.ext'; simpa using hat
      obtain ⟨u, h3, h4⟩ := capA_sound hT (ty := o.type) h h2
      refine ⟨u, ?_, h4⟩
      simp [execOp, ho, resolve, hc, invoke, builtin, hargs, hat', h3]
    · rename_i hc
      split at h <;> first | (cases h; done) | skip
      obtain ⟨v, v2, h1, h2, h2'⟩ := hv.two
      have hargs : c.args.map ρ = #[v, v2] := by
        simp [Op.operands, Call.operands, hc] at h1; apply Array.ext'; simpa using h1
      obtain ⟨u, h3, h4⟩ := minmaxA_sound (P := P) (ats := c.argTypes) (ty := o.type) h h2 h2'
      simp at h3
      refine ⟨u, ?_, h4⟩
      simp [execOp, ho, resolve, hc, invoke, builtin, hargs, h3]
    · rename_i hc
      split at h <;> first | (cases h; done) | skip
      obtain ⟨v, v2, h1, h2, h2'⟩ := hv.two
      have hargs : c.args.map ρ = #[v, v2] := by
        simp [Op.operands, Call.operands, hc] at h1; apply Array.ext'; simpa using h1
      obtain ⟨u, h3, h4⟩ := minmaxA_sound (P := P) (ats := c.argTypes) (ty := o.type) h h2 h2'
      simp at h3
      refine ⟨u, ?_, h4⟩
      simp [execOp, ho, resolve, hc, invoke, builtin, hargs, h3]
    · rename_i hc
      split at h <;> first | (cases h; done) | skip
      rename_i x y t tx hat
      obtain ⟨v, v2, h1, h2, h2'⟩ := hv.two
      have hargs : c.args.map ρ = #[v, v2] := by
        simp [Op.operands, Call.operands, hc] at h1; apply Array.ext'; simpa using h1
      have hat' : c.argTypes = #[t, tx] := by apply Array.ext'; simpa using hat
      obtain ⟨u, h3, h4⟩ := appNilA_sound hT (ty := o.type) h h2 h2'
      refine ⟨u, ?_, h4⟩
      simp [execOp, ho, resolve, hc, invoke, builtin, hargs, hat', h3]
    · cases h
  · cases h
end snd

end Go.AM
namespace Go.AM

def wrD (dst : Option Nat) (x : AV) : List (Nat × AV) :=
  match dst with
  | some d => [(d, x)]
  | none => []

theorem look_wrD_none {dst : Option Nat} {x : AV} {s : Nat} (h : look s (wrD dst x) = none) : dst ≠ some s := by
  intro e; subst e; simp [wrD, look] at h

theorem look_wrD_some {dst : Option Nat} {x y : AV} {s : Nat} (h : look s (wrD dst x) = some y) : dst = some s ∧ y = x := by
  cases dst with
  | none => simp [wrD, look] at h
  | some d =>
    simp only [wrD, look] at h
    split at h
    · rename_i e; subst e; cases h; exact ⟨rfl, rfl⟩
    · cases h

theorem put_size (a : Act) (dst : Option Nat) (v : Value) : (a.put dst v).tmps.size = a.tmps.size := by
  cases dst <;> simp [Act.put]
theorem put_defers (a : Act) (dst : Option Nat) (v : Value) : (a.put dst v).defers = a.defers := by
  cases dst <;> rfl
theorem put_other (a : Act) {dst : Option Nat} (v : Value) {s : Nat} (h : dst ≠ some s) : (a.put dst v).tmps.getD s undef = a.tmps.getD s undef := by
  cases dst with
  | none => rfl
  | some d =>
    have hd : d ≠ s := fun e => h (by rw [e])
    simp [Act.put, Array.getD_eq_getD_getElem?, Array.getElem?_setIfInBounds, hd]
theorem put_same (a : Act) {s : Nat} (v : Value) (h : s < a.tmps.size) : (a.put (some s) v).tmps.getD s undef = v := by
  simp [Act.put, Array.getD_eq_getD_getElem?, Array.getElem?_setIfInBounds, h]

section
variable {w0 : World} {lab0 : Labs} {st : St} {a : Act} {w w' : World} {lab : Labs} {loc : Locs}

/-- what only computes; the world may have drawn -/
theorem step_pure (h : RepL w0 lab0 st a w lab loc) (e : Eff) {dst : Option Nat} {x : AV} {v : Value} (hwr : e.wr = wrD dst x) (hup : e.up = [])
    (hd : ∀ d, dst = some d → d < st.n) (hv : V w lab loc x v) (hw : w'.heap = w.heap) (ho : w'.os = w.os) (hout : w'.output = w.output) :
    RepL w0 lab0 (e.apply st) (a.put dst v) w' lab loc := by
  refine h.step e (put_size _ _ _) (by rw [put_defers]; exact h.defers) ⟨by rw [hw]; exact Nat.le_refl _, ho, hout, fun b _ _ => ⟨rfl, by rw [hw]⟩, fun b n hn => hn.same (by rw [hw])⟩ ?_ ?_ ?_ ?_ ?_ ?_ ?_
  · intro s hs
    rw [hwr] at hs
    exact put_other a v (look_wrD_none hs)
  · intro s y hs
    rw [hwr] at hs
    obtain ⟨rfl, rfl⟩ := look_wrD_some hs
    rw [put_same a v (by rw [h.size]; exact hd s rfl)]
    exact hv.mono (fun b _ hb => ⟨hb, by rw [hw]⟩) (by rw [hw]; exact Nat.le_refl _) fun id _ b base hl => ⟨hl, fun n hn => hn.same (by rw [hw])⟩
  · intro id nd b base _ _ hl
    exact ⟨hl, fun b' q _ _ => ⟨rfl, by rw [hw]⟩⟩
  · intro id nd hl; rw [hup] at hl; cases hl
  · intro id hl
    rw [hup] at hl
    rcases hl with hl | ⟨_, hl⟩
    · cases hl
    · exact h.dead id hl
  · intro b hb; rw [hw]; exact h.fresh b hb
  · intro id _ b base hl; exact hl

def labN (lab : Labs) (b id : Nat) : Labs := fun b' => if b' = b then some (.obj id, []) else lab b'
def locN (loc : Locs) (b base id : Nat) : Locs := fun i => if i = id then some (b, base) else loc i

/-- a new object in a new block -/
theorem step_new (h : RepL w0 lab0 st a w lab loc) (e : Eff) {dst : Option Nat} {x : AV} {v : Value} {c : Array Value} {ty : TypeId} {fz : Nat × Nat} {id : Nat} {nd : Node}
    (hwr : e.wr = wrD dst x) (hup : e.up = [(id, some nd)]) (hd : ∀ d, dst = some d → d < st.n)
    (hw : w'.heap = w.heap.push (.cells c ty fz)) (ho : w'.os = w.os) (hout : w'.output = w.output) (hfz : ∀ o, o < c.size → ¬ (fz.1 ≤ o ∧ o < fz.2))
    (hni : id ∉ st.ids) (hnn : id ∉ nd.ids) (hid : st.obj id = none)
    (hes : ∀ cc ∈ nd.l, cc.length = nd.es) (hsz : nd.l.length * nd.es ≤ c.size)
    (hcells : ∀ (i : Nat) cc (j : Nat) y, nd.l[i]? = some cc → cc[j]? = some y → ∃ u, c[i * nd.es + j]? = some u ∧ V w lab loc y u)
    (hv : Blk w' w.heap.size c.size → V w' (labN lab w.heap.size id) (locN loc w.heap.size 0 id) x v) :
    RepL w0 lab0 (e.apply st) (a.put dst v) w' (labN lab w.heap.size id) (locN loc w.heap.size 0 id) := by
  have hold : ∀ b, b < w.heap.size → w'.heap[b]? = w.heap[b]? := by
    intro b hb; rw [hw, Array.getElem?_push, if_neg (by omega)]
  have hnew : w'.heap[w.heap.size]? = some (.cells c ty fz) := by rw [hw]; simp
  have hblk : Blk w' w.heap.size c.size := ⟨c, ty, fz, hnew, Nat.le_refl _, hfz⟩
  have hz : w.heap.size ≤ w'.heap.size := by rw [hw]; simp
  have hlab : ∀ b, b < w.heap.size → labN lab w.heap.size id b = lab b := by intro b hb; simp [labN]; omega
  have hext : Ext lab w (labN lab w.heap.size id) w' := ⟨hz, ho, hout, fun b hb _ => ⟨hlab b hb, hold b hb⟩, fun b n hn => hn.same (hold b hn.lt)⟩
  have hlocid : loc id = none := h.dead id hid
  have hlx : ∀ i b base, i ≠ id → locN loc w.heap.size 0 id i = some (b, base) → loc i = some (b, base) := by
    intro i b base hi hl; simp only [locN, if_neg hi] at hl; exact hl
  refine h.step e (put_size _ _ _) (by rw [put_defers]; exact h.defers) hext ?_ ?_ ?_ ?_ ?_ ?_ ?_
  · intro s hs
    rw [hwr] at hs
    exact put_other a v (look_wrD_none hs)
  · intro s y hs
    rw [hwr] at hs
    obtain ⟨rfl, rfl⟩ := look_wrD_some hs
    rw [put_same a v (by rw [h.size]; exact hd s rfl)]
    exact hv hblk
  · intro i nd' b base hi hl hb
    rw [hup] at hl
    have hne : i ≠ id := by intro e; subst e; simp [look] at hl
    refine ⟨by simp only [locN, if_neg hne]; exact hb, fun b' q hb' _ => ⟨hlab b' hb', hold b' hb'⟩⟩
  · intro i nd' hl
    rw [hup] at hl
    simp only [look] at hl
    split at hl <;> first | (cases hl; done) | skip
    rename_i hi
    subst hi
    cases hl
    refine ⟨w.heap.size, 0, by simp [locN], ?_, hblk.le (by omega), hes, ?_⟩
    · simp [labN]
    · intro k cc j y hk hj
      obtain ⟨u, hu, huv⟩ := hcells k cc j y hk hj
      refine ⟨u, ?_, Or.inl ?_⟩
      · simp only [World.cell?, hnew, Nat.zero_add]
        simpa using hu
      · refine huv.mono (fun b hb hl => ⟨by rw [hlab b hb]; exact hl, hold b hb⟩) hz fun i' hi' b base hl => ?_
        have hne : i' ≠ i := by rintro rfl; exact hnn (ids_of_cell hk hj hi')
        exact ⟨hlx i' b base hne hl, fun n hn => hn.same (hold b hn.lt)⟩
  · intro i hi
    rw [hup] at hi
    simp only [look] at hi
    by_cases hne : i = id
    · subst hne
      rcases hi with hi | ⟨hi, _⟩ <;> simp at hi
    · simp only [locN, if_neg hne]
      rcases hi with hi | ⟨_, hi⟩
      · simp [hne] at hi
      · exact h.dead i hi
  · intro b hb
    simp only [labN] at hb
    rw [hw]; simp
    split at hb
    · omega
    · have := h.fresh b hb; omega
  · intro i hi b base hl
    exact hlx i b base (fun e => hni (e ▸ hi)) hl
end

end Go.AM
namespace Go.AM

/-- a row of cells and what is told of it -/
def Row (w : World) (lab : Labs) (loc : Locs) (l : List (List AV)) (es : Nat) (news : List Value) : Prop :=
  ∀ (i : Nat) c (j : Nat) y, l[i]? = some c → c[j]? = some y → ∃ u, news[i * es + j]? = some u ∧ V w lab loc y u

theorem div_row {i j es : Nat} (h : j < es) : (i * es + j) / es = i ∧ (i * es + j) % es = j := by
  have h0 : 0 < es := by omega
  constructor
  · rw [Nat.add_comm, Nat.add_mul_div_right _ _ h0, Nat.div_eq_of_lt h]; omega
  · rw [Nat.add_comm, Nat.add_mul_mod_self_right, Nat.mod_eq_of_lt h]

theorem row_lt {k n es : Nat} (h : k < n * es) : k / es < n ∧ k % es < es ∧ (k / es) * es + k % es = k := by
  have h0 : 0 < es := by rcases Nat.eq_zero_or_pos es with h | h <;> simp_all
  exact ⟨Nat.div_lt_of_lt_mul (by rw [Nat.mul_comm]; exact h), Nat.mod_lt _ h0, Nat.div_add_mod' k es⟩

def elemsA (ti : TI) (nodes : Nat → Option Node) (tx es : Nat) : AV → Option (List (List AV) × Prop)
  | .isl es' l => match tkind ti tx with
    | .slice _ => if es' = es then some (l, True) else none
    | _ => none
  | .nils | .zsl => match tkind ti tx with
    | .slice _ => some ([], True)
    | _ => none
  | .sl id es' i len => match tkind ti tx, nodes id with
    | .slice _, some nd => if es' = es ∧ nd.es = es then some ((nd.l.drop i).take len, i + len ≤ nd.l.length ∧ ∀ c ∈ (nd.l.drop i).take len, ∀ x ∈ c, okCell nodes x = true) else none
    | _, _ => none
  | .str s => match tkind ti tx with
    | .str => if es = 1 then some (encB s, True) else none
    | _ => none
  | _ => none

/-- where the ids of what is made come from -/
def IdsFrom (nodes : Nat → Option Node) (vs : List AV) (k : Nat) : Prop := (∃ x ∈ vs, k ∈ x.ids) ∨ ∃ id nd, nodes id = some nd ∧ k ∈ nd.ids

theorem mem_idsL' {l : List AV} {k : Nat} (h : k ∈ idsL l) : ∃ x ∈ l, k ∈ x.ids := by
  induction l with
  | nil => simp [idsL] at h
  | cons x l ih =>
    simp only [idsL, List.mem_append] at h
    rcases h with h | h
    · exact ⟨x, List.mem_cons_self, h⟩
    · obtain ⟨y, hy, hk⟩ := ih h; exact ⟨y, List.mem_cons_of_mem _ hy, hk⟩

section snd
variable {P : Program} {ti : TI} (hT : TOk P ti) {w : World} {lab : Labs} {loc : Locs} {nodes : Nat → Option Node}
  (hn : ∀ id nd, nodes id = some nd → ∃ b base, loc id = some (b, base) ∧ ObjOk w lab loc id nd b base)

theorem I.one {x : AV} {v : Value} (h : I w lab x v) (hp : x.plain = true) : v.oneCell' = true := by
  cases h <;> first | rfl | (simp [AV.plain] at hp)

theorem src_row {tx e' es : Nat} (hk : P.underlying tx = some (.slice e')) (a : Addr) (l : List (List AV)) (cap : Nat) (f : Nat → Value) (hes : ∀ c ∈ l, c.length = es)
    (hf : ∀ (i : Nat) c (j : Nat) y, l[i]? = some c → c[j]? = some y → w.cell? (a.add (i * es + j)) = some (f (i * es + j)) ∧ V w lab loc y (f (i * es + j)) ∧ (f (i * es + j)).oneCell' = true) :
    ∃ news, Src P es tx (.slice (some a) l.length cap) l.length news w ∧ Row w lab loc l es news := by
  have hget : ∀ k, k < l.length * es → ∃ c y, l[k / es]? = some c ∧ c[k % es]? = some y ∧ (k / es) * es + k % es = k := by
    intro k hk
    obtain ⟨h1, h2, h3⟩ := row_lt hk
    have hc : l[k / es]? = some l[k / es] := List.getElem?_eq_getElem h1
    have hl : (l[k / es]).length = es := hes _ (List.getElem_mem h1)
    exact ⟨_, _, hc, List.getElem?_eq_getElem (by rw [hl]; exact h2), h3⟩
  refine ⟨(List.range (l.length * es)).map f, ?_, ?_⟩
  · refine Src.ofSlice w hk a l.length cap _ (by simp) ?_ ?_
    · intro k u hu
      have hlt : k < l.length * es := by
        have := (List.getElem?_eq_some_iff.1 hu).1
        simpa using this
      have hu' : f k = u := by simpa [hlt] using hu
      subst hu'
      obtain ⟨c, y, h1, h2, h3⟩ := hget k hlt
      have := (hf _ c _ y h1 h2).1
      rw [h3] at this; exact this
    · intro u hu
      obtain ⟨k, hk', rfl⟩ := List.mem_map.1 hu
      obtain ⟨c, y, h1, h2, h3⟩ := hget k (List.mem_range.1 hk')
      have := (hf _ c _ y h1 h2).2.2
      rw [h3] at this; exact this
  · intro i c j y hi hj
    have hil : i < l.length := by rcases Nat.lt_or_ge i l.length with h | h; exact h; simp [List.getElem?_eq_none h] at hi
    have hjl : j < es := by
      have := hes c (List.mem_of_getElem? hi)
      rcases Nat.lt_or_ge j c.length with h | h
      · omega
      · simp [List.getElem?_eq_none h] at hj
    have hlt : i * es + j < l.length * es := by
      have : (i + 1) * es ≤ l.length * es := Nat.mul_le_mul_right _ hil
      rw [Nat.add_mul] at this; omega
    exact ⟨f (i * es + j), by simp [hlt], (hf i c j y hi hj).2.1⟩

include hT hn in
theorem elemsA_sound {tx es : Nat} {x : AV} {l : List (List AV)} {ok : Prop} (h : elemsA ti nodes tx es x = some (l, ok)) (hok : ok) {vx : Value} (hx : V w lab loc x vx) :
    ∃ news, Src P es tx vx l.length news w ∧ Row w lab loc l es news ∧ (∀ c ∈ l, c.length = es) ∧ ∀ c ∈ l, ∀ y ∈ c, ∀ k ∈ y.ids, ∃ id nd, nodes id = some nd ∧ k ∈ nd.ids := by
  have hk := tkind_ok hT tx
  unfold elemsA at h
  split at h
  · rename_i es' l'
    split at h <;> first | (cases h; done) | skip
    rename_i e hk'
    rw [hk'] at hk
    split at h <;> first | (cases h; done) | cases h
    rename_i he
    subst he
    cases hx.inv_isl with
    | esl _ a cap =>
      obtain ⟨news, h1, h2⟩ := src_row (P := P) (w := w) (lab := lab) (loc := loc) (es := es') hk a [] cap (fun _ => undef) (by simp) (by intro i c j y hi; simp at hi)
      exact ⟨news, h1, h2, by simp, by simp⟩
    | nsl => exact ⟨[], Src.ofNil w hk 0, by intro i c j y hi; simp at hi, by simp, by simp⟩
    | isl _ _ b off cap vals hb hsz hc hes hp hv hr =>
      obtain ⟨news, h1, h2⟩ := src_row (P := P) (w := w) (lab := lab) (loc := loc) (es := es') hk ⟨b, off, none⟩ l cap (fun k => vals (k / es') (k % es')) hes (by
        intro i c j y hi hj
        have hil : i < l.length := by rcases Nat.lt_or_ge i l.length with h | h; exact h; simp [List.getElem?_eq_none h] at hi
        have hjl : j < es' := by
          have := hes c (List.mem_of_getElem? hi)
          rcases Nat.lt_or_ge j c.length with h | h
          · omega
          · simp [List.getElem?_eq_none h] at hj
        obtain ⟨d1, d2⟩ := div_row (i := i) hjl
        have hI := hr i c j y hi hj
        refine ⟨?_, ?_, ?_⟩
        · rw [addr_add, ← Nat.add_assoc]; simp only [d1, d2]; exact hv i j hil hjl
        · simp only [d1, d2]; exact .imm _ _ hI
        · simp only [d1, d2]; exact hI.one (hp c (List.mem_of_getElem? hi) y (List.mem_of_getElem? hj)))
      refine ⟨news, h1, h2, hes, fun c hc y hy k hk => ?_⟩
      obtain ⟨i, hi⟩ := List.mem_iff_getElem?.1 hc
      obtain ⟨j, hj⟩ := List.mem_iff_getElem?.1 hy
      rw [(hr i c j y hi hj).ids] at hk; cases hk
  · split at h <;> first | (cases h; done) | cases h
    rename_i e hk'
    rw [hk'] at hk
    rw [hx.inv_nils]
    exact ⟨[], Src.ofNil w hk 0, by intro i c j y hi; simp at hi, by simp, by simp⟩
  · split at h <;> first | (cases h; done) | cases h
    rename_i e hk'
    rw [hk'] at hk
    obtain ⟨a, rfl⟩ := hx.inv_zsl
    cases a with
    | none => exact ⟨[], Src.ofNil w hk 0, by intro i c j y hi; simp at hi, by simp, by simp⟩
    | some a =>
    obtain ⟨news, h1, h2⟩ := src_row (P := P) (w := w) (lab := lab) (loc := loc) (es := es) hk a [] 0 (fun _ => undef) (by simp) (by intro i c j y hi; simp at hi)
    exact ⟨news, h1, h2, by simp, by simp⟩
  · rename_i id es' i len
    split at h <;> first | (cases h; done) | skip
    rename_i e nd hk' hnd
    rw [hk'] at hk
    split at h <;> first | (cases h; done) | cases h
    rename_i hes
    obtain ⟨rfl, hes⟩ := hes
    obtain ⟨hlen, hcl⟩ := hok
    obtain ⟨b, base, hl, ho⟩ := hn id nd hnd
    obtain ⟨a, cap, rfl, h1, h2, h3⟩ := hx.inv_sl hl
    have hll : ((nd.l.drop i).take len).length = len := by simp; omega
    have hes2 : ∀ c ∈ (nd.l.drop i).take len, c.length = es' := by
      intro c hc; rw [← hes]; exact ho.es c (List.mem_of_mem_drop (List.mem_of_mem_take hc))
    obtain ⟨news, h4, h5⟩ := src_row (P := P) (w := w) (lab := lab) (loc := loc) (es := es') hk a ((nd.l.drop i).take len) cap (fun k => (w.cell? (a.add k)).getD undef) hes2 (by
      intro k c j y hi hj
      have hil : k < len := by rcases Nat.lt_or_ge k len with h | h; exact h; simp [List.getElem?_eq_none (show ((nd.l.drop i).take len).length ≤ k by omega)] at hi
      have ha : a = ⟨b, base + i * es', none⟩ := by rcases h2 with h | h <;> first | exact h | omega
      subst ha
      have hi' : nd.l[i + k]? = some c := by
        rw [List.getElem?_take, if_pos hil, List.getElem?_drop] at hi; exact hi
      obtain ⟨v, hv, hcv⟩ := ho.cells (i + k) c j y hi' hj
      have hv' : w.cell? ((⟨b, base + i * es', none⟩ : Addr).add (k * es' + j)) = some v := by
        rw [addr_add]
        rw [hes, Nat.add_mul] at hv
        rw [show base + i * es' + (k * es' + j) = base + (i * es' + k * es') + j by omega]; exact hv
      have hok := hcl c (List.mem_of_getElem? hi) y (List.mem_of_getElem? hj)
      have hp : y.plain = true := by unfold okCell at hok; simp at hok; exact hok.1
      have hV := hcv.inv_plain hp
      simp only [hv']
      exact ⟨rfl, hV, okCell_one hn hok hV⟩)
    rw [hll] at h4
    exact ⟨news, by rw [hll]; exact h4, h5, hes2, fun c hc y hy k hk => ⟨id, nd, hnd, by
      simp only [Node.ids, List.mem_flatMap]
      exact ⟨c, List.mem_of_mem_drop (List.mem_of_mem_take hc), mem_idsL hy hk⟩⟩⟩
  · rename_i s
    split at h <;> first | (cases h; done) | skip
    rename_i hk'
    rw [hk'] at hk
    split at h <;> first | (cases h; done) | cases h
    rename_i he
    subst he
    rw [hx.inv_str]
    have hl : (encB s).length = (⟨s.toArray⟩ : ByteArray).size := by simp [encB, ByteArray.size]
    refine ⟨byteCells ⟨s.toArray⟩, by rw [hl]; exact Src.ofString w hk _, ?_, by intro c hc; unfold encB at hc; obtain ⟨_, _, rfl⟩ := List.mem_map.1 hc; rfl, by
      intro c hc y hy k hk
      unfold encB at hc
      obtain ⟨_, _, rfl⟩ := List.mem_map.1 hc
      simp at hy; subst hy; simp [AV.ids] at hk⟩
    intro i c j y hi hj
    simp only [encB, List.getElem?_map, Option.map_eq_some_iff] at hi
    obtain ⟨b, hb, rfl⟩ := hi
    cases j with
    | succ j => simp at hj
    | zero =>
      simp at hj; subst hj
      exact ⟨.int .u8 b.toNat, by simp [byteCells, hb], V.int _ _⟩
  · cases h
end snd


/-! ### new objects -/
/-- what is made of append(nil, make(.., n)...) -/
def zerosA (ti : TI) (tx id : Nat) (ei : TInfo) (b x : AV) : Option (Node × AV × Prop) :=
  match b, x, tkind ti tx, ei.zero with
  | .nils, .int _ n, .int _, some z => some (⟨ei.size, List.replicate n.toNat z⟩, .sl id ei.size 0 n.toNat, 0 < n ∧ n ≤ 9223372036854775807 ∧ n * ei.bytes ≤ 281474976710656 ∧ 0 < ei.size)
  | _, _, _, _ => none

def newA (ti : TI) (nodes : Nat → Option Node) (id : Nat) (op : Op) (vs : List AV) : Option (Node × AV × Prop) :=
  match op with
  | .alloc t => match ti t with
    | some i => match i.zero with
      | some z => if vs.length = 0 then some (⟨i.size, [z]⟩, .ptr id i.size 0 0, True) else none
      | none => none
    | none => none
  | .box _ _ => match vs with
    | [x] => if isCells nodes x then some (⟨x.cellsA.length, [x.cellsA]⟩, .ptr id x.cellsA.length 0 0, True) else none
    | _ => none
  | .buildSlice t n parts => match tkind ti t with
    | .slice e => match ti e with
      | some ei => if parts.toList.map (·.1) = List.range n ∧ vs.length = n ∧ vs.all (isCells nodes) = true ∧ vs.all (fun x => x.cellsA.length == ei.size) = true ∧ n * ei.size ≤ 16777216 ∧ ei.zero.isSome = true then
          some (⟨ei.size, vs.map AV.cellsA⟩, .sl id ei.size 0 n, True) else none
      | none => none
    | _ => none
  | .makeSlice t _ _ => match vs with
    | [.int _ l, .int _ c] => match tkind ti t with
      | .slice e => match ti e with
        | some ei => match ei.zero with
          | some z => some (⟨ei.size, List.replicate l.toNat z⟩, .sl id ei.size 0 l.toNat, 0 ≤ l ∧ l ≤ c ∧ (ei.bytes : Int) * c ≤ 281474976710656 ∧ c ≤ 9223372036854775807)
          | none => none
        | none => none
      | _ => none
    | _ => none
  | .convert s d _ => match vs with
    | [.str l] => match tkind ti s, tkind ti d with
      | .str, .slice e => match tkind ti e with
        | .int .u8 => some (⟨1, encB l⟩, .sl id 1 0 l.length, True)
        | _ => none
      | _, _ => none
    | _ => none
  | .call c => match c.callee, c.argTypes.toList, vs with
    | .builtin .append, [t, tx], [b, x] => match b with
      | .nils | .zsl => match tkind ti t with
        | .slice e => match ti e with
          | some ei => match elemsA ti nodes tx ei.size x with
            | some (l, ok) => if ei.zero.isSome then some (⟨ei.size, l⟩, .sl id ei.size 0 l.length, ok ∧ 0 < l.length ∧ l.length * ei.bytes ≤ 140737488355328 ∧ l.length ≤ 9223372036854775807) else none
            | none => zerosA ti tx id ei b x
          | none => none
        | _ => none
      | _ => none
    | _, _, _ => none
  | _ => none

/-- what the model does where an object is made -/
structure NewOk (P : Program) (w : World) (lab : Labs) (loc : Locs) (nodes : Nat → Option Node) (vs : List AV) (id : Nat) (nd : Node) (x : AV) (s : Sem Next) : Prop where
  run : ∃ (v : Value) (w' : World) (c : Array Value) (ty : TypeId) (fz : Nat × Nat), s.run P w = .ok (.value v) w' ∧ w'.heap = w.heap.push (.cells c ty fz) ∧ w'.os = w.os ∧ w'.output = w.output ∧
    (∀ o, o < c.size → ¬ (fz.1 ≤ o ∧ o < fz.2)) ∧ nd.l.length * nd.es ≤ c.size ∧ Row w lab loc nd.l nd.es c.toList ∧
    (Blk w' w.heap.size c.size → V w' (labN lab w.heap.size id) (locN loc w.heap.size 0 id) x v)
  es : ∀ cc ∈ nd.l, cc.length = nd.es
  ids : ∀ k ∈ nd.ids, IdsFrom nodes vs k

theorem cellsA_ids {x : AV} {k : Nat} (h : k ∈ idsL x.cellsA) : k ∈ x.ids := by
  unfold AV.cellsA at h
  split at h
  · simpa [AV.ids] using h
  · simpa [idsL] using h

theorem V_ptr_new {w' : World} {lab : Labs} {loc : Locs} {b id es : Nat} : V w' lab (locN loc b 0 id) (.ptr id es 0 0) (.pointer (some ⟨b, 0, none⟩)) := by
  refine .ptr _ _ _ _ _ fun b' base' hl => ?_
  simp [locN] at hl
  obtain ⟨rfl, rfl⟩ := hl
  simp

theorem V_sl_new {w' : World} {lab : Labs} {loc : Locs} {b id es len cap n : Nat} (hb : Blk w' b n) (hl : len ≤ cap) (hc : cap * es ≤ n) :
    V w' lab (locN loc b 0 id) (.sl id es 0 len) (.slice (some ⟨b, 0, none⟩) len cap) := by
  refine .sl _ _ _ _ _ fun b' base' hl' => ?_
  simp [locN] at hl'
  obtain ⟨rfl, rfl⟩ := hl'
  exact ⟨_, cap, rfl, hl, Or.inr (by simp), hb.le (by simpa using hc)⟩

section snd
variable {P : Program} {ti : TI} (hT : TOk P ti) {w : World} {lab : Labs} {loc : Locs} {nodes : Nat → Option Node}
  (hn : ∀ id nd, nodes id = some nd → ∃ b base, loc id = some (b, base) ∧ ObjOk w lab loc id nd b base)

/-- a literal's cells -/
theorem fillRow {size : Nat} : ∀ (vs : List AV) (us : List Value) (k : Nat) (c : Array Value), vs.length = us.length → (∀ (j : Nat) x y, vs[j]? = some x → us[j]? = some y → CellsV w lab loc x.cellsA y.cells ∧ x.cellsA.length = size) →
    (k + vs.length) * size ≤ c.size →
    ∃ c', Instr.fill (fun i => some (i * size, size)) c ((List.range' k vs.length).zip us) = some c' ∧ c'.size = c.size ∧ (∀ m, m < k * size → c'[m]? = c[m]?) ∧
      (∀ (i : Nat) x (j : Nat) y, vs[i]? = some x → x.cellsA[j]? = some y → ∃ u, c'[(k + i) * size + j]? = some u ∧ V w lab loc y u) := by
  intro vs
  induction vs with
  | nil =>
    intro us k c _ _ _
    exact ⟨c, by simp [Instr.fill], rfl, fun _ _ => rfl, by intro i x j y hi; simp at hi⟩
  | cons x vs ih =>
    intro us k c hl hr hc
    cases us with
    | nil => simp at hl
    | cons u us =>
      obtain ⟨hx, hs⟩ := hr 0 _ _ rfl rfl
      have hsz : u.cells.size = size := by rw [← hx.1, hs]
      simp only [List.length_cons] at hc
      have hc1 : k * size + size ≤ c.size := by
        have : (k + 1) * size ≤ (k + (vs.length + 1)) * size := Nat.mul_le_mul_right _ (by omega)
        rw [Nat.add_mul] at this; omega
      have hfold := foldl_setIf u.cells.toList 0 c (k * size) (by simp; omega)
      simp only [Nat.add_zero, Array.length_toList, Nat.sub_zero] at hfold
      have hle : u.cells.zipIdx.foldl (fun cs (x : Value × Nat) => cs.setIfInBounds (k * size + x.2) x.1) c = (u.cells.toList.zipIdx).foldl (fun (cs : Array Value) (x : Value × Nat) => cs.setIfInBounds (k * size + x.2) x.1) c := by
        rw [← Array.foldl_toList]; simp
      obtain ⟨c', h1, h2, h3, h4⟩ := ih us (k + 1) ((u.cells.toList.zipIdx).foldl (fun (cs : Array Value) (x : Value × Nat) => cs.setIfInBounds (k * size + x.2) x.1) c) (by simpa using hl)
        (fun j a b ha hb => hr (j + 1) a b (by simpa using ha) (by simpa using hb)) (by rw [hfold.1]; rw [show k + 1 + vs.length = k + (vs.length + 1) by omega]; exact hc)
      refine ⟨c', ?_, by rw [h2, hfold.1], ?_, ?_⟩
      · simp only [List.length_cons, List.range'_succ, List.zip_cons_cons, Instr.fill]
        rw [if_neg (by simp [hsz]; omega), hle]
        exact h1
      · intro m hm
        rw [h3 m (by rw [Nat.add_mul]; omega), hfold.2 m, if_neg (by omega)]
      · intro i y j z hi hj
        cases i with
        | zero =>
          simp at hi; subst hi
          have hj' : j < size := by
            rcases Nat.lt_or_ge j x.cellsA.length with h | h
            · omega
            · simp [List.getElem?_eq_none h] at hj
          have hju : j < u.cells.size := by omega
          refine ⟨u.cells[j], ?_, hx.2 j z _ hj (by simp [hju])⟩
          rw [Nat.add_zero, h3 _ (by rw [Nat.add_mul]; omega), hfold.2, if_pos (by omega)]
          simp [hju]
        | succ i =>
          simp at hi
          obtain ⟨v, hv, hV⟩ := h4 i y j z hi hj
          exact ⟨v, by rw [show k + (i + 1) = k + 1 + i by omega]; exact hv, hV⟩

include hT hn in
theorem newA_sound {o : Oper} {ρ : Operand → Value} {vs : List AV} {id : Nat} {nd : Node} {x : AV} {ok : Prop} (h : newA ti nodes id o.op vs = some (nd, x, ok)) (hok : ok)
    (hv : OpsV w lab loc vs (o.op.operands.toList.map ρ)) : NewOk P w lab loc nodes vs id nd x (execOp ρ o) := by
  unfold newA at h
  split at h
  · rename_i t ho
    split at h <;> first | (cases h; done) | skip
    rename_i i hi
    split at h <;> first | (cases h; done) | skip
    rename_i z hz
    split at h <;> first | (cases h; done) | cases h
    obtain ⟨zv, hzr, hzc, hzl⟩ := t_zero hT hi hz
    obtain ⟨h1, h2⟩ := zero_CellsV (w := w) (lab := lab) (loc := loc) hzc
    refine ⟨⟨.pointer (some ⟨w.heap.size, 0, none⟩), w.alloc (.cells zv.cells t), zv.cells, t, (0, 0), ?_, rfl, rfl, rfl, by simp, by simp; omega, ?_, fun _ => V_ptr_new⟩, by intro cc hc; simp at hc; subst hc; exact hzl, by
      intro k hk
      simp [Node.ids] at hk
      obtain ⟨y, hy, hk⟩ := mem_idsL' hk
      obtain ⟨j, hj⟩ := List.mem_iff_getElem?.1 hy
      have hj' : j < zv.cells.size := by rw [← h1]; exact (List.getElem?_eq_some_iff.1 hj).1
      have hz2 := (zero_cells hzc).2 j y zv.cells[j] hj (by simp [hj'])
      rw [(ofV_sound (w := w) (lab := lab) hz2).ids] at hk; cases hk⟩
    · simp [execOp, ho, Instr.alloc, hzr, newVar, newRow]
    · intro k c j y hk hj
      cases k with
      | succ k => simp at hk
      | zero =>
        simp at hk; subst hk
        have hj' : j < zv.cells.size := by
          rcases Nat.lt_or_ge j z.length with h | h
          · omega
          · simp [List.getElem?_eq_none h] at hj
        exact ⟨zv.cells[j], by simp [hj'], h2 j y _ hj (by simp [hj'])⟩
  · rename_i t y ho
    split at h <;> first | (cases h; done) | skip
    rename_i x'
    split at h <;> first | (cases h; done) | cases h
    rename_i hc
    rw [ho] at hv
    obtain ⟨v, h1, h2⟩ := hv.one
    simp [Op.operands] at h1; subst h1
    obtain ⟨h3, h4⟩ := isCells_sound hn hc h2
    refine ⟨⟨.pointer (some ⟨w.heap.size, 0, none⟩), w.alloc (.cells (ρ y).cells t), (ρ y).cells, t, (0, 0), ?_, rfl, rfl, rfl, by simp, by simp; omega, ?_, fun _ => V_ptr_new⟩, by intro cc hc; simp at hc; subst hc; rfl, by
      intro k hk
      simp [Node.ids] at hk
      exact Or.inl ⟨x', List.mem_singleton.2 rfl, cellsA_ids hk⟩⟩
    · simp [execOp, ho, Instr.box, newVar, newRow]
    · intro k c j y' hk hj
      cases k with
      | succ k => simp at hk
      | zero =>
        simp at hk; subst hk
        have hj' : j < (ρ y).cells.size := by
          rcases Nat.lt_or_ge j x'.cellsA.length with h | h
          · omega
          · simp [List.getElem?_eq_none h] at hj
        exact ⟨(ρ y).cells[j], by simp [hj'], h4 j y' _ hj (by simp [hj'])⟩
  · rename_i t n parts ho
    have hk := tkind_ok hT t
    split at h <;> first | (cases h; done) | skip
    rename_i e hk'
    rw [hk'] at hk
    split at h <;> first | (cases h; done) | skip
    rename_i ei hei
    split at h <;> first | (cases h; done) | cases h
    rename_i hcond
    obtain ⟨hp, hlen, hall, hsz, hmax, hzs⟩ := hcond
    rw [ho] at hv
    have hops : (Op.operands (.buildSlice t n parts)).toList.map ρ = parts.toList.map fun p => ρ p.2 := by simp [Op.operands]
    rw [hops] at hv
    rw [List.all_eq_true] at hall hsz
    obtain ⟨z, hz⟩ := Option.isSome_iff_exists.1 hzs
    obtain ⟨zv, hzr, hzc, hzl⟩ := t_zero hT hei hz
    have hzs' : zv.cells.size = ei.size := by have := (zero_cells hzc).1; simp at this; omega
    have hcells : ∀ (j : Nat) x y, vs[j]? = some x → (parts.toList.map fun p => ρ p.2)[j]? = some y → CellsV w lab loc x.cellsA y.cells ∧ x.cellsA.length = ei.size := by
      intro j x y hx hy
      exact ⟨isCells_sound hn (hall x (List.mem_of_getElem? hx)) (hv.2 j x y hx hy), by simpa using hsz x (List.mem_of_getElem? hx)⟩
    obtain ⟨c', hf, hcs, _, hrow⟩ := fillRow (w := w) (lab := lab) (loc := loc) (size := ei.size) vs (parts.toList.map fun p => ρ p.2) 0 ((Array.range (n * ei.size)).map (zv.cells[· % zv.cells.size]!)) hv.1 hcells (by simp [hlen])
    have hparts : (parts.map fun (i, x) => (i, ρ x)).toList = (List.range' 0 vs.length).zip (parts.toList.map fun p => ρ p.2) := by
      have : (List.range' 0 vs.length) = parts.toList.map (·.1) := by rw [hp, hlen, List.range_eq_range']
      rw [this]
      simp only [Array.toList_map]
      induction parts.toList with
      | nil => rfl
      | cons a l ih => simp [ih]
    refine ⟨⟨.slice (some ⟨w.heap.size, 0, none⟩) n n, w.alloc (.cells c' e), c', e, (0, 0), ?_, rfl, rfl, rfl, by simp, ?_, ?_, fun hb => V_sl_new hb (Nat.le_refl _) ?_⟩, ?_, by
      intro k hk
      simp only [Node.ids, List.mem_flatMap, List.mem_map] at hk
      obtain ⟨_, ⟨y, hy, rfl⟩, hk⟩ := hk
      exact Or.inl ⟨y, hy, cellsA_ids hk⟩⟩
    · have hsize := t_sizeOf hT hei w
      have hmax' : ¬ (n * ei.size > 2 ^ 24) := by simp; omega
      simp only [execOp, ho, Instr.buildSlice, Sem.run_bind, run_underlying (P := P) hk, Result.andThen_ok, hsize, hmax', if_false, hparts]
      by_cases h0 : n * ei.size = 0
      · have e1 : (Array.range (n * ei.size)).map (fun x => zv.cells[x % zv.cells.size]!) = #[] := by rw [h0]; simp [Array.range_zero']
        rw [e1] at hf
        simp [h0, Array.range_zero', hf, newRow]
      · simp [h0, hzr, hf, newRow]
    · rw [hcs]; simp [hlen]
    · intro i cc j y hi hj
      simp only [List.getElem?_map, Option.map_eq_some_iff] at hi
      obtain ⟨xx, hxx, rfl⟩ := hi
      obtain ⟨u, hu, hV⟩ := hrow i xx j y hxx hj
      exact ⟨u, by simpa using hu, hV⟩
    · rw [hcs]; simp
    · intro cc hc
      obtain ⟨xx, hxx, rfl⟩ := List.mem_map.1 hc
      simpa using hsz xx hxx
  · rename_i t lo co ho
    split at h <;> first | (cases h; done) | skip
    rename_i kl l kc c
    have hk := tkind_ok hT t
    split at h <;> first | (cases h; done) | skip
    rename_i e hk'
    rw [hk'] at hk
    split at h <;> first | (cases h; done) | skip
    rename_i ei hei
    split at h <;> first | (cases h; done) | cases h
    rename_i z hz
    obtain ⟨h0, h1, h2, h3⟩ := hok
    rw [ho] at hv
    obtain ⟨v, u, h4, h5, h6⟩ := hv.two
    simp [Op.operands] at h4
    obtain ⟨h7, h8⟩ := h4
    have hv1 := h5.inv_int; have hv2 := h6.inv_int
    obtain ⟨info, i1, i2, i3, i4⟩ := (hT e ei hei).info
    obtain ⟨zv, i5, i6, i7⟩ := i4 z hz
    have hr := run_make (P := P) w t e info zv hk i1 i5 kl kc l c h0 h1 (by rw [i3]; exact h2) h3
    have hzs' : zv.cells.size = ei.size := by have := (zero_cells i6).1; simp at this; omega
    refine ⟨⟨.slice (some ⟨w.heap.size, 0, none⟩) l.toNat c.toNat, w.alloc (.cells (madeCells zv.cells (c.toNat * info.size)) e), madeCells zv.cells (c.toNat * info.size), e, (0, 0), ?_, rfl, rfl, rfl, by simp, ?_, ?_, fun hb => V_sl_new hb (by omega) ?_⟩, ?_, by
      intro k hk
      simp only [Node.ids, List.mem_flatMap, List.mem_replicate] at hk
      obtain ⟨_, ⟨_, rfl⟩, hk⟩ := hk
      obtain ⟨y, hy, hk⟩ := mem_idsL' hk
      obtain ⟨j, hj⟩ := List.mem_iff_getElem?.1 hy
      have hj' : j < zv.cells.size := by have := (zero_cells i6).1; simp at this; rw [this]; exact (List.getElem?_eq_some_iff.1 hj).1
      have hz2 := (zero_cells i6).2 j y zv.cells[j] hj (by simp [hj'])
      rw [(ofV_sound (w := w) (lab := lab) hz2).ids] at hk; cases hk⟩
    · simp only [execOp, ho, h7, h8, hv1, hv2, Sem.run_bind, hr, Result.andThen_ok]
      rfl
    · rw [size_madeCells, i2]; simp only [List.length_replicate]; exact Nat.mul_le_mul_right _ (by omega)
    · intro i cc j y hi hj
      rw [List.getElem?_replicate] at hi
      split at hi <;> first | (cases hi; done) | cases hi
      rename_i hil
      have hj' : j < ei.size := by
        rcases Nat.lt_or_ge j z.length with h | h
        · omega
        · simp [List.getElem?_eq_none h] at hj
      have hlt : i * ei.size + j < c.toNat * ei.size := by
        have : (i + 1) * ei.size ≤ c.toNat * ei.size := Nat.mul_le_mul_right _ (by omega)
        rw [Nat.add_mul] at this; omega
      have hjz : j < zv.cells.size := by omega
      refine ⟨zv.cells[j], ?_, .imm _ _ (ofV_sound ((zero_cells i6).2 j y _ hj (by simp [hjz])))⟩
      simp [madeCells, i2, hlt, hzs', (div_row hj').2]
      rw [getElem!_pos zv.cells j hjz]
    · rw [size_madeCells, i2]; exact Nat.le_refl _
    · intro cc hc
      rw [List.mem_replicate] at hc
      rw [hc.2]; exact i7
  · rename_i s d y ho
    split at h <;> first | (cases h; done) | skip
    rename_i l
    have hks := tkind_ok hT s
    have hkd := tkind_ok hT d
    split at h <;> first | (cases h; done) | skip
    rename_i e h1 h2
    rw [h1] at hks; rw [h2] at hkd
    have hke := tkind_ok hT e
    split at h <;> first | (cases h; done) | cases h
    rename_i h3
    rw [h3] at hke
    rw [ho] at hv
    obtain ⟨v, h4, h5⟩ := hv.one
    simp [Op.operands] at h4; subst h4
    have hv1 := h5.inv_str
    have hsz : (⟨l.toArray⟩ : ByteArray).size = l.length := by simp [ByteArray.size]
    let cap := Question.cut (.appendCap l.length 0 e) (w.tape w.drawn (.appendCap l.length 0 e))
    have hcap : l.length ≤ cap := by simp only [cap, Question.cut]; omega
    let c : Array Value := ((⟨l.toArray⟩ : ByteArray).data.map fun b => .int .u8 b.toNat) ++ Array.replicate (cap - l.length) (.int .u8 0)
    have hcs : c.size = cap := by simp [c]; omega
    refine ⟨⟨.slice (some ⟨w.heap.size, 0, none⟩) l.length cap, { w with drawn := w.drawn + 1, heap := w.heap.push (.cells c e (cap, cap + 1)) }, c, e, (cap, cap + 1), ?_, rfl, rfl, rfl, ?_, ?_, ?_, fun hb => V_sl_new hb hcap ?_⟩, ?_, by
      intro k hk
      simp only [Node.ids, List.mem_flatMap, encB, List.mem_map] at hk
      obtain ⟨_, ⟨b, _, rfl⟩, hk⟩ := hk
      simp [idsL, AV.ids] at hk⟩
    · have hfz : (⟨w.heap.push (.cells c e), w.tape, w.drawn + 1, w.os, w.output⟩ : World).freeze ⟨w.heap.size, c.size, none⟩ 1 = ⟨w.heap.push (.cells c e (cap, cap + 1)), w.tape, w.drawn + 1, w.os, w.output⟩ := by
        simp only [World.freeze, Nat.one_ne_zero, if_false, World.mk.injEq, and_self, and_true]
        apply Array.ext
        · simp
        · intro k h1 h2
          rw [Array.getElem_modify]
          by_cases hk : w.heap.size = k
          · subst hk; simp [hcs]
          · rw [if_neg hk]
            have : k < w.heap.size := by simp at h1; omega
            rw [Array.getElem_push_lt this, Array.getElem_push_lt this]
      have hsh : (⟨w.heap.push (.cells c e), w.tape, w.drawn + 1, w.os, w.output⟩ : World).shape? w.heap.size = some (e, c.size) := by
        simp [World.shape?]
      have hrow : (newRow e c).run P ⟨w.heap, w.tape, w.drawn + 1, w.os, w.output⟩ = .ok ⟨w.heap.size, 0, none⟩ ⟨w.heap.push (.cells c e), w.tape, w.drawn + 1, w.os, w.output⟩ := rfl
      have hmk : (markStringish ⟨w.heap.size, 0, none⟩).run P ⟨w.heap.push (.cells c e), w.tape, w.drawn + 1, w.os, w.output⟩ = .ok () ⟨w.heap.push (.cells c e (cap, cap + 1)), w.tape, w.drawn + 1, w.os, w.output⟩ := by
        simp only [markStringish, Sem.run_bind, run_shape, hsh, Result.andThen_ok, run_freeze, hfz]
      have hst : (Conv.stringToBytes e ⟨l.toArray⟩).run P w = .ok (.slice (some ⟨w.heap.size, 0, none⟩) l.length cap) ⟨w.heap.push (.cells c e (cap, cap + 1)), w.tape, w.drawn + 1, w.os, w.output⟩ := by
        unfold Conv.stringToBytes
        simp only [Sem.run_bind, run_choose, hsz, Question.forced, Bool.false_eq_true, if_false, Result.andThen_ok]
        have hrow' := hrow
        simp only [c, cap] at hrow' hmk ⊢
        rw [hrow', Result.andThen_ok, hmk]
        rfl
      have hconv : (convert s d (.string ⟨l.toArray⟩)).run P w = (Conv.stringToBytes e ⟨l.toArray⟩).run P w := by
        simp [convert, run_underlying hks, run_underlying hkd, run_underlying hke]
      simp only [execOp, ho, hv1, Sem.run_bind, hconv, hst, Result.andThen_ok, Sem.run_pure]
    · intro o ho; simp; omega
    · rw [hcs]; simp [encB]; exact hcap
    · intro i cc j y' hi hj
      simp only [encB, List.getElem?_map, Option.map_eq_some_iff] at hi
      obtain ⟨b, hb, rfl⟩ := hi
      cases j with
      | succ j => simp at hj
      | zero =>
        simp at hj; subst hj
        have hil : i < l.length := by rcases Nat.lt_or_ge i l.length with h | h; exact h; simp [List.getElem?_eq_none h] at hb
        have hbe : l[i] = b := by simpa [hil] using hb
        refine ⟨.int .u8 b.toNat, ?_, V.int _ _⟩
        simp [c, List.getElem?_append, hil, hbe]
    · rw [hcs]; omega
    · intro cc hc
      unfold encB at hc
      obtain ⟨_, _, rfl⟩ := List.mem_map.1 hc; rfl
  · rename_i c ho
    split at h <;> first | (cases h; done) | skip
    rename_i t tx b y hc hat
    rw [ho] at hv
    obtain ⟨vb, vy, h1, h2, h3⟩ := hv.two
    have hargs : c.args.map ρ = #[vb, vy] := by
      simp [Op.operands, Call.operands, hc] at h1; apply Array.ext'; simpa using h1
    have hat' : c.argTypes = #[t, tx] := by apply Array.ext'; simpa using hat
    have key : ∀ base : Option Addr, vb = .slice base 0 0 → (match tkind ti t with
        | .slice e => match ti e with
          | some ei => match elemsA ti nodes tx ei.size y with
            | some (l, ok) => if ei.zero.isSome then some ((⟨ei.size, l⟩ : Node), AV.sl id ei.size 0 l.length, ok ∧ 0 < l.length ∧ l.length * ei.bytes ≤ 140737488355328 ∧ l.length ≤ 9223372036854775807) else none
            | none => zerosA ti tx id ei b y
          | none => none
        | _ => none) = some (nd, x, ok) → NewOk P w lab loc nodes [b, y] id nd x (execOp ρ o) := by
      intro base hvb h
      have hk := tkind_ok hT t
      split at h <;> first | (cases h; done) | skip
      rename_i e hk'
      rw [hk'] at hk
      split at h <;> first | (cases h; done) | skip
      rename_i ei hei
      split at h
      rotate_left
      · unfold zerosA at h
        split at h <;> first | (cases h; done) | cases h
        rename_i kz n kx z hkx hz _
        obtain ⟨q1, q2, q3, q4⟩ := hok
        have hktx := tkind_ok hT tx
        rw [hkx] at hktx
        rw [h2.inv_nils] at hargs
        rw [h3.inv_int] at hargs
        obtain ⟨info, i1, i2, i3, i4⟩ := (hT e ei hei).info
        obtain ⟨zv, i5, i6, i7⟩ := i4 z hz
        obtain ⟨m, rfl⟩ : ∃ m : Nat, n = m := ⟨n.toNat, by omega⟩
        simp only [Int.toNat_natCast]
        have hr := Lib.run_append_nil_zeros (P := P) w t tx o.type e info zv kz kx hk hktx i1 i5 m (by omega) (by omega) q2 (by rw [i3]; omega)
        have hge := grownCap_ge w m 0 e
        have hzs' : zv.cells.size = ei.size := by have := (zero_cells i6).1; simp at this; omega
        have hcsz : (Builtin.zeroCells zv.cells m ++ Builtin.zeroCells zv.cells (grownCap w m 0 e - m)).size = grownCap w m 0 e * ei.size := by
          simp only [Array.size_append, size_zeroCells, hzs']
          rw [← Nat.add_mul]; congr 1; omega
        refine ⟨⟨.slice (some ⟨w.heap.size, 0, none⟩) m (grownCap w m 0 e), w.drew.alloc (.cells (Builtin.zeroCells zv.cells m ++ Builtin.zeroCells zv.cells (grownCap w m 0 e - m)) e), Builtin.zeroCells zv.cells m ++ Builtin.zeroCells zv.cells (grownCap w m 0 e - m), e, (0, 0), ?_, rfl, rfl, rfl, by simp, ?_, ?_, fun hb => ?_⟩, ?_, by
          intro k hk
          simp only [Node.ids, List.mem_flatMap, List.mem_replicate] at hk
          obtain ⟨_, ⟨_, rfl⟩, hk⟩ := hk
          obtain ⟨y, hy, hk⟩ := mem_idsL' hk
          obtain ⟨j, hj⟩ := List.mem_iff_getElem?.1 hy
          have hj' : j < zv.cells.size := by have := (zero_cells i6).1; simp at this; rw [this]; exact (List.getElem?_eq_some_iff.1 hj).1
          have hz2 := (zero_cells i6).2 j y zv.cells[j] hj (by simp [hj'])
          rw [(ofV_sound (w := w) (lab := lab) hz2).ids] at hk; cases hk⟩
        rotate_left
        · rw [hcsz]; simp only [List.length_replicate]; exact Nat.mul_le_mul_right _ hge
        · intro i cc j yy hi hj
          rw [List.getElem?_replicate] at hi
          split at hi <;> first | (cases hi; done) | cases hi
          rename_i hil
          have hj' : j < ei.size := by
            rcases Nat.lt_or_ge j z.length with h | h
            · omega
            · simp [List.getElem?_eq_none h] at hj
          have hlt : i * ei.size + j < m * ei.size := by
            have : (i + 1) * ei.size ≤ m * ei.size := Nat.mul_le_mul_right _ (by omega)
            rw [Nat.add_mul] at this; omega
          have hjz : j < zv.cells.size := by omega
          refine ⟨zv.cells[j], ?_, .imm _ _ (ofV_sound ((zero_cells i6).2 j yy _ hj (by simp [hjz])))⟩
          have hlt2 : i * ei.size + j < (Builtin.zeroCells zv.cells m).size := by rw [size_zeroCells, hzs']; exact hlt
          simp only [Array.toList_append]
          rw [List.getElem?_append_left (by simpa using hlt2)]
          simp [Builtin.zeroCells, hlt, hzs', (div_row hj').2]
          rw [getElem!_pos zv.cells j hjz]
        · rw [hcsz] at hb
          exact V_sl_new hb hge (Nat.le_refl _)
        · intro cc hc
          rw [List.mem_replicate] at hc
          rw [hc.2]; exact i7
        · have hat2 : c.argTypes = #[t, tx] := hat'
          simp only [execOp, ho, resolve, hc, invoke, builtin, hargs, hat2, Sem.run_bind, hr, Result.andThen_ok, Sem.run_pure]
      rename_i l okl hel
      split at h <;> first | (cases h; done) | cases h
      rename_i hzs
      obtain ⟨hokl, h4, h5, h6⟩ := hok
      obtain ⟨news, hsrc, hrow, hes, hids⟩ := elemsA_sound hT hn hel hokl h3
      obtain ⟨z, hz⟩ := Option.isSome_iff_exists.1 hzs
      obtain ⟨info, i1, i2, i3, i4⟩ := (hT e ei hei).info
      obtain ⟨zv, i5, i6, i7⟩ := i4 z hz
      have hr := run_append_grow_src (P := P) w t tx o.type e info zv hk i1 i5 base 0 0 [] (by cases base <;> simp [Builtin.firstCells, loadCells, loadCellsFrom]) vy l.length news (by rw [i2]; exact hsrc) (by omega) (by omega)
        (by rw [Nat.zero_add, i3]; exact growslice_fits (by omega) h5)
      have hge := grownCap_ge w (0 + l.length) 0 e
      simp only [Nat.zero_add] at hr hge
      have hnl : news.length = l.length * ei.size := by rw [hsrc.newsLen]
      have hzs' : zv.cells.size = ei.size := by have := (zero_cells i6).1; simp at this; omega
      have hcsz : ((([] : List Value) ++ news).toArray ++ Builtin.zeroCells zv.cells (grownCap w l.length 0 e - l.length)).size = grownCap w l.length 0 e * ei.size := by
        simp only [List.nil_append, Array.size_append, List.size_toArray, size_zeroCells, hzs', hnl]
        rw [← Nat.add_mul]; congr 1; omega
      refine ⟨⟨.slice (some ⟨w.heap.size, 0, none⟩) l.length (grownCap w l.length 0 e), w.drew.alloc (.cells ((([] : List Value) ++ news).toArray ++ Builtin.zeroCells zv.cells (grownCap w l.length 0 e - l.length)) e), (([] : List Value) ++ news).toArray ++ Builtin.zeroCells zv.cells (grownCap w l.length 0 e - l.length), e, (0, 0), ?_, rfl, rfl, rfl, by simp, ?_, ?_, fun hb => ?_⟩, hes, by
        intro k hk
        simp only [Node.ids, List.mem_flatMap] at hk
        obtain ⟨c, hc, hk⟩ := hk
        obtain ⟨y, hy, hk⟩ := mem_idsL' hk
        exact Or.inr (hids c hc y hy k hk)⟩
      rotate_left
      · rw [hcsz]; exact Nat.mul_le_mul_right _ hge
      · intro i cc j yy hi hj
        obtain ⟨u, hu, hV⟩ := hrow i cc j yy hi hj
        refine ⟨u, ?_, hV⟩
        have hlt := (List.getElem?_eq_some_iff.1 hu).1
        simp only [List.nil_append, Array.toList_append]
        rw [List.getElem?_append_left hlt]; exact hu
      · rw [hcsz] at hb
        exact V_sl_new hb hge (Nat.le_refl _)
      · simp only [execOp, ho, resolve, hc, invoke, builtin, hargs, hat', hvb, Sem.run_bind, hr, Result.andThen_ok, Sem.run_pure]
    split at h
    · exact key none h2.inv_nils h
    · obtain ⟨a, ha⟩ := h2.inv_zsl
      exact key a ha h
    · cases h
  · cases h
end snd

end Go.AM
namespace Go.AM

theorem Blk_setCell {w : World} {a : Addr} {v : Value} {b n : Nat} (h : Blk w b n) : Blk (w.setCell a v) b n := by
  obtain ⟨c, ty, fz, h1, h2, h3⟩ := h
  by_cases hb : a.block = b
  · have hs : (if a.spot.isSome then c else c.setIfInBounds a.off v).size = c.size := by split <;> simp
    refine ⟨if a.spot.isSome then c else c.setIfInBounds a.off v, ty, fz, ?_, by rw [hs]; exact h2, fun o ho => h3 o (by rw [← hs]; exact ho)⟩
    simp only [World.setCell, Array.getElem?_modify, hb, if_true, h1, Option.map_some]
  · exact ⟨c, ty, fz, by simp only [World.setCell, Array.getElem?_modify, hb, if_false]; exact h1, h2, h3⟩

theorem Blk_setCells {b n : Nat} (b' : Nat) : ∀ (vs : List Value) (o : Nat) (w : World), Blk w b n → Blk (w.setCells b' o vs) b n
  | [], _, _, h => h
  | _ :: r, o, _, h => Blk_setCells b' r (o + 1) _ (Blk_setCell h)

theorem size_setCells (b : Nat) : ∀ (vs : List Value) (o : Nat) (w : World), (w.setCells b o vs).heap.size = w.heap.size
  | [], _, _ => rfl
  | v :: r, o, w => by rw [World.setCells, size_setCells b r]; simp [World.setCell]

theorem os_setCells (b : Nat) : ∀ (vs : List Value) (o : Nat) (w : World), (w.setCells b o vs).os = w.os ∧ (w.setCells b o vs).output = w.output
  | [], _, _ => ⟨rfl, rfl⟩
  | v :: r, o, w => by rw [World.setCells]; exact os_setCells b r _ _

theorem heap_setCell_ne {w : World} {a : Addr} {v : Value} {i : Nat} (h : i ≠ a.block) : (w.setCell a v).heap[i]? = w.heap[i]? := by
  simp only [World.setCell, Array.getElem?_modify]
  rw [if_neg (fun e => h e.symm)]

theorem heap_setCells_ne (b : Nat) : ∀ (vs : List Value) (o : Nat) (w : World) {i : Nat}, i ≠ b → (w.setCells b o vs).heap[i]? = w.heap[i]?
  | [], _, _, _, _ => rfl
  | v :: r, o, w, i, h => by rw [World.setCells, heap_setCells_ne b r _ _ h, heap_setCell_ne h]

theorem cell_of_blk {w : World} {b n o : Nat} (h : Blk w b n) (ho : o < n) : (w.cell? ⟨b, o, none⟩).isSome = true := by
  obtain ⟨c, ty, fz, h1, h2, h3⟩ := h
  simp only [World.cell?, h1, Option.isSome_none, Bool.false_eq_true, if_false]
  rw [Array.getElem?_eq_getElem (by omega)]; rfl

/-- cells of one object's block are written -/
theorem step_cells {w0 : World} {lab0 : Labs} {st : St} {a : Act} {w : World} {lab : Labs} {loc : Locs} (h : RepL w0 lab0 st a w lab loc) (e : Eff) {dst : Option Nat} {y : AV} {u : Value}
    {id : Nat} {nd nd' : Node} {b base o : Nat} {vals : List Value} (hwr : e.wr = wrD dst y) (hup : e.up = [(id, some nd')]) (hd : ∀ d, dst = some d → d < st.n)
    (hnd : st.obj id = some nd) (hl : loc id = some (b, base)) (ho : ObjOk w lab loc id nd b base)
    (hes' : nd'.es = nd.es) (hlen : ∀ cc ∈ nd'.l, cc.length = nd'.es) (hsz : nd'.l.length = nd.l.length)
    (hin : ∀ k, k < vals.length → (w.cell? ⟨b, o + k, none⟩).isSome = true)
    (hy : V (w.setCells b o vals) lab loc y u)
    (hcells : ∀ (i : Nat) c (j : Nat) x, nd'.l[i]? = some c → c[j]? = some x →
      (∃ k, base + i * nd.es + j = o + k ∧ ∃ v, vals[k]? = some v ∧ V w lab loc x v) ∨
      ((base + i * nd.es + j < o ∨ o + vals.length ≤ base + i * nd.es + j) ∧ ∃ c', nd.l[i]? = some c' ∧ c'[j]? = some x)) :
    RepL w0 lab0 (e.apply st) (a.put dst u) (w.setCells b o vals) lab loc := by
  have hother : ∀ b', b' ≠ b → (w.setCells b o vals).heap[b']? = w.heap[b']? := fun b' hb => heap_setCells_ne b vals o w hb
  have hlabb : lab b = some (.obj id, []) := ho.hlab
  have himm : ∀ b', b' < w.heap.size → lab b' = none → lab b' = none ∧ (w.setCells b o vals).heap[b']? = w.heap[b']? := by
    intro b' _ hb; exact ⟨hb, hother b' (by rintro rfl; rw [hlabb] at hb; cases hb)⟩
  have hz : (w.setCells b o vals).heap.size = w.heap.size := size_setCells b vals o w
  have hblk : ∀ b' n, Blk w b' n → Blk (w.setCells b o vals) b' n := fun b' n hb => Blk_setCells b vals o w hb
  have hV : ∀ x v, V w lab loc x v → V (w.setCells b o vals) lab loc x v := fun x v hv => hv.mono himm (by rw [hz]; exact Nat.le_refl _) fun i _ b' base' hl' => ⟨hl', fun n hn => hblk b' n hn⟩
  have hT : ∀ i j x v, T w lab (.obj id, [(i, j)]) x v → T (w.setCells b o vals) lab (.obj id, [(i, j)]) x v := fun i j x v hx =>
    hx.move himm (fun b' q _ hq => ⟨hq, hother b' (by rintro rfl; rw [hlabb] at hq; simp [Lab.app] at hq)⟩) (by rw [hz]; exact Nat.le_refl _)
  refine h.step e (put_size _ _ _) (by rw [put_defers]; exact h.defers) ⟨by rw [hz]; exact Nat.le_refl _, (os_setCells b vals o w).1, (os_setCells b vals o w).2, fun b' _ hs => ⟨rfl, hother b' (by rintro rfl; rw [hlabb] at hs; exact hs)⟩, hblk⟩ ?_ ?_ ?_ ?_ ?_ ?_ ?_
  · intro s hs
    rw [hwr] at hs
    exact put_other a u (look_wrD_none hs)
  · intro s z hs
    rw [hwr] at hs
    obtain ⟨rfl, rfl⟩ := look_wrD_some hs
    rw [put_same a u (by rw [h.size]; exact hd s rfl)]
    exact hy
  · intro i nd2 b2 base2 hi hu hl2
    rw [hup] at hu
    have hne : i ≠ id := by rintro rfl; simp [look] at hu
    refine ⟨hl2, fun b' q _ hq => ⟨rfl, hother b' ?_⟩⟩
    rintro rfl
    rw [hlabb] at hq
    simp only [Option.some.injEq, Prod.mk.injEq, Root.obj.injEq] at hq
    exact hne hq.1.symm
  · intro i nd2 hu
    rw [hup] at hu
    simp only [look] at hu
    split at hu <;> first | (cases hu; done) | skip
    rename_i hi
    subst hi
    cases hu
    refine ⟨b, base, hl, hlabb, hblk _ _ (by rw [hsz, hes']; exact ho.blk), hlen, ?_⟩
    intro k c j x hk hj
    rw [hes']
    rcases hcells k c j x hk hj with ⟨m, hm, v, hv, hx⟩ | ⟨hm, c', hc', hx⟩
    · refine ⟨v, ?_, Or.inl (hV x v hx)⟩
      have hml := (List.getElem?_eq_some_iff.1 hv).1
      rw [hm, World.cell?_setCells_in b vals o w hin m hml]
      rw [(List.getElem?_eq_some_iff.1 hv).2]
    · obtain ⟨v, hv, hcv⟩ := ho.cells k c' j x hc' hx
      refine ⟨v, ?_, hcv.imp (hV x v) (hT k j x v)⟩
      rw [World.cell?_setCells_out b vals o w _ (fun _ _ => hm)]
      exact hv
  · intro i hi
    rw [hup] at hi
    by_cases hne : i = id
    · subst hne; simp [look] at hi
    · simp [look, hne] at hi
      exact h.dead i hi
  · intro b' hb'; rw [hz]; exact h.fresh b' hb'
  · intro i _ b' base' hl'; exact hl'

def storeA (ti : TI) (nodes : Nat → Option Node) (t : Nat) (vs : List AV) : Option (Nat × Node × Prop) :=
  match vs with
  | [.ptr id es i j, x] => match nodes id, ti t with
    | some nd, some ty =>
      if nd.es = es ∧ isCells nodes x = true ∧ x.cellsA.all (okCell nodes) = true ∧ x.cellsA.length = ty.size then
        some (id, ⟨es, nd.l.set i ((nd.l.getD i []).take j ++ (x.cellsA ++ (nd.l.getD i []).drop (j + ty.size)))⟩, i < nd.l.length ∧ j + ty.size ≤ es)
      else none
    | _, _ => none
  | _ => none

section snd
variable {P : Program} {ti : TI} (hT : TOk P ti) {w0 : World} {lab0 : Labs} {st : St} {a : Act} {w : World} {lab : Labs} {loc : Locs}

include hT in
theorem storeA_sound (h : RepL w0 lab0 st a w lab loc) {o : Oper} {t : Nat} {x y : Operand} (ho : o.op = .store t x y) {vs : List AV} {id : Nat} {nd : Node} {ok : Prop}
    {nodes : Nat → Option Node} (hnod : ∀ i n, nodes i = some n → st.obj i = some n) (hs : storeA ti nodes t vs = some (id, nd, ok)) (hok : ok) (hv : OpsV w lab loc vs [a.eval x, a.eval y]) (e : Eff) (hwr : e.wr = wrD o.dst .undef) (hup : e.up = [(id, some nd)]) (hd : ∀ d, o.dst = some d → d < st.n) :
    ∃ w', (execOp a.eval o).run P w = .ok .skip w' ∧ RepL w0 lab0 (e.apply st) (a.put o.dst undef) w' lab loc := by
  unfold storeA at hs
  split at hs <;> first | (cases hs; done) | skip
  rename_i id' es i j z
  split at hs <;> first | (cases hs; done) | skip
  rename_i nd0 ty hnd' hty
  have hnd := hnod _ _ hnd'
  split at hs <;> first | (cases hs; done) | cases hs
  rename_i hc
  obtain ⟨h1, h2, h3, h4⟩ := hc
  obtain ⟨h5, h6⟩ := hok
  obtain ⟨b, base, hl, hob⟩ := h.objs id nd0 hnd
  obtain ⟨u, v, huv, hu, hv'⟩ := hv.two
  simp at huv
  obtain ⟨rfl, rfl⟩ := huv
  have hp := hu.inv_ptr hl
  have hn : ∀ i n, nodes i = some n → ∃ b base, loc i = some (b, base) ∧ ObjOk w lab loc i n b base := fun i n hi => h.objs i n (hnod i n hi)
  obtain ⟨h7, h8⟩ := isCells_sound hn h2 hv'
  have hci : nd0.l[i]? = some (nd0.l.getD i []) := getD_lt h5
  have hcl : (nd0.l.getD i []).length = es := by rw [← h1]; exact hob.es _ (List.mem_of_getElem? hci)
  have hsz : (a.eval y).cells.size = ty.size := by rw [← h7, h4]
  have hsize := t_sizeOf hT hty w
  have hle : i * es + es ≤ nd0.l.length * es := by
    have : (i + 1) * es ≤ nd0.l.length * es := Nat.mul_le_mul_right _ h5
    rw [Nat.add_mul] at this; omega
  have hblk := hob.blk
  rw [h1] at hblk
  have hin : ∀ k, k < (a.eval y).cells.toList.length → (w.cell? ⟨b, base + i * es + j + k, none⟩).isSome = true := by
    intro k hk; exact cell_of_blk hblk (by simp at hk; omega)
  have hfr : ∀ k, k < (a.eval y).cells.toList.length → w.frozen? ⟨b, base + i * es + j + k, none⟩ = false := by
    intro k hk; exact frozen_of_blk hblk (by simp at hk; omega)
  have hone : ∀ v ∈ (a.eval y).cells.toList, v.oneCell' = true := by
    intro v hv
    obtain ⟨k, hk⟩ := List.mem_iff_getElem?.1 hv
    have hk' : k < z.cellsA.length := by
      have := (List.getElem?_eq_some_iff.1 hk).1
      simp at this; omega
    have hz : z.cellsA[k]? = some z.cellsA[k] := List.getElem?_eq_getElem hk'
    rw [List.all_eq_true] at h3
    exact okCell_one hn (h3 _ (List.mem_of_getElem? hz)) (h8 k _ v hz (by simpa using hk))
  have hst := run_storeCells_cells (P := P) b (base + i * es + j) (a.eval y).cells.toList 0 w (by simpa using hin) (by simpa using hfr) hone
  simp only [Nat.add_zero] at hst
  refine ⟨w.setCells b (base + i * es + j) (a.eval y).cells.toList, ?_, ?_⟩
  · simp only [execOp, ho, Instr.storeAt, hp, Instr.sureAddr, storeVar, Sem.run_bind, Sem.run_pure, Result.andThen_ok, hsize, hsz, ne_eq, not_true, if_false, hst]
  · refine step_cells h e (nd := nd0) (base := base) hwr hup hd hnd hl hob h1.symm ?_ (by simp) hin (.undef _) ?_
    · intro cc hc
      rcases List.mem_or_eq_of_mem_set hc with hc | rfl
      · have := hob.es cc hc; simp only; omega
      · simp [h4]; rw [← List.getD_eq_getElem?_getD]; omega
    · intro k c m x hk hm
      simp only at hk
      rw [List.getElem?_set] at hk
      by_cases hki : i = k
      · subst hki
        rw [if_pos rfl, if_pos h5] at hk
        cases hk
        rw [List.getElem?_append] at hm
        have htk : ((nd0.l.getD i []).take j).length = j := by simp; rw [← List.getD_eq_getElem?_getD]; omega
        rw [htk] at hm
        by_cases hmj : m < j
        · rw [if_pos hmj, List.getElem?_take, if_pos hmj] at hm
          exact Or.inr ⟨Or.inl (by rw [h1]; omega), _, hci, hm⟩
        · rw [if_neg hmj, List.getElem?_append, h4] at hm
          by_cases hm2 : m - j < ty.size
          · rw [if_pos hm2] at hm
            have hlt : m - j < (a.eval y).cells.size := by omega
            refine Or.inl ⟨m - j, by rw [h1]; omega, (a.eval y).cells[m - j], by simp [hlt], ?_⟩
            exact h8 (m - j) x _ hm (by simp [hlt])
          · rw [if_neg hm2, List.getElem?_drop, show j + ty.size + (m - j - ty.size) = m by omega] at hm
            exact Or.inr ⟨Or.inr (by rw [h1]; simp; omega), _, hci, hm⟩
      · rw [if_neg hki] at hk
        refine Or.inr ⟨?_, c, hk, hm⟩
        have hmc : m < es := by
          have := hob.es c (List.mem_of_getElem? hk)
          rcases Nat.lt_or_ge m c.length with h | h
          · omega
          · simp [List.getElem?_eq_none h] at hm
        rw [h1]
        rcases Nat.lt_or_gt_of_ne hki with hlt | hgt
        · right
          have : (i + 1) * es ≤ k * es := Nat.mul_le_mul_right _ hlt
          rw [Nat.add_mul] at this
          simp; omega
        · left
          have : (k + 1) * es ≤ i * es := Nat.mul_le_mul_right _ hgt
          rw [Nat.add_mul] at this
          omega
end snd

end Go.AM
namespace Go.AM

/-- the labels when object id becomes object id' -/
def labR (lab : Labs) (id id' : Nat) : Labs := fun b => match lab b with
  | some (.obj k, p) => if k = id then some (.obj id', p) else some (.obj k, p)
  | o => o
/-- .. and its main block is left -/
def labG (lab : Labs) (id id' nb : Nat) : Labs := fun b => if b = nb then some (.obj id', []) else match lab b with
  | some (.obj k, p) => if k = id then (if p = [] then none else some (.obj id', p)) else some (.obj k, p)
  | o => o
def locR (loc : Locs) (id id' b base : Nat) : Locs := fun i => if i = id' then some (b, base) else if i = id then none else loc i

theorem labR_none {lab : Labs} {id id' b : Nat} (h : lab b = none) : labR lab id id' b = none := by simp [labR, h]
theorem labR_same {lab : Labs} {id id' b : Nat} {p : List (Nat × Nat)} (h : lab b = some (.obj id, p)) : labR lab id id' b = some (.obj id', p) := by simp [labR, h]
theorem labR_other {lab : Labs} {id id' b k : Nat} {p : List (Nat × Nat)} (h : lab b = some (.obj k, p)) (hk : k ≠ id) : labR lab id id' b = lab b := by simp [labR, h, hk]
theorem labR_still {lab : Labs} {id id' b : Nat} (h : still (lab b)) : labR lab id id' b = lab b := by
  unfold labR; split
  · rename_i k p e; rw [e] at h; exact h.elim
  · rfl
theorem labG_still {lab : Labs} {id id' nb b : Nat} (h : still (lab b)) (hb : b ≠ nb) : labG lab id id' nb b = lab b := by
  unfold labG; rw [if_neg hb]; split
  · rename_i k p e; rw [e] at h; exact h.elim
  · rfl
theorem labR_ne {lab : Labs} {id id' b : Nat} (h : labR lab id id' b ≠ none) : lab b ≠ none := by intro e; exact h (labR_none e)

theorem labG_none {lab : Labs} {id id' nb b : Nat} (h : lab b = none) (hb : b ≠ nb) : labG lab id id' nb b = none := by simp [labG, h, hb]
theorem labG_same {lab : Labs} {id id' nb b : Nat} {p : List (Nat × Nat)} (h : lab b = some (.obj id, p)) (hp : p ≠ []) (hb : b ≠ nb) : labG lab id id' nb b = some (.obj id', p) := by simp [labG, h, hp, hb]
theorem labG_other {lab : Labs} {id id' nb b k : Nat} {p : List (Nat × Nat)} (h : lab b = some (.obj k, p)) (hk : k ≠ id) (hb : b ≠ nb) : labG lab id id' nb b = lab b := by simp [labG, h, hk, hb]

def appA (ti : TI) (nodes : Nat → Option Node) (id' : Nat) (op : Op) (vs : List AV) : Option (Nat × Node × AV × Prop) :=
  match op with
  | .call c => match c.callee, c.argTypes.toList, vs with
    | .builtin .append, [t, tx], [.sl id es 0 len, x] => match nodes id, tkind ti t with
      | some nd, .slice e => match ti e with
        | some ei => if ei.size = es ∧ nd.es = es ∧ ei.zero.isSome = true then
            match elemsA ti nodes tx es x with
            | some (l, ok) => some (id, ⟨es, nd.l.take len ++ l⟩, .sl id' es 0 (len + l.length), ok ∧ len ≤ nd.l.length ∧ (len + l.length) * ei.bytes ≤ 140737488355328 ∧ len + l.length ≤ 9223372036854775807)
            | none => none
          else none
        | none => none
      | _, _ => none
    | _, _, _ => none
  | _ => none

section snd
variable {P : Program} {ti : TI} (hT : TOk P ti) {w0 : World} {lab0 : Labs} {st : St} {a : Act} {w : World} {lab : Labs} {loc : Locs}

/-- the cells of a row that has been joined out of two -/
theorem row_append {l1 l2 : List (List AV)} {i : Nat} {c : List AV} (hi : (l1 ++ l2)[i]? = some c) :
    (i < l1.length ∧ l1[i]? = some c) ∨ (l1.length ≤ i ∧ l2[i - l1.length]? = some c) := by
  rw [List.getElem?_append] at hi
  split at hi
  · rename_i h; exact Or.inl ⟨h, hi⟩
  · exact Or.inr ⟨by omega, hi⟩

include hT in
theorem appA_sound (h : RepL w0 lab0 st a w lab loc) {o : Oper} {vs : List AV} {id id' : Nat} {nd' : Node} {x : AV} {ok : Prop}
    {nodes : Nat → Option Node} (hnod : ∀ i n, nodes i = some n → st.obj i = some n) (hs : appA ti nodes id' o.op vs = some (id, nd', x, ok)) (hok : ok) (hv : OpsV w lab loc vs (o.op.operands.toList.map a.eval)) (e : Eff)
    (hwr : e.wr = wrD o.dst x) (hup : e.up = [(id', some nd'), (id, none)]) (hd : ∀ d, o.dst = some d → d < st.n) (hni : id' ∉ st.ids) (hid' : st.obj id' = none) :
    ∃ v w', (execOp a.eval o).run P w = .ok (.value v) w' ∧ Rep w0 lab0 (e.apply st) (a.put o.dst v) w' := by
  unfold appA at hs
  split at hs <;> first | (cases hs; done) | skip
  rename_i c ho
  split at hs <;> first | (cases hs; done) | skip
  rename_i t tx id0 es len y hc hat
  split at hs <;> first | (cases hs; done) | skip
  rename_i nd ty hnd' hk'
  have hnd := hnod _ _ hnd'
  have hk := tkind_ok hT t
  rw [hk'] at hk
  split at hs <;> first | (cases hs; done) | skip
  rename_i ei hei
  split at hs <;> first | (cases hs; done) | skip
  rename_i hcond
  obtain ⟨hes, hes2, hzs⟩ := hcond
  split at hs <;> first | (cases hs; done) | cases hs
  rename_i l okl hel
  obtain ⟨hokl, hlen, hbytes, h63⟩ := hok
  subst hes
  have hn : ∀ i n, nodes i = some n → ∃ b base, loc i = some (b, base) ∧ ObjOk w lab loc i n b base := fun i n hi => h.objs i n (hnod i n hi)
  rw [ho] at hv
  obtain ⟨vb, vy, hvv, hvb, hvy⟩ := hv.two
  have hargs : c.args.map a.eval = #[vb, vy] := by
    simp [Op.operands, Call.operands, hc] at hvv; apply Array.ext'; simpa using hvv
  have hat' : c.argTypes = #[t, tx] := by apply Array.ext'; simpa using hat
  obtain ⟨b, base, hl, hob⟩ := h.objs id nd hnd
  obtain ⟨ad, cap, rfl, hlc, hadr, hbk⟩ := hvb.inv_sl hl
  obtain ⟨news, hsrc, hrow, hesl, hids⟩ := elemsA_sound hT hn hel hokl hvy
  obtain ⟨z, hz⟩ := Option.isSome_iff_exists.1 hzs
  obtain ⟨info, i1, i2, i3, i4⟩ := (hT ty ei hei).info
  obtain ⟨zv, i5, i6, i7⟩ := i4 z hz
  have hnl : news.length = l.length * ei.size := by rw [hsrc.newsLen]
  have hzs' : zv.cells.size = ei.size := by have := (zero_cells i6).1; simp at this; omega
  have htl : (nd.l.take len).length = len := by simp; omega
  have hidne : id' ≠ id := by rintro rfl; rw [hnd] at hid'; cases hid'
  have hlocid' : loc id' = none := h.dead id' hid'
  have hlens : ∀ cc ∈ nd.l.take len ++ l, cc.length = ei.size := by
    intro cc hcc
    rcases List.mem_append.1 hcc with hcc | hcc
    · rw [← hes2]; exact hob.es cc (List.mem_of_mem_take hcc)
    · exact hesl cc hcc
  have hidnd : ∀ k ∈ nd.ids, k ≠ id' := by rintro k hk rfl; exact hni (ids_of_obj hnd hk)
  have hidl : ∀ c ∈ l, ∀ y ∈ c, ∀ k ∈ y.ids, k ≠ id' := by
    rintro c hc y hy k hk rfl
    obtain ⟨i, n, h1, h2⟩ := hids c hc y hy k hk
    exact hni (ids_of_obj (hnod _ _ h1) h2)
  have hlabb : lab b = some (.obj id, []) := hob.hlab
  have hobj : ∀ k p b', lab b' = some (.obj k, p) → b' < w.heap.size := fun k p b' hb => h.fresh b' (by rw [hb]; simp)
  by_cases hroom : len + l.length ≤ cap
  · -- there is room
    have hbk' : Blk w b (base + cap * ei.size) := by simpa using hbk
    have hin : ∀ k, k < news.length → (w.cell? ⟨b, base + len * ei.size + k, none⟩).isSome = true := by
      intro k hk
      refine cell_of_blk hbk' ?_
      have : (len + l.length) * ei.size ≤ cap * ei.size := Nat.mul_le_mul_right _ hroom
      rw [Nat.add_mul] at this; omega
    have hfr : ∀ k, k < news.length → w.frozen? ⟨b, base + len * ei.size + k, none⟩ = false := by
      intro k hk
      refine frozen_of_blk hbk' ?_
      have : (len + l.length) * ei.size ≤ cap * ei.size := Nat.mul_le_mul_right _ hroom
      rw [Nat.add_mul] at this; omega
    have hr : (Builtin.append_ #[t, tx] o.type #[.slice (some ad) len cap, vy]).run P w = .ok (.slice (some ad) (len + l.length) cap) (w.setCells b (base + len * ei.size) news) := by
      rcases hadr with h0 | h0
      · have hl1 : l.length = 0 := by omega
        have hnn : news = [] := List.eq_nil_of_length_eq_zero (by rw [hnl, hl1, Nat.zero_mul])
        subst hnn
        have hlen0 : len = 0 := by omega
        have hcs := hsrc.cells
        have hls := hsrc.len
        rw [hl1] at hcs hls
        rcases hsrc.kind with ⟨e', hkx⟩ | hkx <;> simp [Builtin.append_, run_underlying hk, run_underlying hkx, sizeOf, typeInfo, i1, i2, hls, hcs, h0, hlen0, hl1, storeCells, World.setCells]
      · have had : ad = ⟨b, base, none⟩ := by simpa using h0
        subst had
        have hr := run_append_room_src (P := P) w t tx o.type ty info hk i1 b base len cap vy l.length news (by rw [i2]; exact hsrc) hroom (by rw [i2]; exact hin) (by rw [i2]; exact hfr)
        rw [i2] at hr
        exact hr
    refine ⟨.slice (some ad) (len + l.length) cap, w.setCells b (base + len * ei.size) news, ?_, labR lab id id', locR loc id id' b base, ?_⟩
    · simp only [execOp, ho, resolve, hc, invoke, builtin, hargs, hat', Sem.run_bind, hr, Result.andThen_ok, Sem.run_pure]
    · have hother : ∀ b', b' ≠ b → (w.setCells b (base + len * ei.size) news).heap[b']? = w.heap[b']? := fun b' hb => heap_setCells_ne b _ _ w hb
      have hz : (w.setCells b (base + len * ei.size) news).heap.size = w.heap.size := size_setCells b _ _ w
      have himm : ∀ b', b' < w.heap.size → lab b' = none → labR lab id id' b' = none ∧ (w.setCells b (base + len * ei.size) news).heap[b']? = w.heap[b']? := by
        intro b' _ hb; exact ⟨labR_none hb, hother b' (by rintro rfl; rw [hlabb] at hb; cases hb)⟩
      have hblk : ∀ b' n, Blk w b' n → Blk (w.setCells b (base + len * ei.size) news) b' n := fun b' n hb => Blk_setCells b _ _ w hb
      have hloc : ∀ i b' base', i ≠ id' → locR loc id id' b base i = some (b', base') → loc i = some (b', base') := by
        intro i b' base' hi hh
        simp only [locR, if_neg hi] at hh
        split at hh
        · cases hh
        · exact hh
      have hV : ∀ y v, (∀ k ∈ y.ids, k ≠ id') → V w lab loc y v → V (w.setCells b (base + len * ei.size) news) (labR lab id id') (locR loc id id' b base) y v := fun y v hy hv =>
        hv.mono himm (by rw [hz]; exact Nat.le_refl _) fun i hi b' base' hl' => ⟨hloc i b' base' (hy i hi) hl', fun n hn => hblk b' n hn⟩
      refine h.step e (put_size _ _ _) (by rw [put_defers]; exact h.defers) ⟨by rw [hz]; exact Nat.le_refl _, (os_setCells b _ _ w).1, (os_setCells b _ _ w).2, fun b' _ hs => ⟨labR_still hs, hother b' (by rintro rfl; rw [hlabb] at hs; exact hs)⟩, hblk⟩ ?_ ?_ ?_ ?_ ?_ ?_ ?_
      · intro s hs
        rw [hwr] at hs
        exact put_other a _ (look_wrD_none hs)
      · intro s zz hs
        rw [hwr] at hs
        obtain ⟨hds, rfl⟩ := look_wrD_some hs
        rw [hds, put_same a _ (by rw [h.size]; exact hd s hds)]
        refine .sl _ _ _ _ _ fun b' base' hl' => ?_
        simp [locR] at hl'
        obtain ⟨rfl, rfl⟩ := hl'
        exact ⟨_, cap, rfl, hroom, hadr, by simpa using hblk _ _ hbk'⟩
      · intro i nd2 b2 base2 hi hu hl2
        rw [hup] at hu
        have hne' : i ≠ id' := by rintro rfl; simp [look] at hu
        have hne : i ≠ id := by rintro rfl; simp [look, hne'] at hu
        refine ⟨by simp only [locR, if_neg hne', if_neg hne]; exact hl2, fun b' q _ hq => ⟨labR_other hq hne, hother b' ?_⟩⟩
        rintro rfl
        rw [hlabb] at hq
        simp only [Option.some.injEq, Prod.mk.injEq, Root.obj.injEq] at hq
        exact hne hq.1.symm
      · intro i nd2 hu
        rw [hup] at hu
        simp only [look] at hu
        split at hu
        · rename_i hi
          subst hi
          cases hu
          refine ⟨b, base, by simp [locR], labR_same hlabb, ?_, hlens, ?_⟩
          · refine (hblk _ _ hbk').le ?_
            simp only [List.length_append, htl]
            have : (len + l.length) * ei.size ≤ cap * ei.size := Nat.mul_le_mul_right _ hroom
            omega
          · intro k cc j y hk hj
            simp only at hk ⊢
            have hjl : j < ei.size := by
              have := hlens cc (List.mem_of_getElem? hk)
              rcases Nat.lt_or_ge j cc.length with h | h
              · omega
              · simp [List.getElem?_eq_none h] at hj
            rcases row_append hk with ⟨h1, h2⟩ | ⟨h1, h2⟩
            · rw [htl] at h1
              rw [List.getElem?_take, if_pos h1] at h2
              obtain ⟨v, hv, hcv⟩ := hob.cells k cc j y h2 hj
              rw [hes2] at hv
              refine ⟨v, ?_, ?_⟩
              · rw [World.cell?_setCells_out b news _ w _ (fun _ _ => Or.inl (by
                  have : (k + 1) * ei.size ≤ len * ei.size := Nat.mul_le_mul_right _ h1
                  rw [Nat.add_mul] at this; simp; omega))]
                exact hv
              · rcases hcv with hcv | hcv
                · exact Or.inl (hV y v (fun kk hkk => hidnd kk (ids_of_cell h2 hj hkk)) hcv)
                · refine Or.inr (hcv.move himm (fun b' q _ hq => ?_) (by rw [hz]; exact Nat.le_refl _))
                  refine ⟨?_, hother b' (by rintro rfl; rw [hlabb] at hq; simp [Lab.app] at hq)⟩
                  exact labR_same hq
            · rw [htl] at h1 h2
              obtain ⟨u, hu, huv⟩ := hrow (k - len) cc j y h2 hj
              refine ⟨u, ?_, Or.inl (hV y u (fun kk hkk => hidl cc (List.mem_of_getElem? h2) y (List.mem_of_getElem? hj) kk hkk) huv)⟩
              have hul := (List.getElem?_eq_some_iff.1 hu).1
              have := World.cell?_setCells_in b news (base + len * ei.size) w hin _ hul
              rw [(List.getElem?_eq_some_iff.1 hu).2] at this
              rw [← this]
              congr 2
              have : k * ei.size = len * ei.size + (k - len) * ei.size := by rw [← Nat.add_mul]; congr 1; omega
              omega
        · split at hu
          · cases hu
          · cases hu
      · intro i hi
        rw [hup] at hi
        simp only [look] at hi
        by_cases hne' : i = id'
        · subst hne'; simp at hi
        · simp only [locR, if_neg hne']
          by_cases hne : i = id
          · rw [if_pos hne]
          · rw [if_neg hne]
            simp [hne', hne] at hi
            exact h.dead i hi
      · intro b' hb'; rw [hz]; exact h.fresh b' (labR_ne hb')
      · intro i hi b' base' hl'
        exact hloc i b' base' (by rintro rfl; exact hni hi) hl'
  · -- a new row
    have holdc : ∀ k, k < len * ei.size → ∃ c y, nd.l[k / ei.size]? = some c ∧ c[k % ei.size]? = some y ∧ (k / ei.size) * ei.size + k % ei.size = k := by
      intro k hk
      obtain ⟨h1, h2, h3⟩ := row_lt hk
      have hc : nd.l[k / ei.size]? = some nd.l[k / ei.size] := List.getElem?_eq_getElem (by omega)
      have hcl := hob.es _ (List.mem_of_getElem? hc)
      exact ⟨_, _, hc, List.getElem?_eq_getElem (by rw [hcl, hes2]; exact h2), h3⟩
    let olds : List Value := (List.range (len * ei.size)).map fun k => (w.cell? ⟨b, base + k, none⟩).getD undef
    have hold1 : ∀ k, k < len * ei.size → w.cell? ⟨b, base + k, none⟩ = some ((w.cell? ⟨b, base + k, none⟩).getD undef) := by
      intro k hk
      obtain ⟨c, y, h1, h2, h3⟩ := holdc k hk
      obtain ⟨v, hv, _⟩ := hob.cells _ c _ y h1 h2
      rw [hes2, Nat.add_assoc, h3] at hv
      rw [hv]; rfl
    have hcapl : len ≤ cap := hlc
    have hold : (Builtin.firstCells info.size len (.slice (some ad) len cap)).run P w.drew = .ok olds.toArray w.drew := by
      rw [i2]
      refine run_firstCells_some w.drew ei.size len ad len cap olds (by simp [olds]) ?_
      intro k v hv
      have hk : k < len * ei.size := by
        have := (List.getElem?_eq_some_iff.1 hv).1
        simpa [olds] using this
      have hv' : (w.cell? ⟨b, base + k, none⟩).getD undef = v := by simpa [olds, hk] using hv
      have had : ad = ⟨b, base, none⟩ := by
        rcases hadr with h | h
        · have : len = 0 := by omega
          rw [this, Nat.zero_mul] at hk; omega
        · simpa using h
      subst had
      rw [addr_add, ← hv']
      have := hold1 k hk
      simpa using this
    have hr := run_append_grow_src (P := P) w t tx o.type ty info zv hk i1 i5 (some ad) len cap olds hold vy l.length news (by rw [i2]; exact hsrc) (by omega) (by omega)
      (by rw [i3]; exact growslice_fits (by omega) hbytes)
    have hge := grownCap_ge w (len + l.length) cap ty
    let G := grownCap w (len + l.length) cap ty
    let row : Array Value := (olds ++ news).toArray ++ Builtin.zeroCells zv.cells (G - (len + l.length))
    have hrs : row.size = G * ei.size := by
      simp only [row, Array.size_append, List.size_toArray, List.length_append, size_zeroCells, hzs', hnl, olds, List.length_map, List.length_range]
      rw [← Nat.add_mul, ← Nat.add_mul]; congr 1; have : len + l.length ≤ G := hge; omega
    let w' : World := w.drew.alloc (.cells row ty)
    have hheap : w'.heap = w.heap.push (.cells row ty) := rfl
    have hother : ∀ b', b' < w.heap.size → w'.heap[b']? = w.heap[b']? := by
      intro b' hb; rw [hheap, Array.getElem?_push, if_neg (by omega)]
    have hnew : w'.heap[w.heap.size]? = some (.cells row ty) := by rw [hheap]; simp
    have hz : w.heap.size ≤ w'.heap.size := by rw [hheap]; simp
    have hblkn : Blk w' w.heap.size row.size := ⟨row, ty, (0, 0), hnew, Nat.le_refl _, by simp⟩
    have himm : ∀ b', b' < w.heap.size → lab b' = none → labG lab id id' w.heap.size b' = none ∧ w'.heap[b']? = w.heap[b']? := by
      intro b' hb' hb; exact ⟨labG_none hb (by omega), hother b' hb'⟩
    have hloc : ∀ i b' base', i ≠ id' → locR loc id id' w.heap.size 0 i = some (b', base') → loc i = some (b', base') := by
      intro i b' base' hi hh
      simp only [locR, if_neg hi] at hh
      split at hh
      · cases hh
      · exact hh
    have hV : ∀ y v, (∀ k ∈ y.ids, k ≠ id') → V w lab loc y v → V w' (labG lab id id' w.heap.size) (locR loc id id' w.heap.size 0) y v := fun y v hy hv =>
      hv.mono himm hz fun i hi b' base' hl' => ⟨hloc i b' base' (hy i hi) hl', fun n hn => hn.same (hother b' hn.lt)⟩
    refine ⟨.slice (some ⟨w.heap.size, 0, none⟩) (len + l.length) G, w', ?_, labG lab id id' w.heap.size, locR loc id id' w.heap.size 0, ?_⟩
    · simp only [execOp, ho, resolve, hc, invoke, builtin, hargs, hat', Sem.run_bind, hr, Result.andThen_ok, Sem.run_pure]
      rfl
    · refine h.step e (put_size _ _ _) (by rw [put_defers]; exact h.defers) ⟨hz, rfl, rfl, fun b' hb' hs => ⟨labG_still hs (by omega), hother b' hb'⟩, fun b' n hn => hn.same (hother b' hn.lt)⟩ ?_ ?_ ?_ ?_ ?_ ?_ ?_
      · intro s hs
        rw [hwr] at hs
        exact put_other a _ (look_wrD_none hs)
      · intro s zz hs
        rw [hwr] at hs
        obtain ⟨hds, rfl⟩ := look_wrD_some hs
        rw [hds, put_same a _ (by rw [h.size]; exact hd s hds)]
        refine .sl _ _ _ _ _ fun b' base' hl' => ?_
        simp [locR] at hl'
        obtain ⟨rfl, rfl⟩ := hl'
        exact ⟨_, G, rfl, hge, Or.inr (by simp), hblkn.le (by rw [hrs]; simp)⟩
      · intro i nd2 b2 base2 hi hu hl2
        rw [hup] at hu
        have hne' : i ≠ id' := by rintro rfl; simp [look] at hu
        have hne : i ≠ id := by rintro rfl; simp [look, hne'] at hu
        refine ⟨by simp only [locR, if_neg hne', if_neg hne]; exact hl2, fun b' q hb' hq => ⟨labG_other hq hne (by omega), hother b' hb'⟩⟩
      · intro i nd2 hu
        rw [hup] at hu
        simp only [look] at hu
        split at hu
        · rename_i hi
          subst hi
          cases hu
          refine ⟨w.heap.size, 0, by simp [locR], by simp [labG], ?_, hlens, ?_⟩
          · refine hblkn.le ?_
            rw [hrs]
            simp only [List.length_append, htl, Nat.zero_add]
            exact Nat.mul_le_mul_right _ hge
          · intro k cc j y hk hj
            simp only at hk ⊢
            have hjl : j < ei.size := by
              have := hlens cc (List.mem_of_getElem? hk)
              rcases Nat.lt_or_ge j cc.length with h | h
              · omega
              · simp [List.getElem?_eq_none h] at hj
            have hcell : ∀ m, w'.cell? ⟨w.heap.size, m, none⟩ = row[m]? := by
              intro m; simp [World.cell?, hnew]
            rw [Nat.zero_add, hcell]
            rcases row_append hk with ⟨h1, h2⟩ | ⟨h1, h2⟩
            · rw [htl] at h1
              rw [List.getElem?_take, if_pos h1] at h2
              obtain ⟨v, hv, hcv⟩ := hob.cells k cc j y h2 hj
              rw [hes2] at hv
              have hlt : k * ei.size + j < len * ei.size := by
                have : (k + 1) * ei.size ≤ len * ei.size := Nat.mul_le_mul_right _ h1
                rw [Nat.add_mul] at this; omega
              refine ⟨v, ?_, ?_⟩
              · have e1 : (olds ++ news)[k * ei.size + j]? = some v := by
                  rw [List.getElem?_append_left (by simp [olds]; exact hlt)]
                  simp only [olds, List.getElem?_map, List.getElem?_range hlt, Option.map_some]
                  rw [← Nat.add_assoc, hv]; rfl
                have e2 := (List.getElem?_eq_some_iff.1 e1).1
                simp only [row]
                rw [Array.getElem?_append_left (by simpa using e2)]
                simpa using e1
              · rcases hcv with hcv | hcv
                · exact Or.inl (hV y v (fun kk hkk => hidnd kk (ids_of_cell h2 hj hkk)) hcv)
                · refine Or.inr (hcv.move himm (fun b' q hb' hq => ⟨?_, hother b' hb'⟩) hz)
                  exact labG_same hq (by simp) (by omega)
            · rw [htl] at h1 h2
              obtain ⟨u, hu, huv⟩ := hrow (k - len) cc j y h2 hj
              refine ⟨u, ?_, Or.inl (hV y u (fun kk hkk => hidl cc (List.mem_of_getElem? h2) y (List.mem_of_getElem? hj) kk hkk) huv)⟩
              have e0 : k * ei.size + j = len * ei.size + ((k - len) * ei.size + j) := by
                have : k * ei.size = len * ei.size + (k - len) * ei.size := by rw [← Nat.add_mul]; congr 1; omega
                omega
              have e1 : (olds ++ news)[k * ei.size + j]? = some u := by
                rw [e0, List.getElem?_append_right (by simp [olds])]
                simpa [olds] using hu
              have e2 := (List.getElem?_eq_some_iff.1 e1).1
              simp only [row]
              rw [Array.getElem?_append_left (by simpa using e2)]
              simpa using e1
        · split at hu
          · cases hu
          · cases hu
      · intro i hi
        rw [hup] at hi
        simp only [look] at hi
        by_cases hne' : i = id'
        · subst hne'; simp at hi
        · simp only [locR, if_neg hne']
          by_cases hne : i = id
          · rw [if_pos hne]
          · rw [if_neg hne]
            simp [hne', hne] at hi
            exact h.dead i hi
      · intro b' hb'
        rw [hheap]; simp
        by_cases hb2 : b' = w.heap.size
        · omega
        · have : lab b' ≠ none := by intro e; exact hb' (labG_none e hb2)
          have := h.fresh b' this; omega
      · intro i hi b' base' hl'
        exact hloc i b' base' (by rintro rfl; exact hni hi) hl'
end snd

end Go.AM
namespace Go.AM
def clearA (ti : TI) (nodes : Nat → Option Node) (op : Op) (vs : List AV) : Option (Nat × Node × Prop) :=
  match op with
  | .call c => match c.callee, c.argTypes.toList, vs with
    | .builtin .clear, [t], [.sl id es i len] => match nodes id, tkind ti t with
      | some nd, .slice e => match ti e with
        | some ei => if ei.size = es ∧ nd.es = es ∧ ei.zero.isSome = true then
            some (id, ⟨es, nd.l.take i ++ (List.replicate len (List.replicate es .undef) ++ nd.l.drop (i + len))⟩, i + len ≤ nd.l.length)
          else none
        | none => none
      | _, _ => none
    | _, _, _ => none
  | _ => none
section snd
variable {P : Program} {ti : TI} (hT : TOk P ti) {w0 : World} {lab0 : Labs} {st : St} {a : Act} {w : World} {lab : Labs} {loc : Locs}
include hT in
theorem clearA_sound (h : RepL w0 lab0 st a w lab loc) {o : Oper} {vs : List AV} {id : Nat} {nd' : Node} {ok : Prop}
    {nodes : Nat → Option Node} (hnod : ∀ i n, nodes i = some n → st.obj i = some n) (hs : clearA ti nodes o.op vs = some (id, nd', ok)) (hok : ok) (hv : OpsV w lab loc vs (o.op.operands.toList.map a.eval)) (e : Eff)
    (hwr : e.wr = wrD o.dst (.tup [])) (hup : e.up = [(id, some nd')]) (hd : ∀ d, o.dst = some d → d < st.n) :
    ∃ v w', (execOp a.eval o).run P w = .ok (.value v) w' ∧ RepL w0 lab0 (e.apply st) (a.put o.dst v) w' lab loc := by
  unfold clearA at hs
  split at hs <;> first | (cases hs; done) | skip
  rename_i c ho
  split at hs <;> first | (cases hs; done) | skip
  rename_i t id0 es i len hc hat
  split at hs <;> first | (cases hs; done) | skip
  rename_i nd ty hnd' hk'
  have hnd := hnod _ _ hnd'
  have hk := tkind_ok hT t
  rw [hk'] at hk
  split at hs <;> first | (cases hs; done) | skip
  rename_i ei hei
  split at hs <;> first | (cases hs; done) | cases hs
  rename_i hcond
  obtain ⟨hes, hes2, hzs⟩ := hcond
  subst hes
  rw [ho] at hv
  obtain ⟨vb, hvv, hvb⟩ := hv.one
  have hargs : c.args.map a.eval = #[vb] := by
    simp [Op.operands, Call.operands, hc] at hvv; apply Array.ext'; simpa using hvv
  have hat' : c.argTypes = #[t] := by apply Array.ext'; simpa using hat
  obtain ⟨b, base, hl, hob⟩ := h.objs id nd hnd
  obtain ⟨ad, cap, rfl, hlc, hadr, hbk⟩ := hvb.inv_sl hl
  obtain ⟨z, hz⟩ := Option.isSome_iff_exists.1 hzs
  obtain ⟨info, i1, i2, i3, i4⟩ := (hT ty ei hei).info
  obtain ⟨zv, i5, i6, i7⟩ := i4 z hz
  have hzs' : zv.cells.size = ei.size := by have := (zero_cells i6).1; simp at this; omega
  have hblk := hob.blk
  rw [hes2] at hblk
  have hlen0 : ((Builtin.zeroCells zv.cells len).toList).length = len * ei.size := by simp [size_zeroCells, hzs']
  have hle : (i + len) * ei.size ≤ nd.l.length * ei.size := Nat.mul_le_mul_right _ hok
  rw [Nat.add_mul] at hle
  have hin : ∀ k, k < ((Builtin.zeroCells zv.cells len).toList).length → (w.cell? ⟨b, base + i * ei.size + k, none⟩).isSome = true := by
    intro k hk2; rw [hlen0] at hk2; exact cell_of_blk hblk (by omega)
  have hfr : ∀ k, k < ((Builtin.zeroCells zv.cells len).toList).length → w.frozen? ⟨b, base + i * ei.size + k, none⟩ = false := by
    intro k hk2; rw [hlen0] at hk2; exact frozen_of_blk hblk (by omega)
  have hone : ∀ v ∈ (Builtin.zeroCells zv.cells len).toList, v.oneCell' = true := by
    intro v hv
    have hv2 : v ∈ zv.cells.toList := by
      simp only [Builtin.zeroCells, Array.toList_map, List.mem_map, Array.mem_toList_iff, Array.mem_range] at hv
      obtain ⟨k, hk2, rfl⟩ := hv
      have hpos : 0 < zv.cells.size := by rcases Nat.eq_zero_or_pos zv.cells.size with h | h; rw [h] at hk2; simp at hk2; exact h
      have hm := Nat.mod_lt k hpos
      rw [getElem!_pos zv.cells _ hm]
      exact Array.getElem_mem_toList hm
    obtain ⟨k, hk2⟩ := List.mem_iff_getElem?.1 hv2
    have h1 := zero_cells i6
    have hkl : k < z.length := by rw [← h1.1]; exact (List.getElem?_eq_some_iff.1 hk2).1
    exact ofV_one (h1.2 k _ v (List.getElem?_eq_getElem hkl) hk2)
  have hrun : (Builtin.clear_ #[t] o.type #[.slice (some ad) len cap]).run P w = .ok (.tuple #[]) (w.setCells b (base + i * ei.size) (Builtin.zeroCells zv.cells len).toList) := by
    rcases Nat.eq_zero_or_pos len with h0 | h0
    · subst h0
      simp [Builtin.clear_, run_underlying hk, Builtin.zeroCells, World.setCells]
    · have had : ad = ⟨b, base + i * ei.size, none⟩ := by rcases hadr with h | h; omega; exact h
      subst had
      have hst := run_storeCells_cells (P := P) b (base + i * ei.size) (Builtin.zeroCells zv.cells len).toList 0 w (by simpa using hin) (by simpa using hfr) hone
      simp only [Nat.add_zero] at hst
      obtain ⟨m, rfl⟩ : ∃ m, len = m + 1 := ⟨len - 1, by omega⟩
      simp [Builtin.clear_, run_underlying hk, zeroValue, typeInfo, i1, i5, hst]
  refine ⟨.tuple #[], w.setCells b (base + i * ei.size) (Builtin.zeroCells zv.cells len).toList, ?_, ?_⟩
  · simp only [execOp, ho, resolve, hc, invoke, builtin, hargs, hat', Sem.run_bind, hrun, Result.andThen_ok, Sem.run_pure]
  · refine step_cells h e (nd := nd) (base := base) hwr hup hd hnd hl hob hes2.symm ?_ (by simp; omega) hin (.imm _ _ (.tup [] [] rfl (by intro j x y hx; simp at hx))) ?_
    · intro cc hcc
      simp only [List.mem_append, List.mem_replicate] at hcc
      rcases hcc with hcc | ⟨_, rfl⟩ | hcc
      · simp only; rw [← hes2]; exact hob.es cc (List.mem_of_mem_take hcc)
      · simp
      · simp only; rw [← hes2]; exact hob.es cc (List.mem_of_mem_drop hcc)
    · intro k cc m x hk2 hm
      simp only at hk2
      have hti : (nd.l.take i).length = i := by simp; omega
      rw [List.getElem?_append, hti] at hk2
      by_cases hki : k < i
      · rw [if_pos hki, List.getElem?_take, if_pos hki] at hk2
        have hmc : m < ei.size := by
          have := hob.es cc (List.mem_of_getElem? hk2)
          rcases Nat.lt_or_ge m cc.length with h | h
          · omega
          · simp [List.getElem?_eq_none h] at hm
        refine Or.inr ⟨Or.inl ?_, cc, hk2, hm⟩
        rw [hes2]
        have : (k + 1) * ei.size ≤ i * ei.size := Nat.mul_le_mul_right _ hki
        rw [Nat.add_mul] at this; omega
      · rw [if_neg hki, List.getElem?_append, List.length_replicate] at hk2
        by_cases hkl : k - i < len
        · rw [if_pos hkl, List.getElem?_replicate, if_pos hkl] at hk2
          cases hk2
          rw [List.getElem?_replicate] at hm
          split at hm <;> first | (cases hm; done) | cases hm
          rename_i hme
          have hlt : (k - i) * ei.size + m < len * ei.size := by
            have : (k - i + 1) * ei.size ≤ len * ei.size := Nat.mul_le_mul_right _ hkl
            rw [Nat.add_mul] at this; omega
          refine Or.inl ⟨(k - i) * ei.size + m, ?_, ((Builtin.zeroCells zv.cells len).toList)[(k - i) * ei.size + m]'(by rw [hlen0]; exact hlt), List.getElem?_eq_getElem _, .undef _⟩
          rw [hes2]
          have : k * ei.size = i * ei.size + (k - i) * ei.size := by rw [← Nat.add_mul]; congr 1; omega
          omega
        · rw [if_neg hkl, List.getElem?_drop] at hk2
          have hke : i + len + (k - i - len) = k := by omega
          rw [hke] at hk2
          refine Or.inr ⟨Or.inr ?_, cc, hk2, hm⟩
          rw [hlen0, hes2]
          have : (i + len) * ei.size ≤ k * ei.size := Nat.mul_le_mul_right _ (by omega)
          rw [Nat.add_mul] at this; omega
end snd
end Go.AM
namespace Go.AM

def opA (st : St) : Operand → Option AV
  | .tmp t => st.slot t
  | .const v => ofV v
  | .func f => some (.fn f [])
  | .global _ => none

def rdOf (st : St) : List Operand → List (Nat × AV)
  | [] => []
  | .tmp t :: r => match st.slot t with
    | some x => (t, x) :: rdOf st r
    | none => rdOf st r
  | _ :: r => rdOf st r

def evs (st : St) : List Operand → Option (List AV)
  | [] => some []
  | x :: r => match opA st x, evs st r with
    | some y, some l => some (y :: l)
    | _, _ => none

def obsOf (st : St) (vs : List AV) : List (Nat × Option Node) := (idsL vs).map fun i => (i, st.obj i)
/-- the ids in the rows of what is appended -/
def rowIds (st : St) : List AV → List Nat
  | [_, .sl i _ _ _] => match st.obj i with
    | some nd => nd.l.flatMap idsL
    | none => []
  | _ => []
def obsA (st : St) (vs : List AV) : List (Nat × Option Node) := obsOf st vs ++ (rowIds st vs).map fun i => (i, st.obj i)
/-- what is looked at when a new object is made: append to nil looks into the rows that it takes -/
def obsN (st : St) (vs : List AV) : List (Nat × Option Node) := match vs with
  | [.nils, .sl i a b c] => obsA st [.nils, .sl i a b c]
  | _ => obsOf st vs
theorem obsN_sub {st : St} {vs : List AV} : ∀ p ∈ obsOf st vs, p ∈ obsN st vs := by
  intro p hp
  unfold obsN
  split
  · exact List.mem_append_left _ hp
  · exact hp
theorem obsN_ok {st : St} {vs : List AV} : ∀ p ∈ obsN st vs, st.obj p.1 = p.2 := by
  have h1 : ∀ p ∈ obsOf st vs, st.obj p.1 = p.2 := by
    intro p hp
    unfold obsOf at hp
    obtain ⟨i, _, rfl⟩ := List.mem_map.1 hp; rfl
  intro p hp
  unfold obsN at hp
  split at hp
  · unfold obsA at hp
    rcases List.mem_append.1 hp with hp | hp
    · exact h1 p hp
    · obtain ⟨i, _, rfl⟩ := List.mem_map.1 hp; rfl
  · exact h1 p hp
def nodesOf (ob : List (Nat × Option Node)) (i : Nat) : Option Node := (look i ob).join

def dstOk (st : St) : Option Nat → Bool
  | some d => decide (d < st.n)
  | none => true

theorem evs_pre {st st' : St} {xs : List Operand} {vs : List AV} (h : evs st xs = some vs) (hp : ∀ p ∈ rdOf st xs, st'.slot p.1 = some p.2) : evs st' xs = some vs := by
  induction xs generalizing vs with
  | nil => exact h
  | cons x xs ih =>
    simp only [evs] at h ⊢
    split at h <;> first | (cases h; done) | cases h
    rename_i y l hy hl
    have hx : opA st' x = some y := by
      cases x with
      | tmp t => exact hp (t, y) (by simp only [opA] at hy; simp [rdOf, hy])
      | const v => exact hy
      | func f => exact hy
      | global g => exact hy
    have hr := ih hl (fun p hp' => hp p (by
      cases x with
      | tmp t => simp only [opA] at hy; simp only [rdOf, hy]; exact List.mem_cons_of_mem _ hp'
      | const v => exact hp'
      | func f => exact hp'
      | global g => exact hp'))
    simp [hx, hr]

theorem rdOf_self {st : St} (xs : List Operand) : ∀ p ∈ rdOf st xs, st.slot p.1 = some p.2 := by
  induction xs with
  | nil => intro p hp; cases hp
  | cons x xs ih =>
    intro p hp
    cases x with
    | tmp t =>
      simp only [rdOf] at hp
      split at hp
      · rename_i y hy
        rcases List.mem_cons.1 hp with rfl | hp
        · exact hy
        · exact ih p hp
      · exact ih p hp
    | const v => exact ih p hp
    | func f => exact ih p hp
    | global g => exact ih p hp

section
variable {w0 : World} {lab0 : Labs} {st : St} {a : Act} {w : World} {lab : Labs} {loc : Locs}

theorem evs_V (h : RepL w0 lab0 st a w lab loc) {xs : List Operand} {vs : List AV} (he : evs st xs = some vs) : OpsV w lab loc vs (xs.map a.eval) := by
  induction xs generalizing vs with
  | nil => simp [evs] at he; subst he; exact ⟨rfl, by intro j x y hx; simp at hx⟩
  | cons x xs ih =>
    simp only [evs] at he
    split at he <;> first | (cases he; done) | cases he
    rename_i y l hy hl
    obtain ⟨h1, h2⟩ := ih hl
    have hx : V w lab loc y (a.eval x) := by
      cases x with
      | tmp t => exact h.slots t y hy
      | const v => exact .imm _ _ (ofV_sound hy)
      | func f => simp only [opA] at hy; cases hy; exact .fn f [] [] rfl (by intro j x y hx; simp at hx)
      | global g => cases hy
    refine ⟨by simp [h1], ?_⟩
    intro j u v hu hv
    cases j with
    | zero => simp at hu hv; subst hu; subst hv; exact hx
    | succ j => exact h2 j u v (by simpa using hu) (by simpa using hv)

theorem evs_ids {xs : List Operand} {vs : List AV} (he : evs st xs = some vs) : ∀ x ∈ vs, ∀ k ∈ x.ids, k ∈ st.ids := by
  induction xs generalizing vs with
  | nil => simp [evs] at he; subst he; intro x hx; cases hx
  | cons x xs ih =>
    simp only [evs] at he
    split at he <;> first | (cases he; done) | cases he
    rename_i y l hy hl
    intro z hz k hk
    rcases List.mem_cons.1 hz with rfl | hz
    · cases x with
      | tmp t => exact ids_of_slot hy hk
      | const v => rw [(ofV_sound (w := default) (lab := fun _ => none) hy).ids] at hk; cases hk
      | func f => simp only [opA] at hy; cases hy; simp [AV.ids, idsL] at hk
      | global g => cases hy
    · exact ih hl z hz k hk

theorem nodesOf_pre {ob : List (Nat × Option Node)} (h : ∀ p ∈ ob, st.obj p.1 = p.2) : ∀ i nd, nodesOf ob i = some nd → st.obj i = some nd := by
  intro i nd hi
  unfold nodesOf at hi
  cases hl : look i ob with
  | none => simp [hl] at hi
  | some o =>
    simp [hl] at hi
    subst hi
    exact h (i, some nd) (look_mem hl)
end

/-- what is moved is not looked into -/
def obF : Op → List (Nat × Option Node) → List (Nat × Option Node)
  | .move _, _ => []
  | .assign _, _ => []
  | .indexAddr _ _ _, _ => []
  | _, l => l
theorem obF_sub {op : Op} {l : List (Nat × Option Node)} : ∀ p ∈ obF op l, p ∈ l := by
  intro p hp
  unfold obF at hp
  split at hp <;> first | (cases hp; done) | exact hp
theorem indexAddr_some (ti : TI) {nodes nodes2 : Nat → Option Node} (h : ∀ i, (nodes i).isSome = (nodes2 i).isSome) (t : Nat) (x y : AV) : indexAddrA ti nodes t x y = indexAddrA ti nodes2 t x y := by
  unfold indexAddrA
  split
  · rfl
  · rename_i id es i0 len k i
    have := h id
    cases h1 : nodes id <;> cases h2 : nodes2 id <;> simp [h1, h2] at this ⊢
  · rfl
theorem evalP_ia (ti : TI) {nodes nodes2 : Nat → Option Node} (h : ∀ i, (nodes i).isSome = (nodes2 i).isSome) (t : Nat) (a b : Operand) (vs : List AV) : evalP ti nodes (.indexAddr t a b) vs = evalP ti nodes2 (.indexAddr t a b) vs :=
  match vs with
  | [] => rfl
  | [_] => rfl
  | [x, y] => indexAddr_some ti h t x y
  | _ :: _ :: _ :: _ => rfl
theorem obF_or (ti : TI) (nodes : Nat → Option Node) (op : Op) (vs : List AV) (l : List (Nat × Option Node)) : obF op l = l ∨ evalP ti nodes op vs = evalP ti (fun _ => none) op vs ∨ ∃ t a b, op = .indexAddr t a b := by
  cases op <;> first | exact Or.inl rfl | exact Or.inr (Or.inl rfl) | exact Or.inr (Or.inr ⟨_, _, _, rfl⟩)

/-- of what an address is taken, it must be there -/
def exF : Op → List (Nat × Option Node) → List Nat
  | .indexAddr _ _ _, l => (l.filter fun p => p.2.isSome).map (·.1)
  | _, _ => []
/-- an operation that calls nothing: its effect, and what it asks -/
def opEff (ti : TI) (o : Oper) (st : St) (id : Nat) : Option (Eff × Prop) :=
  match evs st o.op.operands.toList with
  | none => none
  | some vs =>
    if dstOk st o.dst then
      match evalP ti (nodesOf (obsOf st vs)) o.op vs with
      | some (x, ok) => some ({ rd := rdOf st o.op.operands.toList, ob := obF o.op (obsOf st vs), wr := wrD o.dst x, ex := exF o.op (obsOf st vs) }, ok)
      | none =>
        match newA ti (nodesOf (obsN st vs)) id o.op vs with
        | some (nd, x, ok) => some ({ rd := rdOf st o.op.operands.toList, ob := (id, none) :: obsN st vs, new := [id], wr := wrD o.dst x, up := [(id, some nd)] }, ok ∧ st.obj id = none ∧ id ∉ st.ids)
        | none =>
          match appA ti (nodesOf (obsA st vs)) id o.op vs with
          | some (old, nd, x, ok) => some ({ rd := rdOf st o.op.operands.toList, ob := (id, none) :: obsA st vs, new := [id], wr := wrD o.dst x, up := [(id, some nd), (old, none)] }, ok ∧ st.obj id = none ∧ id ∉ st.ids)
          | none =>
            match o.op with
            | .store t _ _ => match storeA ti (nodesOf (obsOf st vs)) t vs with
              | some (i, nd, ok) => some ({ rd := rdOf st o.op.operands.toList, ob := obsOf st vs, wr := wrD o.dst .undef, up := [(i, some nd)] }, ok)
              | none => none
            | _ => match clearA ti (nodesOf (obsOf st vs)) o.op vs with
              | some (i, nd, ok) => some ({ rd := rdOf st o.op.operands.toList, ob := obsOf st vs, wr := wrD o.dst (.tup []), up := [(i, some nd)] }, ok)
              | none => none
    else none

/-- an operation tells its effect rightly, wherever what it looks at is as told -/
def Sound (P : Program) (w0 : World) (lab0 : Labs) (n : Nat) (o : Oper) (e : Eff) : Prop :=
  ∀ st a w, st.n = n → e.pre st → Rep w0 lab0 st a w → ∀ (next : Act → World → Prop) (Q : Exit → Act → World → Prop), (∀ a' w', Rep w0 lab0 (e.apply st) a' w' → next a' w') → o.wp P a w next Q

section snd
variable {P : Program} {ti : TI} (hT : TOk P ti) {w0 : World} {lab0 : Labs}

theorem dstOk_lt {st st' : St} {dst : Option Nat} (h : dstOk st dst = true) (hn : st'.n = st.n) : ∀ d, dst = some d → d < st'.n := by
  intro d hd; subst hd; rw [hn]; simpa [dstOk] using h

include hT in
theorem opEff_sound {o : Oper} {st : St} {id : Nat} {e : Eff} {ok : Prop} (h : opEff ti o st id = some (e, ok)) (hok : ok) : e.pre st ∧ Sound P w0 lab0 st.n o e := by
  unfold opEff at h
  split at h <;> first | (cases h; done) | skip
  rename_i vs hvs
  split at h <;> first | (cases h; done) | skip
  rename_i hdst
  have hobs : ∀ p ∈ obsOf st vs, st.obj p.1 = p.2 := by
    intro p hp
    unfold obsOf at hp
    obtain ⟨i, _, rfl⟩ := List.mem_map.1 hp; rfl
  have hobsA : ∀ p ∈ obsA st vs, st.obj p.1 = p.2 := by
    intro p hp
    rcases List.mem_append.1 hp with hp | hp
    · exact hobs p hp
    · obtain ⟨i, _, rfl⟩ := List.mem_map.1 hp; rfl
  have hrd := rdOf_self (st := st) o.op.operands.toList
  -- the parts that all share
  have sh : ∀ {e : Eff} {st' : St} {a w lab loc}, e.rd = rdOf st o.op.operands.toList → (∀ p ∈ obsOf st vs, p ∈ e.ob) → e.pre st' → RepL w0 lab0 st' a w lab loc →
      OpsV w lab loc vs (o.op.operands.toList.map a.eval) ∧ (∀ i nd, nodesOf (obsOf st vs) i = some nd → st'.obj i = some nd) ∧ (∀ x ∈ vs, ∀ k ∈ x.ids, k ∈ st'.ids) := by
    intro e st' a w lab loc he1 he2 hp hR
    have hv := evs_pre (st' := st') hvs (by rw [← he1]; exact hp.1)
    exact ⟨evs_V hR hv, nodesOf_pre (fun p hp' => hp.2.1 p (he2 p hp')), evs_ids hv⟩
  split at h
  · cases h
    rename_i x hev
    refine ⟨⟨hrd, fun p hp => hobs p (obF_sub p hp), by simp, ?_⟩, ?_⟩
    · intro i hi
      cases hop : o.op <;> rw [hop] at hi <;> first | (cases hi; done) | skip
      obtain ⟨p, hp, rfl⟩ := List.mem_map.1 hi
      obtain ⟨hp1, hp2⟩ := List.mem_filter.1 hp
      rw [hobs p hp1]; exact hp2
    intro st' a w hn hp ⟨lab, loc, hR⟩ next Q hnext
    obtain ⟨v, hr, hV⟩ : ∃ v, (execOp a.eval o).run P w = .ok (.value v) w ∧ V w lab loc x v := by
      rcases obF_or ti (nodesOf (obsOf st vs)) o.op vs (obsOf st vs) with h1 | h1 | ⟨t, ia, ib, h1⟩
      · obtain ⟨hv, hnod, _⟩ := sh (e := { rd := rdOf st o.op.operands.toList, ob := obF o.op (obsOf st vs), wr := wrD o.dst x, ex := exF o.op (obsOf st vs) }) rfl (fun p hp => by rw [h1]; exact hp) hp hR
        exact evalP_sound hT (fun i nd hi => hR.objs i nd (hnod i nd hi)) hev hok hv
      · rw [h1] at hev
        have hv := evs_pre (st' := st') hvs hp.1
        exact evalP_sound hT (nodes := fun _ => none) (fun i nd hi => by cases hi) hev hok (evs_V hR hv)
      · have hv := evs_pre (st' := st') hvs hp.1
        have hx : ∀ i ∈ (obsOf st vs).filter (fun p => p.2.isSome), (st'.obj i.1).isSome = true := fun i hi => hp.2.2.2 i.1 (by rw [h1]; exact List.mem_map.2 ⟨i, hi, rfl⟩)
        have hev2 : evalP ti (fun i => if (nodesOf (obsOf st vs) i).isSome = true then st'.obj i else none) o.op vs = some (x, ok) := by
          rw [← hev, h1]
          have hs : ∀ i, ((fun i => if (nodesOf (obsOf st vs) i).isSome = true then st'.obj i else none) i).isSome = (nodesOf (obsOf st vs) i).isSome := by
            intro i
            simp only
            cases hni : nodesOf (obsOf st vs) i with
            | none => rfl
            | some nd =>
              simp only [Option.isSome_some, if_true]
              unfold nodesOf at hni
              cases hlk : look i (obsOf st vs) with
              | none => rw [hlk] at hni; cases hni
              | some y =>
                rw [hlk] at hni
                have hm := look_mem hlk
                have hy : y = some nd := by simpa using hni
                subst hy
                exact hx (i, some nd) (List.mem_filter.2 ⟨hm, rfl⟩)
          exact evalP_ia ti hs _ _ _ _
        exact evalP_sound hT (fun i nd hi => hR.objs i nd (by
          revert hi
          split
          · exact fun hi => hi
          · intro hi; cases hi)) hev2 hok (evs_V hR hv)
    unfold Oper.wp
    rw [hr]
    exact hnext _ _ ⟨lab, loc, step_pure hR _ rfl rfl (dstOk_lt hdst hn) hV rfl rfl rfl⟩
  · split at h
    · cases h
      rename_i nd x ok' hnew
      obtain ⟨hok1, hid, hni⟩ := hok
      refine ⟨⟨hrd, by intro p hp; rcases List.mem_cons.1 hp with rfl | hp; exact hid; exact obsN_ok p hp, by simpa using hni⟩, ?_⟩
      intro st' a w hn hp ⟨lab, loc, hR⟩ next Q hnext
      obtain ⟨hv, _, hids⟩ := sh (e := { rd := rdOf st o.op.operands.toList, ob := (id, none) :: obsN st vs, new := [id], wr := wrD o.dst x, up := [(id, some nd)] }) rfl (fun p hp => List.mem_cons_of_mem _ (obsN_sub p hp)) hp hR
      have hnod : ∀ i nd, nodesOf (obsN st vs) i = some nd → st'.obj i = some nd := nodesOf_pre (fun p hp' => hp.2.1 p (List.mem_cons_of_mem _ hp'))
      have hid' : st'.obj id = none := hp.2.1 (id, none) List.mem_cons_self
      have hni' : id ∉ st'.ids := hp.2.2.1 id (by simp)
      obtain ⟨⟨v, w', c, ty, fz, hr, h1, h2, h3, h4, h5, h6, h7⟩, h8, h9⟩ := newA_sound hT (fun i nd hi => hR.objs i nd (hnod i nd hi)) hnew hok1 hv
      unfold Oper.wp
      rw [hr]
      refine hnext _ _ ⟨_, _, step_new hR _ rfl rfl (dstOk_lt hdst hn) h1 h2 h3 h4 hni' ?_ hid' h8 h5 ?_ h7⟩
      · intro hk
        rcases h9 id hk with ⟨y, hy, hk⟩ | ⟨i, n, hi, hk⟩
        · exact hni' (hids y hy id hk)
        · exact hni' (ids_of_obj (hnod i n hi) hk)
      · intro i cc j y hi hj
        obtain ⟨u, hu, hV⟩ := h6 i cc j y hi hj
        exact ⟨u, by simpa using hu, hV⟩
    · split at h
      · cases h
        rename_i old nd x ok' happ
        obtain ⟨hok1, hid, hni⟩ := hok
        refine ⟨⟨hrd, by intro p hp; rcases List.mem_cons.1 hp with rfl | hp; exact hid; exact hobsA p hp, by simpa using hni⟩, ?_⟩
        intro st' a w hn hp ⟨lab, loc, hR⟩ next Q hnext
        obtain ⟨hv, _, hids⟩ := sh (e := { rd := rdOf st o.op.operands.toList, ob := (id, none) :: obsA st vs, new := [id], wr := wrD o.dst x, up := [(id, some nd), (old, none)] }) rfl (fun p hp => List.mem_cons_of_mem _ (List.mem_append_left _ hp)) hp hR
        have hnod : ∀ i nd, nodesOf (obsA st vs) i = some nd → st'.obj i = some nd := nodesOf_pre (fun p hp' => hp.2.1 p (List.mem_cons_of_mem _ hp'))
        have hid' : st'.obj id = none := hp.2.1 (id, none) List.mem_cons_self
        have hni' : id ∉ st'.ids := hp.2.2.1 id (by simp)
        obtain ⟨v, w', hr, hR'⟩ := appA_sound hT hR hnod happ hok1 hv { rd := rdOf st o.op.operands.toList, ob := (id, none) :: obsA st vs, new := [id], wr := wrD o.dst x, up := [(id, some nd), (old, none)] } rfl rfl (dstOk_lt hdst hn) hni' hid'
        unfold Oper.wp
        rw [hr]
        exact hnext _ _ hR'
      · split at h
        · rename_i t x y hop
          split at h <;> first | (cases h; done) | cases h
          rename_i i nd hst
          refine ⟨⟨hrd, hobs, by simp⟩, ?_⟩
          intro st' a w hn hp ⟨lab, loc, hR⟩ next Q hnext
          obtain ⟨hv, hnod, hids⟩ := sh (e := { rd := rdOf st o.op.operands.toList, ob := obsOf st vs, wr := wrD o.dst .undef, up := [(i, some nd)] }) rfl (fun p hp => hp) hp hR
          rw [hop] at hv
          simp only [Op.operands, List.map_cons, List.map_nil] at hv
          obtain ⟨w', hr, hR'⟩ := storeA_sound hT hR hop hnod hst hok hv { rd := rdOf st o.op.operands.toList, ob := obsOf st vs, wr := wrD o.dst .undef, up := [(i, some nd)] } rfl rfl (dstOk_lt hdst hn)
          unfold Oper.wp
          rw [hr]
          exact hnext _ _ ⟨lab, loc, hR'⟩
        · split at h <;> first | (cases h; done) | cases h
          rename_i i nd hst
          refine ⟨⟨hrd, hobs, by simp⟩, ?_⟩
          intro st' a w hn hp ⟨lab, loc, hR⟩ next Q hnext
          obtain ⟨hv, hnod, hids⟩ := sh (e := { rd := rdOf st o.op.operands.toList, ob := obsOf st vs, wr := wrD o.dst (.tup []), up := [(i, some nd)] }) rfl (fun p hp => hp) hp hR
          obtain ⟨v, w', hr, hR'⟩ := clearA_sound hT hR hnod hst hok hv { rd := rdOf st o.op.operands.toList, ob := obsOf st vs, wr := wrD o.dst (.tup []), up := [(i, some nd)] } rfl rfl (dstOk_lt hdst hn)
          unfold Oper.wp
          rw [hr]
          exact hnext _ _ ⟨lab, loc, hR'⟩
end snd

end Go.AM
