/- The abstract machine, part 1: abstract values, their relation to the model's values, and what keeps it. No program in sight. -/
import Derived.Calls
set_option linter.unusedVariables false
set_option linter.unusedSimpArgs false
namespace Go.AM

inductive Root where
  | obj (n : Nat) | arg (k : Nat) | res | tmp
  deriving DecidableEq

abbrev Lab := Root × List (Nat × Nat)
def Lab.down (p : Lab) (i j : Nat) : Lab := (p.1, p.2 ++ [(i, j)])
abbrev Labs := Nat → Option Lab
abbrev Locs := Nat → Option (Nat × Nat)

/-- abstract values -/
inductive AV where
  | undef
  | bool (b : Bool)
  | int (k : IntKind) (n : Int)
  | str (s : List UInt8)
  | nilp
  | nils
  | zsl
  | nel
  | any
  | isl (es : Nat) (l : List (List AV))
  | osl (es : Nat) (l : List (List AV))
  | ip (l : List AV)
  | op (l : List AV)
  | ptr (id es i j : Nat)
  | sl (id es i len : Nat)
  | fn (f : FuncId) (caps : List AV)
  | agg (cs : List AV)
  | tup (vs : List AV)
  | gate (e : Bool) (x : AV)

instance : Inhabited AV := ⟨.undef⟩

/-- one cell's worth, nothing detached -/
def AV.plain : AV → Bool
  | .osl _ _ | .op _ | .agg _ | .tup _ | .undef | .any | .gate _ _ => false
  | _ => true

mutual
def AV.ids : AV → List Nat
  | .ptr id _ _ _ => [id]
  | .sl id _ _ _ => [id]
  | .fn _ cs => idsL cs
  | .agg cs => idsL cs
  | .tup cs => idsL cs
  | .gate _ x => x.ids
  | _ => []
def idsL : List AV → List Nat
  | [] => []
  | x :: xs => x.ids ++ idsL xs
end

theorem mem_idsL {x : AV} {l : List AV} (h : x ∈ l) {i : Nat} (hi : i ∈ x.ids) : i ∈ idsL l := by
  induction l with
  | nil => cases h
  | cons y ys ih =>
    simp only [idsL, List.mem_append]
    rcases List.mem_cons.1 h with rfl | h
    · exact Or.inl hi
    · exact Or.inr (ih h)

/-- one cell's worth, nothing that refers to an object by its id -/
def AV.tree : AV → Bool
  | .bool _ | .int _ _ | .str _ | .nilp | .nils | .zsl | .nel | .isl _ _ | .ip _ | .osl _ _ | .op _ => true
  | _ => false

/-- a block of cells that may be written, at least n of them -/
def Blk (w : World) (b n : Nat) : Prop :=
  ∃ c ty fz, w.heap[b]? = some (.cells c ty fz) ∧ n ≤ c.size ∧ ∀ o, o < c.size → ¬ (fz.1 ≤ o ∧ o < fz.2)

theorem Blk.le {w : World} {b n m : Nat} (h : Blk w b n) (hm : m ≤ n) : Blk w b m := by
  obtain ⟨c, ty, fz, h1, h2, h3⟩ := h; exact ⟨c, ty, fz, h1, by omega, h3⟩

theorem Blk.lt {w : World} {b n : Nat} (h : Blk w b n) : b < w.heap.size := by
  obtain ⟨c, ty, fz, h1, _⟩ := h
  rcases Nat.lt_or_ge b w.heap.size with h | h
  · exact h
  · simp [Array.getElem?_eq_none h] at h1

theorem Blk.same {w w' : World} {b n : Nat} (h : Blk w b n) (e : w'.heap[b]? = w.heap[b]?) : Blk w' b n := by
  obtain ⟨c, ty, fz, h1, h2, h3⟩ := h; exact ⟨c, ty, fz, by rw [e, h1], h2, h3⟩

theorem cell_same {w w' : World} {a : Addr} (e : w'.heap[a.block]? = w.heap[a.block]?) : w'.cell? a = w.cell? a := by
  unfold World.cell?; rw [e]

theorem frozen_of_blk {w : World} {b n o : Nat} (h : Blk w b n) (ho : o < n) : w.frozen? ⟨b, o, none⟩ = false := by
  obtain ⟨c, ty, fz, h1, h2, h3⟩ := h
  obtain ⟨lo, hi⟩ := fz
  have := h3 o (by omega)
  simp only [World.frozen?, h1]
  simpa using this

/-- readonly -/
inductive I (w : World) (lab : Labs) : AV → Value → Prop
  | bool (b : Bool) : I w lab (.bool b) (.bool b)
  | int (k : IntKind) (n : Int) : I w lab (.int k n) (.int k n)
  | str (s : List UInt8) : I w lab (.str s) (.string ⟨s.toArray⟩)
  | nilp : I w lab .nilp (.pointer none)
  | nils : I w lab .nils (.slice none 0 0)
  | zsl (a : Option Addr) : I w lab .zsl (.slice a 0 0)
  | nel (a : Addr) (cap : Nat) : I w lab .nel (.slice (some a) 0 cap)
  | any (v : Value) : I w lab .any v
  | nsl (es : Nat) : I w lab (.isl es []) (.slice none 0 0)
  | esl (es : Nat) (a : Addr) (cap : Nat) : I w lab (.isl es []) (.slice (some a) 0 cap)
  | isl (es : Nat) (l : List (List AV)) (b off cap : Nat) (vals : Nat → Nat → Value) (hb : lab b = none) (hs : b < w.heap.size) (hc : l.length ≤ cap)
      (hes : ∀ c ∈ l, c.length = es) (hp : ∀ c ∈ l, ∀ x ∈ c, AV.plain x = true)
      (hv : ∀ i j, i < l.length → j < es → w.cell? ⟨b, off + i * es + j, none⟩ = some (vals i j))
      (hr : ∀ i c j x, l[i]? = some c → c[j]? = some x → I w lab x (vals i j)) :
      I w lab (.isl es l) (.slice (some ⟨b, off, none⟩) l.length cap)
  | ip (l : List AV) (b off : Nat) (vals : Nat → Value) (hb : lab b = none) (hs : b < w.heap.size)
      (hv : ∀ j, j < l.length → w.cell? ⟨b, off + j, none⟩ = some (vals j))
      (hr : ∀ j x, l[j]? = some x → I w lab x (vals j)) :
      I w lab (.ip l) (.pointer (some ⟨b, off, none⟩))
  | fn (f : FuncId) (cs : List AV) (vs : List Value) (hl : cs.length = vs.length)
      (hr : ∀ (j : Nat) x y, cs[j]? = some x → vs[j]? = some y → I w lab x y) : I w lab (.fn f cs) (.func (.func f) #[] ⟨vs⟩)
  | agg (cs : List AV) (vs : List Value) (hl : cs.length = vs.length)
      (hr : ∀ (j : Nat) x y, cs[j]? = some x → vs[j]? = some y → I w lab x y) : I w lab (.agg cs) (.agg ⟨vs⟩)
  | tup (cs : List AV) (vs : List Value) (hl : cs.length = vs.length)
      (hr : ∀ (j : Nat) x y, cs[j]? = some x → vs[j]? = some y → I w lab x y) : I w lab (.tup cs) (.tuple ⟨vs⟩)

theorem idsL_nil {cs : List AV} (h : ∀ x ∈ cs, x.ids = []) : idsL cs = [] := by
  induction cs with
  | nil => rfl
  | cons x cs ih => simp only [idsL]; rw [h x List.mem_cons_self, ih fun y hy => h y (List.mem_cons_of_mem _ hy)]; rfl

theorem I.ids {w : World} {lab : Labs} {x : AV} {v : Value} (h : I w lab x v) : x.ids = [] := by
  have key : ∀ (cs : List AV) (vs : List Value), cs.length = vs.length → (∀ (j : Nat) x y, cs[j]? = some x → vs[j]? = some y → x.ids = []) → idsL cs = [] := by
    intro cs vs hl ih
    refine idsL_nil fun x hx => ?_
    obtain ⟨j, hj⟩ := List.mem_iff_getElem?.1 hx
    have : j < vs.length := by rw [← hl]; exact (List.getElem?_eq_some_iff.1 hj).1
    exact ih j x _ hj (List.getElem?_eq_getElem this)
  induction h with
  | fn f cs vs hl _ ih => exact key cs vs hl ih
  | agg cs vs hl _ ih => exact key cs vs hl ih
  | tup cs vs hl _ ih => exact key cs vs hl ih
  | _ => rfl

/-- blocks that nobody here writes: those without a label may be read, those of the root 'tmp' may not -/
def still : Option Lab → Prop
  | none => True
  | some (.tmp, _) => True
  | _ => False

/-- what every step keeps -/
structure Ext (lab : Labs) (w : World) (lab' : Labs) (w' : World) : Prop where
  size : w.heap.size ≤ w'.heap.size
  os : w'.os = w.os
  out : w'.output = w.output
  kept : ∀ b, b < w.heap.size → still (lab b) → lab' b = lab b ∧ w'.heap[b]? = w.heap[b]?
  blk : ∀ b n, Blk w b n → Blk w' b n

theorem Ext.imm {lab : Labs} {w : World} {lab' : Labs} {w' : World} (h : Ext lab w lab' w') : ∀ b, b < w.heap.size → lab b = none → lab' b = none ∧ w'.heap[b]? = w.heap[b]? := by
  intro b hb hl
  have := h.kept b hb (by rw [hl]; trivial)
  exact ⟨by rw [this.1, hl], this.2⟩

theorem Ext.refl (lab : Labs) (w : World) : Ext lab w lab w := ⟨Nat.le_refl _, rfl, rfl, fun _ _ _ => ⟨rfl, rfl⟩, fun _ _ h => h⟩

theorem Ext.trans {l1 l2 l3 : Labs} {w1 w2 w3 : World} (h : Ext l1 w1 l2 w2) (h' : Ext l2 w2 l3 w3) : Ext l1 w1 l3 w3 :=
  ⟨Nat.le_trans h.size h'.size, h'.os.trans h.os, h'.out.trans h.out, fun b hb hl => by
    have a := h.kept b hb hl
    have c := h'.kept b (Nat.lt_of_lt_of_le hb h.size) (by rw [a.1]; exact hl)
    exact ⟨c.1.trans a.1, c.2.trans a.2⟩, fun b n hb => h'.blk b n (h.blk b n hb)⟩

theorem I.mono {w w' : World} {lab lab' : Labs} {x : AV} {v : Value} (h : I w lab x v)
    (hk : ∀ b, b < w.heap.size → lab b = none → lab' b = none ∧ w'.heap[b]? = w.heap[b]?) (hz : w.heap.size ≤ w'.heap.size) : I w' lab' x v := by
  induction h with
  | bool b => exact .bool b
  | int k n => exact .int k n
  | str s => exact .str s
  | nilp => exact .nilp
  | nils => exact .nils
  | zsl a => exact .zsl a
  | nel a cap => exact .nel a cap
  | any v => exact .any v
  | nsl es => exact .nsl es
  | esl es a cap => exact .esl es a cap
  | isl es l b off cap vals hb hs hc hes hp hv _ ih =>
    exact .isl es l b off cap vals (hk b hs hb).1 (Nat.lt_of_lt_of_le hs hz) hc hes hp
      (fun i j hi hj => by rw [cell_same (a := ⟨b, off + i * es + j, none⟩) (hk b hs hb).2]; exact hv i j hi hj) ih
  | ip l b off vals hb hs hv _ ih =>
    exact .ip l b off vals (hk b hs hb).1 (Nat.lt_of_lt_of_le hs hz)
      (fun j hj => by rw [cell_same (a := ⟨b, off + j, none⟩) (hk b hs hb).2]; exact hv j hj) ih
  | fn f cs vs hl _ ih => exact .fn f cs vs hl ih
  | agg cs vs hl _ ih => exact .agg cs vs hl ih
  | tup cs vs hl _ ih => exact .tup cs vs hl ih

theorem I.ext {w w' : World} {lab lab' : Labs} {x : AV} {v : Value} (h : I w lab x v) (e : Ext lab w lab' w') : I w' lab' x v := h.mono e.imm e.size

/-- trees: what is owned bears the label of its place -/
inductive T (w : World) (lab : Labs) : Lab → AV → Value → Prop
  | imm (p : Lab) (x : AV) (v : Value) (h : I w lab x v) : T w lab p x v
  | osl (p : Lab) (es : Nat) (l : List (List AV)) (b off cap : Nat) (vals : Nat → Nat → Value) (hb : lab b = some p) (hk : Blk w b (off + cap * es)) (hc : l.length ≤ cap)
      (hes : ∀ c ∈ l, c.length = es) (hp : ∀ c ∈ l, ∀ x ∈ c, AV.tree x = true)
      (hv : ∀ i j, i < l.length → j < es → w.cell? ⟨b, off + i * es + j, none⟩ = some (vals i j))
      (hr : ∀ i c j x, l[i]? = some c → c[j]? = some x → T w lab (p.down i j) x (vals i j)) :
      T w lab p (.osl es l) (.slice (some ⟨b, off, none⟩) l.length cap)
  | op (p : Lab) (l : List AV) (b off : Nat) (vals : Nat → Value) (hb : lab b = some p) (hk : Blk w b (off + l.length)) (hp : ∀ x ∈ l, AV.tree x = true)
      (hv : ∀ j, j < l.length → w.cell? ⟨b, off + j, none⟩ = some (vals j))
      (hr : ∀ j x, l[j]? = some x → T w lab (p.down 0 j) x (vals j)) :
      T w lab p (.op l) (.pointer (some ⟨b, off, none⟩))
  | agg (p : Lab) (cs : List AV) (vs : List Value) (hl : cs.length = vs.length)
      (hr : ∀ (j : Nat) x y, cs[j]? = some x → vs[j]? = some y → T w lab (p.down 0 j) x y) : T w lab p (.agg cs) (.agg ⟨vs⟩)
  | tup (p : Lab) (cs : List AV) (vs : List Value) (hl : cs.length = vs.length)
      (hr : ∀ (j : Nat) x y, cs[j]? = some x → vs[j]? = some y → T w lab (p.down 1 j) x y) : T w lab p (.tup cs) (.tuple ⟨vs⟩)

def Lab.app (p : Lab) (q : List (Nat × Nat)) : Lab := (p.1, p.2 ++ q)
theorem Lab.app_nil (p : Lab) : p.app [] = p := by simp [Lab.app]
theorem Lab.down_app (p : Lab) (i j : Nat) (q : List (Nat × Nat)) : (p.down i j).app q = p.app ((i, j) :: q) := by simp [Lab.app, Lab.down]
theorem Lab.down_eq (p : Lab) (i j : Nat) : p.down i j = p.app [(i, j)] := rfl

/-- a tree is moved to another place -/
theorem T.move {w w' : World} {lab lab' : Labs} {p p' : Lab} {x : AV} {v : Value} (h : T w lab p x v)
    (hk : ∀ b, b < w.heap.size → lab b = none → lab' b = none ∧ w'.heap[b]? = w.heap[b]?)
    (hm : ∀ b q, b < w.heap.size → lab b = some (p.app q) → lab' b = some (p'.app q) ∧ w'.heap[b]? = w.heap[b]?)
    (hz : w.heap.size ≤ w'.heap.size) : T w' lab' p' x v := by
  induction h generalizing p' with
  | imm p x v h => exact .imm _ _ _ (h.mono hk hz)
  | osl p es l b off cap vals hb hk1 hc hes hp hv _ ih =>
    have hh := hm b [] hk1.lt (by rw [Lab.app_nil]; exact hb)
    refine .osl p' es l b off cap vals (by rw [hh.1, Lab.app_nil]) (hk1.same hh.2) hc hes hp
      (fun i j hi hj => by rw [cell_same (a := ⟨b, off + i * es + j, none⟩) hh.2]; exact hv i j hi hj) ?_
    intro i c j x hi hj
    refine ih i c j x hi hj (p' := p'.down i j) ?_
    intro b q hb hq
    rw [Lab.down_app] at hq
    rw [Lab.down_app]
    exact hm b _ hb hq
  | op p l b off vals hb hk1 hp hv _ ih =>
    have hh := hm b [] hk1.lt (by rw [Lab.app_nil]; exact hb)
    refine .op p' l b off vals (by rw [hh.1, Lab.app_nil]) (hk1.same hh.2) hp
      (fun j hj => by rw [cell_same (a := ⟨b, off + j, none⟩) hh.2]; exact hv j hj) ?_
    intro j x hj
    refine ih j x hj (p' := p'.down 0 j) ?_
    intro b q hb hq
    rw [Lab.down_app] at hq
    rw [Lab.down_app]
    exact hm b _ hb hq
  | agg p cs vs hl _ ih =>
    refine .agg p' cs vs hl ?_
    intro j x y hx hy
    refine ih j x y hx hy (p' := p'.down 0 j) ?_
    intro b q hb hq
    rw [Lab.down_app] at hq
    rw [Lab.down_app]
    exact hm b _ hb hq
  | tup p cs vs hl _ ih =>
    refine .tup p' cs vs hl ?_
    intro j x y hx hy
    refine ih j x y hx hy (p' := p'.down 1 j) ?_
    intro b q hb hq
    rw [Lab.down_app] at hq
    rw [Lab.down_app]
    exact hm b _ hb hq

/-- values of slots -/
inductive V (w : World) (lab : Labs) (loc : Locs) : AV → Value → Prop
  | imm (x : AV) (v : Value) (h : I w lab x v) : V w lab loc x v
  | undef (v : Value) : V w lab loc .undef v
  | ptr (id es i j : Nat) (v : Value) (h : ∀ b base, loc id = some (b, base) → v = .pointer (some ⟨b, base + i * es + j, none⟩)) : V w lab loc (.ptr id es i j) v
  | sl (id es i len : Nat) (v : Value)
      (h : ∀ b base, loc id = some (b, base) → ∃ a cap, v = .slice (some a) len cap ∧ len ≤ cap ∧ (cap = 0 ∧ i ≠ 0 ∨ a = ⟨b, base + i * es, none⟩) ∧ Blk w b (base + (i + cap) * es)) : V w lab loc (.sl id es i len) v
  | fn (f : FuncId) (cs : List AV) (vs : List Value) (hl : cs.length = vs.length)
      (hr : ∀ (j : Nat) x y, cs[j]? = some x → vs[j]? = some y → V w lab loc x y) : V w lab loc (.fn f cs) (.func (.func f) #[] ⟨vs⟩)
  | agg (cs : List AV) (vs : List Value) (hl : cs.length = vs.length)
      (hr : ∀ (j : Nat) x y, cs[j]? = some x → vs[j]? = some y → V w lab loc x y) : V w lab loc (.agg cs) (.agg ⟨vs⟩)
  | tup (cs : List AV) (vs : List Value) (hl : cs.length = vs.length)
      (hr : ∀ (j : Nat) x y, cs[j]? = some x → vs[j]? = some y → V w lab loc x y) : V w lab loc (.tup cs) (.tuple ⟨vs⟩)
  | gate (e : Bool) (x : AV) (v : Value) (h : e = true → V w lab loc x v) : V w lab loc (.gate e x) v

theorem V.mono {w w' : World} {lab lab' : Labs} {loc loc' : Locs} {x : AV} {v : Value} (h : V w lab loc x v)
    (hk : ∀ b, b < w.heap.size → lab b = none → lab' b = none ∧ w'.heap[b]? = w.heap[b]?) (hz : w.heap.size ≤ w'.heap.size)
    (hl : ∀ id ∈ x.ids, ∀ b base, loc' id = some (b, base) → loc id = some (b, base) ∧ ∀ n, Blk w b n → Blk w' b n) : V w' lab' loc' x v := by
  induction h with
  | imm x v h => exact .imm _ _ (h.mono hk hz)
  | undef v => exact .undef v
  | ptr id es i j v h =>
    refine .ptr id es i j v fun b base hb => h b base (hl id (by simp [AV.ids]) b base hb).1
  | sl id es i len v h =>
    refine .sl id es i len v fun b base hb => ?_
    have hh := hl id (by simp [AV.ids]) b base hb
    obtain ⟨a, cap, h1, h2, h3, h4⟩ := h b base hh.1
    exact ⟨a, cap, h1, h2, h3, hh.2 _ h4⟩
  | fn f cs vs hl' _ ih =>
    refine .fn f cs vs hl' fun j x y hx hy => ih j x y hx hy fun id hid => hl id ?_
    simp only [AV.ids]; exact mem_idsL (List.mem_of_getElem? hx) hid
  | agg cs vs hl' _ ih =>
    refine .agg cs vs hl' fun j x y hx hy => ih j x y hx hy fun id hid => hl id ?_
    simp only [AV.ids]; exact mem_idsL (List.mem_of_getElem? hx) hid
  | tup cs vs hl' _ ih =>
    refine .tup cs vs hl' fun j x y hx hy => ih j x y hx hy fun id hid => hl id ?_
    simp only [AV.ids]; exact mem_idsL (List.mem_of_getElem? hx) hid
  | gate e x v _ ih => exact .gate e x v fun he => ih he fun id hid => hl id (by simpa [AV.ids] using hid)


/-! inversion -/
section inv
variable {w : World} {lab : Labs} {loc : Locs} {p : Lab} {v : Value}
theorem I.inv_bool {b : Bool} (h : I w lab (.bool b) v) : v = .bool b := by cases h; rfl
theorem I.inv_int {k : IntKind} {n : Int} (h : I w lab (.int k n) v) : v = .int k n := by cases h; rfl
theorem I.inv_str {s : List UInt8} (h : I w lab (.str s) v) : v = .string ⟨s.toArray⟩ := by cases h; rfl
theorem V.inv_bool {b : Bool} (h : V w lab loc (.bool b) v) : v = .bool b := by cases h with | imm _ _ h => exact h.inv_bool
theorem V.inv_int {k : IntKind} {n : Int} (h : V w lab loc (.int k n) v) : v = .int k n := by cases h with | imm _ _ h => exact h.inv_int
theorem V.inv_str {s : List UInt8} (h : V w lab loc (.str s) v) : v = .string ⟨s.toArray⟩ := by cases h with | imm _ _ h => exact h.inv_str
theorem V.inv_nilp (h : V w lab loc .nilp v) : v = .pointer none := by cases h with | imm _ _ h => cases h; rfl
theorem V.inv_nils (h : V w lab loc .nils v) : v = .slice none 0 0 := by cases h with | imm _ _ h => cases h; rfl
theorem V.inv_zsl (h : V w lab loc .zsl v) : ∃ a, v = .slice a 0 0 := by cases h with | imm _ _ h => cases h with | zsl a => exact ⟨a, rfl⟩
theorem V.inv_isl {es : Nat} {l : List (List AV)} (h : V w lab loc (.isl es l) v) : I w lab (.isl es l) v := by cases h with | imm _ _ h => exact h
theorem V.inv_ip {l : List AV} (h : V w lab loc (.ip l) v) : I w lab (.ip l) v := by cases h with | imm _ _ h => exact h
theorem V.inv_ptr {id es i j b base : Nat} (h : V w lab loc (.ptr id es i j) v) (hl : loc id = some (b, base)) : v = .pointer (some ⟨b, base + i * es + j, none⟩) := by
  cases h with
  | imm _ _ h => cases h
  | ptr _ _ _ _ _ h => exact h b base hl
theorem V.inv_sl {id es i len b base : Nat} (h : V w lab loc (.sl id es i len) v) (hl : loc id = some (b, base)) :
    ∃ a cap, v = .slice (some a) len cap ∧ len ≤ cap ∧ (cap = 0 ∧ i ≠ 0 ∨ a = ⟨b, base + i * es, none⟩) ∧ Blk w b (base + (i + cap) * es) := by
  cases h with
  | imm _ _ h => cases h
  | sl _ _ _ _ _ h => exact h b base hl
theorem V.inv_agg {cs : List AV} (h : V w lab loc (.agg cs) v) : ∃ vs : List Value, v = .agg ⟨vs⟩ ∧ cs.length = vs.length ∧ ∀ (j : Nat) x y, cs[j]? = some x → vs[j]? = some y → V w lab loc x y := by
  cases h with
  | imm _ _ h => cases h with | agg _ vs hl hr => exact ⟨vs, rfl, hl, fun j x y hx hy => .imm _ _ (hr j x y hx hy)⟩
  | agg _ vs hl hr => exact ⟨vs, rfl, hl, hr⟩
theorem V.inv_tup {cs : List AV} (h : V w lab loc (.tup cs) v) : ∃ vs : List Value, v = .tuple ⟨vs⟩ ∧ cs.length = vs.length ∧ ∀ (j : Nat) x y, cs[j]? = some x → vs[j]? = some y → V w lab loc x y := by
  cases h with
  | imm _ _ h => cases h with | tup _ vs hl hr => exact ⟨vs, rfl, hl, fun j x y hx hy => .imm _ _ (hr j x y hx hy)⟩
  | tup _ vs hl hr => exact ⟨vs, rfl, hl, hr⟩
theorem V.inv_fn {f : FuncId} {cs : List AV} (h : V w lab loc (.fn f cs) v) : ∃ vs : List Value, v = .func (.func f) #[] ⟨vs⟩ ∧ cs.length = vs.length ∧ ∀ (j : Nat) x y, cs[j]? = some x → vs[j]? = some y → V w lab loc x y := by
  cases h with
  | imm _ _ h => cases h with | fn _ _ vs hl hr => exact ⟨vs, rfl, hl, fun j x y hx hy => .imm _ _ (hr j x y hx hy)⟩
  | fn _ _ vs hl hr => exact ⟨vs, rfl, hl, hr⟩
theorem V.inv_gate {e : Bool} {x : AV} (h : V w lab loc (.gate e x) v) (he : e = true) : V w lab loc x v := by
  cases h with
  | imm _ _ h => cases h
  | gate _ _ _ h => exact h he
theorem V.bool (b : Bool) : V w lab loc (.bool b) (.bool b) := .imm _ _ (.bool b)
theorem V.int (k : IntKind) (n : Int) : V w lab loc (.int k n) (.int k n) := .imm _ _ (.int k n)
theorem V.str (s : List UInt8) : V w lab loc (.str s) (.string ⟨s.toArray⟩) := .imm _ _ (.str s)
end inv

end Go.AM
