/- Joined texts: Am1 Am2 Am3 Am4 Am5 Am6 Am7. -/
import Derived.Calls
import Derived.Laws.Cells
import Derived.Laws.IdiomCopy
import Derived.Laws.Entries
import Derived.Laws.StructEq
import Derived.Laws.BytesString
import Derived.Deep.AppendSrc
import Derived.Laws.MakeOwn
set_option linter.unusedVariables false
set_option linter.unusedSimpArgs false
namespace Go.AM
inductive Root where
 | obj (n : Nat) | arg (k : Nat) | res | tmp
 deriving DecidableEq
abbrev Lab := Root × List (Nat × Nat)
def Lab.down (p : Lab) (i j : Nat) : Lab := (p.1, p.2 ++ [(i, j)])
abbrev Labs := Nat → Option Lab
abbrev Locs := Nat → Option (Nat × Nat)
inductive AV where
 | undef
 | bool (b : Bool)
 | int (k : IntKind) (n : Int)
 | str (s : List UInt8)
 | nilp
 | nils
 | zsl
 | nel
 | lns (n : Nat)
 | any
 | val (v : Value)
 | isl (es : Nat) (l : List (List AV))
 | osl (es : Nat) (l : List (List AV))
 | ip (l : List AV)
 | op (l : List AV)
 | ptr (id es i j : Nat)
 | sl (id es i len : Nat)
 | fn (f : FuncId) (caps : List AV)
 | agg (cs : List AV)
 | tup (vs : List AV)
 | gate (e : Bool) (x : AV)
instance : Inhabited AV := ⟨.undef⟩
def AV.plain : AV → Bool
 | .osl _ _ | .op _ | .agg _ | .tup _ | .undef | .any | .gate _ _ => false
 | _ => true
mutual
def AV.ids : AV → List Nat
 | .ptr id _ _ _ => [id]
 | .sl id _ _ _ => [id]
 | .fn _ cs => idsL cs
 | .agg cs => idsL cs
 | .tup cs => idsL cs
 | .gate _ x => x.ids
 | _ => []
def idsL : List AV → List Nat
 | [] => []
 | x :: xs => x.ids ++ idsL xs
end
theorem mem_idsL {x : AV} {l : List AV} (h : x ∈ l) {i : Nat} (hi : i ∈ x.ids) : i ∈ idsL l := by
 induction l with
 | nil => cases h
 | cons y ys ih =>
  simp only [idsL, List.mem_append]
  rcases List.mem_cons.1 h with rfl | h
  ·exact Or.inl hi
  ·exact Or.inr (ih h)
def AV.tree : AV → Bool
 | .bool _ | .int _ _ | .str _ | .nilp | .nils | .zsl | .nel | .lns _ | .val _ | .isl _ _ | .ip _ | .osl _ _ | .op _ => true
 | _ => false
def Blk (w : World) (b n : Nat) : Prop :=
 ∃ c ty fz, w.heap[b]? = some (.cells c ty fz) ∧ n ≤ c.size ∧ ∀ o, o < c.size → ¬ (fz.1 ≤ o ∧ o < fz.2)
theorem Blk.le {w : World} {b n m : Nat} (h : Blk w b n) (hm : m ≤ n) : Blk w b m := by
 obtain ⟨c, ty, fz, h1, h2, h3⟩ := h; exact ⟨c, ty, fz, h1, by omega, h3⟩
theorem Blk.lt {w : World} {b n : Nat} (h : Blk w b n) : b < w.heap.size := by
 obtain ⟨c, ty, fz, h1, _⟩ := h
 rcases Nat.lt_or_ge b w.heap.size with h | h
 ·exact h
 ·simp [Array.getElem?_eq_none h] at h1
theorem Blk.same {w w' : World} {b n : Nat} (h : Blk w b n) (e : w'.heap[b]? = w.heap[b]?) : Blk w' b n := by
 obtain ⟨c, ty, fz, h1, h2, h3⟩ := h; exact ⟨c, ty, fz, by rw [e, h1], h2, h3⟩
theorem cell_same {w w' : World} {a : Addr} (e : w'.heap[a.block]? = w.heap[a.block]?) : w'.cell? a = w.cell? a := by
 unfold World.cell?; rw [e]
theorem frozen_of_blk {w : World} {b n o : Nat} (h : Blk w b n) (ho : o < n) : w.frozen? ⟨b, o, none⟩ = false := by
 obtain ⟨c, ty, fz, h1, h2, h3⟩ := h
 obtain ⟨lo, hi⟩ := fz
 have := h3 o (by omega)
 simp only [World.frozen?, h1]
 simpa using this
inductive I (w : World) (lab : Labs) : AV → Value → Prop
 | bool (b : Bool) : I w lab (.bool b) (.bool b)
 | int (k : IntKind) (n : Int) : I w lab (.int k n) (.int k n)
 | str (s : List UInt8) : I w lab (.str s) (.string ⟨s.toArray⟩)
 | nilp : I w lab .nilp (.pointer none)
 | nils : I w lab .nils (.slice none 0 0)
 | zsl (a : Option Addr) : I w lab .zsl (.slice a 0 0)
 | nel (a : Addr) (cap : Nat) : I w lab .nel (.slice (some a) 0 cap)
 | lns (n : Nat) (a : Option Addr) (cap : Nat) : I w lab (.lns n) (.slice a n cap)
 | any (v : Value) : I w lab .any v
 | val (a : Option Addr) (n cap : Nat) : I w lab (.val (.slice a n cap)) (.slice a n cap)
 | nsl (es : Nat) : I w lab (.isl es []) (.slice none 0 0)
 | esl (es : Nat) (a : Addr) (cap : Nat) : I w lab (.isl es []) (.slice (some a) 0 cap)
 | isl (es : Nat) (l : List (List AV)) (b off cap : Nat) (vals : Nat → Nat → Value) (hb : lab b = none) (hs : b < w.heap.size) (hc : l.length ≤ cap)
   (hes : ∀ c ∈ l, c.length = es) (hp : ∀ c ∈ l, ∀ x ∈ c, AV.plain x = true)
   (hv : ∀ i j, i < l.length → j < es → w.cell? ⟨b, off + i * es + j, none⟩ = some (vals i j))
   (hr : ∀ i c j x, l[i]? = some c → c[j]? = some x → I w lab x (vals i j)) :
   I w lab (.isl es l) (.slice (some ⟨b, off, none⟩) l.length cap)
 | ip (l : List AV) (b off : Nat) (vals : Nat → Value) (hb : lab b = none) (hs : b < w.heap.size)
   (hv : ∀ j, j < l.length → w.cell? ⟨b, off + j, none⟩ = some (vals j))
   (hr : ∀ j x, l[j]? = some x → I w lab x (vals j)) :
   I w lab (.ip l) (.pointer (some ⟨b, off, none⟩))
 | fn (f : FuncId) (cs : List AV) (vs : List Value) (hl : cs.length = vs.length)
   (hr : ∀ (j : Nat) x y, cs[j]? = some x → vs[j]? = some y → I w lab x y) : I w lab (.fn f cs) (.func (.func f) #[] ⟨vs⟩)
 | agg (cs : List AV) (vs : List Value) (hl : cs.length = vs.length)
   (hr : ∀ (j : Nat) x y, cs[j]? = some x → vs[j]? = some y → I w lab x y) : I w lab (.agg cs) (.agg ⟨vs⟩)
 | tup (cs : List AV) (vs : List Value) (hl : cs.length = vs.length)
   (hr : ∀ (j : Nat) x y, cs[j]? = some x → vs[j]? = some y → I w lab x y) : I w lab (.tup cs) (.tuple ⟨vs⟩)
theorem idsL_nil {cs : List AV} (h : ∀ x ∈ cs, x.ids = []) : idsL cs = [] := by
 induction cs with
 | nil => rfl
 | cons x cs ih => simp only [idsL]; rw [h x List.mem_cons_self, ih fun y hy => h y (List.mem_cons_of_mem _ hy)]; rfl
theorem I.ids {w : World} {lab : Labs} {x : AV} {v : Value} (h : I w lab x v) : x.ids = [] := by
 have key : ∀ (cs : List AV) (vs : List Value), cs.length = vs.length → (∀ (j : Nat) x y, cs[j]? = some x → vs[j]? = some y → x.ids = []) → idsL cs = [] := by
  intro cs vs hl ih
  refine idsL_nil fun x hx => ?_
  obtain ⟨j, hj⟩ := List.mem_iff_getElem?.1 hx
  have : j < vs.length := by rw [← hl]; exact (List.getElem?_eq_some_iff.1 hj).1
  exact ih j x _ hj (List.getElem?_eq_getElem this)
 induction h with
 | fn f cs vs hl _ ih => exact key cs vs hl ih
 | agg cs vs hl _ ih => exact key cs vs hl ih
 | tup cs vs hl _ ih => exact key cs vs hl ih
 | _ => rfl
def still : Option Lab → Prop
 | none => True
 | some (.tmp, _) => True
 | _ => False
structure Ext (lab : Labs) (w : World) (lab' : Labs) (w' : World) : Prop where
 size : w.heap.size ≤ w'.heap.size
 os : w'.os = w.os
 out : w'.output = w.output
 kept : ∀ b, b < w.heap.size → still (lab b) → lab' b = lab b ∧ w'.heap[b]? = w.heap[b]?
 blk : ∀ b n, Blk w b n → Blk w' b n
theorem Ext.imm {lab : Labs} {w : World} {lab' : Labs} {w' : World} (h : Ext lab w lab' w') : ∀ b, b < w.heap.size → lab b = none → lab' b = none ∧ w'.heap[b]? = w.heap[b]? := by
 intro b hb hl
 have := h.kept b hb (by rw [hl]; trivial)
 exact ⟨by rw [this.1, hl], this.2⟩
theorem Ext.refl (lab : Labs) (w : World) : Ext lab w lab w := ⟨Nat.le_refl _, rfl, rfl, fun _ _ _ => ⟨rfl, rfl⟩, fun _ _ h => h⟩
theorem Ext.trans {l1 l2 l3 : Labs} {w1 w2 w3 : World} (h : Ext l1 w1 l2 w2) (h' : Ext l2 w2 l3 w3) : Ext l1 w1 l3 w3 :=
 ⟨Nat.le_trans h.size h'.size, h'.os.trans h.os, h'.out.trans h.out, fun b hb hl => by
  have a := h.kept b hb hl
  have c := h'.kept b (Nat.lt_of_lt_of_le hb h.size) (by rw [a.1]; exact hl)
  exact ⟨c.1.trans a.1, c.2.trans a.2⟩, fun b n hb => h'.blk b n (h.blk b n hb)⟩
theorem I.mono {w w' : World} {lab lab' : Labs} {x : AV} {v : Value} (h : I w lab x v)
  (hk : ∀ b, b < w.heap.size → lab b = none → lab' b = none ∧ w'.heap[b]? = w.heap[b]?) (hz : w.heap.size ≤ w'.heap.size) : I w' lab' x v := by
 induction h with
 | bool b => exact .bool b
 | int k n => exact .int k n
 | str s => exact .str s
 | nilp => exact .nilp
 | nils => exact .nils
 | zsl a => exact .zsl a
 | nel a cap => exact .nel a cap
 | lns n a cap => exact .lns n a cap
 | any v => exact .any v
 | val a n cap => exact .val a n cap
 | nsl es => exact .nsl es
 | esl es a cap => exact .esl es a cap
 | isl es l b off cap vals hb hs hc hes hp hv _ ih =>
  exact .isl es l b off cap vals (hk b hs hb).1 (Nat.lt_of_lt_of_le hs hz) hc hes hp
   (fun i j hi hj => by rw [cell_same (a := ⟨b, off + i * es + j, none⟩) (hk b hs hb).2]; exact hv i j hi hj) ih
 | ip l b off vals hb hs hv _ ih =>
  exact .ip l b off vals (hk b hs hb).1 (Nat.lt_of_lt_of_le hs hz)
   (fun j hj => by rw [cell_same (a := ⟨b, off + j, none⟩) (hk b hs hb).2]; exact hv j hj) ih
 | fn f cs vs hl _ ih => exact .fn f cs vs hl ih
 | agg cs vs hl _ ih => exact .agg cs vs hl ih
 | tup cs vs hl _ ih => exact .tup cs vs hl ih
theorem I.ext {w w' : World} {lab lab' : Labs} {x : AV} {v : Value} (h : I w lab x v) (e : Ext lab w lab' w') : I w' lab' x v := h.mono e.imm e.size
inductive T (w : World) (lab : Labs) : Lab → AV → Value → Prop
 | imm (p : Lab) (x : AV) (v : Value) (h : I w lab x v) : T w lab p x v
 | osl (p : Lab) (es : Nat) (l : List (List AV)) (b off cap : Nat) (vals : Nat → Nat → Value) (hb : lab b = some p) (hk : Blk w b (off + cap * es)) (hc : l.length ≤ cap)
   (hes : ∀ c ∈ l, c.length = es) (hp : ∀ c ∈ l, ∀ x ∈ c, AV.tree x = true)
   (hv : ∀ i j, i < l.length → j < es → w.cell? ⟨b, off + i * es + j, none⟩ = some (vals i j))
   (hr : ∀ i c j x, l[i]? = some c → c[j]? = some x → T w lab (p.down i j) x (vals i j)) :
   T w lab p (.osl es l) (.slice (some ⟨b, off, none⟩) l.length cap)
 | op (p : Lab) (l : List AV) (b off : Nat) (vals : Nat → Value) (hb : lab b = some p) (hk : Blk w b (off + l.length)) (hp : ∀ x ∈ l, AV.tree x = true)
   (hv : ∀ j, j < l.length → w.cell? ⟨b, off + j, none⟩ = some (vals j))
   (hr : ∀ j x, l[j]? = some x → T w lab (p.down 0 j) x (vals j)) :
   T w lab p (.op l) (.pointer (some ⟨b, off, none⟩))
 | agg (p : Lab) (cs : List AV) (vs : List Value) (hl : cs.length = vs.length)
   (hr : ∀ (j : Nat) x y, cs[j]? = some x → vs[j]? = some y → T w lab (p.down 0 j) x y) : T w lab p (.agg cs) (.agg ⟨vs⟩)
 | tup (p : Lab) (cs : List AV) (vs : List Value) (hl : cs.length = vs.length)
   (hr : ∀ (j : Nat) x y, cs[j]? = some x → vs[j]? = some y → T w lab (p.down 1 j) x y) : T w lab p (.tup cs) (.tuple ⟨vs⟩)
def Lab.app (p : Lab) (q : List (Nat × Nat)) : Lab := (p.1, p.2 ++ q)
theorem Lab.app_nil (p : Lab) : p.app [] = p := by simp [Lab.app]
theorem Lab.down_app (p : Lab) (i j : Nat) (q : List (Nat × Nat)) : (p.down i j).app q = p.app ((i, j) :: q) := by simp [Lab.app, Lab.down]
theorem T.move {w w' : World} {lab lab' : Labs} {p p' : Lab} {x : AV} {v : Value} (h : T w lab p x v)
  (hk : ∀ b, b < w.heap.size → lab b = none → lab' b = none ∧ w'.heap[b]? = w.heap[b]?)
  (hm : ∀ b q, b < w.heap.size → lab b = some (p.app q) → lab' b = some (p'.app q) ∧ w'.heap[b]? = w.heap[b]?)
  (hz : w.heap.size ≤ w'.heap.size) : T w' lab' p' x v := by
 induction h generalizing p' with
 | imm p x v h => exact .imm _ _ _ (h.mono hk hz)
 | osl p es l b off cap vals hb hk1 hc hes hp hv _ ih =>
  have hh := hm b [] hk1.lt (by rw [Lab.app_nil]; exact hb)
  refine .osl p' es l b off cap vals (by rw [hh.1, Lab.app_nil]) (hk1.same hh.2) hc hes hp
   (fun i j hi hj => by rw [cell_same (a := ⟨b, off + i * es + j, none⟩) hh.2]; exact hv i j hi hj) ?_
  intro i c j x hi hj
  refine ih i c j x hi hj (p' := p'.down i j) ?_
  intro b q hb hq
  rw [Lab.down_app] at hq
  rw [Lab.down_app]
  exact hm b _ hb hq
 | op p l b off vals hb hk1 hp hv _ ih =>
  have hh := hm b [] hk1.lt (by rw [Lab.app_nil]; exact hb)
  refine .op p' l b off vals (by rw [hh.1, Lab.app_nil]) (hk1.same hh.2) hp
   (fun j hj => by rw [cell_same (a := ⟨b, off + j, none⟩) hh.2]; exact hv j hj) ?_
  intro j x hj
  refine ih j x hj (p' := p'.down 0 j) ?_
  intro b q hb hq
  rw [Lab.down_app] at hq
  rw [Lab.down_app]
  exact hm b _ hb hq
 | agg p cs vs hl _ ih =>
  refine .agg p' cs vs hl ?_
  intro j x y hx hy
  refine ih j x y hx hy (p' := p'.down 0 j) ?_
  intro b q hb hq
  rw [Lab.down_app] at hq
  rw [Lab.down_app]
  exact hm b _ hb hq
 | tup p cs vs hl _ ih =>
  refine .tup p' cs vs hl ?_
  intro j x y hx hy
  refine ih j x y hx hy (p' := p'.down 1 j) ?_
  intro b q hb hq
  rw [Lab.down_app] at hq
  rw [Lab.down_app]
  exact hm b _ hb hq
inductive V (w : World) (lab : Labs) (loc : Locs) : AV → Value → Prop
 | imm (x : AV) (v : Value) (h : I w lab x v) : V w lab loc x v
 | undef (v : Value) : V w lab loc .undef v
 | ptr (id es i j : Nat) (v : Value) (h : ∀ b base, loc id = some (b, base) → v = .pointer (some ⟨b, base + i * es + j, none⟩)) : V w lab loc (.ptr id es i j) v
 | sl (id es i len : Nat) (v : Value)
   (h : ∀ b base, loc id = some (b, base) → ∃ a cap, v = .slice (some a) len cap ∧ len ≤ cap ∧ (cap = 0 ∧ i ≠ 0 ∨ a = ⟨b, base + i * es, none⟩) ∧ Blk w b (base + (i + cap) * es)) : V w lab loc (.sl id es i len) v
 | fn (f : FuncId) (cs : List AV) (vs : List Value) (hl : cs.length = vs.length)
   (hr : ∀ (j : Nat) x y, cs[j]? = some x → vs[j]? = some y → V w lab loc x y) : V w lab loc (.fn f cs) (.func (.func f) #[] ⟨vs⟩)
 | agg (cs : List AV) (vs : List Value) (hl : cs.length = vs.length)
   (hr : ∀ (j : Nat) x y, cs[j]? = some x → vs[j]? = some y → V w lab loc x y) : V w lab loc (.agg cs) (.agg ⟨vs⟩)
 | tup (cs : List AV) (vs : List Value) (hl : cs.length = vs.length)
   (hr : ∀ (j : Nat) x y, cs[j]? = some x → vs[j]? = some y → V w lab loc x y) : V w lab loc (.tup cs) (.tuple ⟨vs⟩)
 | gate (e : Bool) (x : AV) (v : Value) (h : e = true → V w lab loc x v) : V w lab loc (.gate e x) v
theorem V.mono {w w' : World} {lab lab' : Labs} {loc loc' : Locs} {x : AV} {v : Value} (h : V w lab loc x v)
  (hk : ∀ b, b < w.heap.size → lab b = none → lab' b = none ∧ w'.heap[b]? = w.heap[b]?) (hz : w.heap.size ≤ w'.heap.size)
  (hl : ∀ id ∈ x.ids, ∀ b base, loc' id = some (b, base) → loc id = some (b, base) ∧ ∀ n, Blk w b n → Blk w' b n) : V w' lab' loc' x v := by
 induction h with
 | imm x v h => exact .imm _ _ (h.mono hk hz)
 | undef v => exact .undef v
 | ptr id es i j v h =>
  refine .ptr id es i j v fun b base hb => h b base (hl id (by simp [AV.ids]) b base hb).1
 | sl id es i len v h =>
  refine .sl id es i len v fun b base hb => ?_
  have hh := hl id (by simp [AV.ids]) b base hb
  obtain ⟨a, cap, h1, h2, h3, h4⟩ := h b base hh.1
  exact ⟨a, cap, h1, h2, h3, hh.2 _ h4⟩
 | fn f cs vs hl' _ ih =>
  refine .fn f cs vs hl' fun j x y hx hy => ih j x y hx hy fun id hid => hl id ?_
  simp only [AV.ids]; exact mem_idsL (List.mem_of_getElem? hx) hid
 | agg cs vs hl' _ ih =>
  refine .agg cs vs hl' fun j x y hx hy => ih j x y hx hy fun id hid => hl id ?_
  simp only [AV.ids]; exact mem_idsL (List.mem_of_getElem? hx) hid
 | tup cs vs hl' _ ih =>
  refine .tup cs vs hl' fun j x y hx hy => ih j x y hx hy fun id hid => hl id ?_
  simp only [AV.ids]; exact mem_idsL (List.mem_of_getElem? hx) hid
 | gate e x v _ ih => exact .gate e x v fun he => ih he fun id hid => hl id (by simpa [AV.ids] using hid)
section inv
variable {w : World} {lab : Labs} {loc : Locs} {p : Lab} {v : Value}
theorem I.inv_bool {b : Bool} (h : I w lab (.bool b) v) : v = .bool b := by cases h; rfl
theorem I.inv_int {k : IntKind} {n : Int} (h : I w lab (.int k n) v) : v = .int k n := by cases h; rfl
theorem I.inv_str {s : List UInt8} (h : I w lab (.str s) v) : v = .string ⟨s.toArray⟩ := by cases h; rfl
theorem V.inv_bool {b : Bool} (h : V w lab loc (.bool b) v) : v = .bool b := by cases h with | imm _ _ h => exact h.inv_bool
theorem V.inv_int {k : IntKind} {n : Int} (h : V w lab loc (.int k n) v) : v = .int k n := by cases h with | imm _ _ h => exact h.inv_int
theorem V.inv_str {s : List UInt8} (h : V w lab loc (.str s) v) : v = .string ⟨s.toArray⟩ := by cases h with | imm _ _ h => exact h.inv_str
theorem V.inv_nils (h : V w lab loc .nils v) : v = .slice none 0 0 := by cases h with | imm _ _ h => cases h; rfl
theorem V.inv_zsl (h : V w lab loc .zsl v) : ∃ a, v = .slice a 0 0 := by cases h with | imm _ _ h => cases h with | zsl a => exact ⟨a, rfl⟩
theorem V.inv_isl {es : Nat} {l : List (List AV)} (h : V w lab loc (.isl es l) v) : I w lab (.isl es l) v := by cases h with | imm _ _ h => exact h
theorem V.inv_ip {l : List AV} (h : V w lab loc (.ip l) v) : I w lab (.ip l) v := by cases h with | imm _ _ h => exact h
theorem V.inv_ptr {id es i j b base : Nat} (h : V w lab loc (.ptr id es i j) v) (hl : loc id = some (b, base)) : v = .pointer (some ⟨b, base + i * es + j, none⟩) := by
 cases h with
 | imm _ _ h => cases h
 | ptr _ _ _ _ _ h => exact h b base hl
theorem V.inv_sl {id es i len b base : Nat} (h : V w lab loc (.sl id es i len) v) (hl : loc id = some (b, base)) :
  ∃ a cap, v = .slice (some a) len cap ∧ len ≤ cap ∧ (cap = 0 ∧ i ≠ 0 ∨ a = ⟨b, base + i * es, none⟩) ∧ Blk w b (base + (i + cap) * es) := by
 cases h with
 | imm _ _ h => cases h
 | sl _ _ _ _ _ h => exact h b base hl
theorem V.inv_agg {cs : List AV} (h : V w lab loc (.agg cs) v) : ∃ vs : List Value, v = .agg ⟨vs⟩ ∧ cs.length = vs.length ∧ ∀ (j : Nat) x y, cs[j]? = some x → vs[j]? = some y → V w lab loc x y := by
 cases h with
 | imm _ _ h => cases h with | agg _ vs hl hr => exact ⟨vs, rfl, hl, fun j x y hx hy => .imm _ _ (hr j x y hx hy)⟩
 | agg _ vs hl hr => exact ⟨vs, rfl, hl, hr⟩
theorem V.inv_tup {cs : List AV} (h : V w lab loc (.tup cs) v) : ∃ vs : List Value, v = .tuple ⟨vs⟩ ∧ cs.length = vs.length ∧ ∀ (j : Nat) x y, cs[j]? = some x → vs[j]? = some y → V w lab loc x y := by
 cases h with
 | imm _ _ h => cases h with | tup _ vs hl hr => exact ⟨vs, rfl, hl, fun j x y hx hy => .imm _ _ (hr j x y hx hy)⟩
 | tup _ vs hl hr => exact ⟨vs, rfl, hl, hr⟩
theorem V.inv_fn {f : FuncId} {cs : List AV} (h : V w lab loc (.fn f cs) v) : ∃ vs : List Value, v = .func (.func f) #[] ⟨vs⟩ ∧ cs.length = vs.length ∧ ∀ (j : Nat) x y, cs[j]? = some x → vs[j]? = some y → V w lab loc x y := by
 cases h with
 | imm _ _ h => cases h with | fn _ _ vs hl hr => exact ⟨vs, rfl, hl, fun j x y hx hy => .imm _ _ (hr j x y hx hy)⟩
 | fn _ _ vs hl hr => exact ⟨vs, rfl, hl, hr⟩
theorem V.bool (b : Bool) : V w lab loc (.bool b) (.bool b) := .imm _ _ (.bool b)
theorem V.int (k : IntKind) (n : Int) : V w lab loc (.int k n) (.int k n) := .imm _ _ (.int k n)
theorem V.str (s : List UInt8) : V w lab loc (.str s) (.string ⟨s.toArray⟩) := .imm _ _ (.str s)
end inv
end Go.AM
namespace Go.AM
structure Node where
 es : Nat
 l : List (List AV)
def look {α : Type} (k : Nat) : List (Nat × α) → Option α
 | [] => none
 | (i, x) :: r => if k = i then some x else look k r
theorem look_append {α : Type} (k : Nat) (a b : List (Nat × α)) : look k (a ++ b) = (look k a).or (look k b) := by
 induction a with
 | nil => simp [look]
 | cons x a ih =>
  obtain ⟨i, x⟩ := x
  simp only [List.cons_append, look]
  split <;> simp [ih]
theorem look_none {α : Type} {k : Nat} {a : List (Nat × α)} (h : k ∉ a.map (·.1)) : look k a = none := by
 induction a with
 | nil => rfl
 | cons x a ih =>
  obtain ⟨i, x⟩ := x
  simp only [List.map_cons, List.mem_cons, not_or] at h
  simp only [look]
  rw [if_neg h.1]; exact ih h.2
theorem look_mem {α : Type} {k : Nat} {a : List (Nat × α)} {x : α} (h : look k a = some x) : (k, x) ∈ a := by
 induction a with
 | nil => cases h
 | cons y a ih =>
  obtain ⟨i, y⟩ := y
  simp only [look] at h
  split at h
  ·rename_i e; subst e; cases h; exact List.mem_cons_self
  ·exact List.mem_cons_of_mem _ (ih h)
structure St where
 n : Nat
 slots : List (Nat × AV)
 objs : List (Nat × Option Node)
def St.slot (st : St) (s : Nat) : Option AV := look s st.slots
def St.obj (st : St) (i : Nat) : Option Node := (look i st.objs).join
def Node.ids (nd : Node) : List Nat := nd.l.flatMap idsL
def oids : Option Node → List Nat
 | some nd => nd.ids
 | none => []
def slotIds (l : List (Nat × AV)) : List Nat := l.flatMap fun p => p.2.ids
def objIds (l : List (Nat × Option Node)) : List Nat := l.flatMap fun p => oids p.2
def St.ids (st : St) : List Nat := slotIds st.slots ++ objIds st.objs
theorem ids_of_slot {st : St} {s : Nat} {x : AV} (h : st.slot s = some x) {i : Nat} (hi : i ∈ x.ids) : i ∈ st.ids := by
 simp only [St.ids, List.mem_append, slotIds, List.mem_flatMap]
 exact Or.inl ⟨(s, x), look_mem h, hi⟩
theorem obj_look {st : St} {i : Nat} {nd : Node} (h : st.obj i = some nd) : look i st.objs = some (some nd) := by
 unfold St.obj at h
 cases e : look i st.objs with
 | none => simp [e] at h
 | some o => cases o with
  | none => simp [e] at h
  | some x => simp [e] at h; subst h; rfl
theorem ids_of_obj {st : St} {k : Nat} {nd : Node} (h : st.obj k = some nd) {i : Nat} (hi : i ∈ nd.ids) : i ∈ st.ids := by
 simp only [St.ids, List.mem_append, objIds, List.mem_flatMap]
 exact Or.inr ⟨(k, some nd), look_mem (obj_look h), hi⟩
theorem ids_of_cell {nd : Node} {i j : Nat} {c : List AV} {x : AV} (h1 : nd.l[i]? = some c) (h2 : c[j]? = some x) {k : Nat} (hk : k ∈ x.ids) : k ∈ nd.ids := by
 simp only [Node.ids, List.mem_flatMap]
 exact ⟨c, List.mem_of_getElem? h1, mem_idsL (List.mem_of_getElem? h2) hk⟩
def Cell (w : World) (lab : Labs) (loc : Locs) (p : Lab) (x : AV) (v : Value) : Prop := V w lab loc x v ∨ T w lab p x v
structure ObjOk (w : World) (lab : Labs) (loc : Locs) (id : Nat) (nd : Node) (b base : Nat) : Prop where
 hlab : lab b = some (.obj id, [])
 blk : Blk w b (base + nd.l.length * nd.es)
 es : ∀ c ∈ nd.l, c.length = nd.es
 cells : ∀ (i : Nat) c (j : Nat) x, nd.l[i]? = some c → c[j]? = some x → ∃ v, w.cell? ⟨b, base + i * nd.es + j, none⟩ = some v ∧ Cell w lab loc (.obj id, [(i, j)]) x v
structure RepL (w0 : World) (lab0 : Labs) (st : St) (a : Act) (w : World) (lab : Labs) (loc : Locs) : Prop where
 size : a.tmps.size = st.n
 defers : a.defers = []
 slots : ∀ s x, st.slot s = some x → V w lab loc x (a.tmps.getD s undef)
 objs : ∀ id nd, st.obj id = some nd → ∃ b base, loc id = some (b, base) ∧ ObjOk w lab loc id nd b base
 dead : ∀ id, st.obj id = none → loc id = none
 fresh : ∀ b, lab b ≠ none → b < w.heap.size
 ext : Ext lab0 w0 lab w
def Rep (w0 : World) (lab0 : Labs) (st : St) (a : Act) (w : World) : Prop := ∃ lab loc, RepL w0 lab0 st a w lab loc
structure Eff where
 rd : List (Nat × AV) := []
 ob : List (Nat × Option Node) := []
 new : List Nat := []
 wr : List (Nat × AV) := []
 up : List (Nat × Option Node) := []
 ex : List Nat := []
def Eff.pre (e : Eff) (st : St) : Prop :=
 (∀ p ∈ e.rd, st.slot p.1 = some p.2) ∧ (∀ p ∈ e.ob, st.obj p.1 = p.2) ∧ (∀ i ∈ e.new, i ∉ st.ids) ∧ (∀ i ∈ e.ex, (st.obj i).isSome = true)
def Eff.apply (e : Eff) (st : St) : St := { st with slots := e.wr ++ st.slots, objs := e.up ++ st.objs }
theorem slot_apply (e : Eff) (st : St) (s : Nat) : (e.apply st).slot s = (look s e.wr).or (st.slot s) := look_append _ _ _
theorem obj_apply (e : Eff) (st : St) (i : Nat) : (e.apply st).obj i = match look i e.up with | some o => o | none => st.obj i := by
 simp only [Eff.apply, St.obj, look_append]
 cases look i e.up with
 | none => rfl
 | some o => cases o <;> rfl
structure St.Alike (st st' : St) : Prop where
 n : st'.n = st.n
 slot : ∀ s, st'.slot s = st.slot s
 obj : ∀ i, st'.obj i = st.obj i
 ids : ∀ i, i ∈ st'.ids ↔ i ∈ st.ids
theorem Rep.alike {w0 : World} {lab0 : Labs} {st st' : St} {a : Act} {w : World} (h : Rep w0 lab0 st a w) (e : St.Alike st st') : Rep w0 lab0 st' a w := by
 obtain ⟨lab, loc, h⟩ := h
 exact ⟨lab, loc, by rw [h.size, e.n], h.defers, fun s x hx => h.slots s x (by rw [← e.slot, hx]), fun i nd hn => h.objs i nd (by rw [← e.obj, hn]),
  fun i hi => h.dead i (by rw [← e.obj, hi]), h.fresh, h.ext⟩
structure St.Less (st st' : St) : Prop where
 n : st'.n = st.n
 slot : ∀ s x, st'.slot s = some x → st.slot s = some x
 obj : ∀ i nd, st'.obj i = some nd → st.obj i = some nd
theorem V.forget {w : World} {lab : Labs} {loc loc' : Locs} {x : AV} {v : Value} (h : V w lab loc x v)
  (hl : ∀ id b base, loc' id = some (b, base) → loc id = some (b, base)) : V w lab loc' x v :=
 h.mono (fun _ _ h => ⟨h, rfl⟩) (Nat.le_refl _) fun id _ b base hb => ⟨hl id b base hb, fun _ h => h⟩
theorem Rep.less {w0 : World} {lab0 : Labs} {st st' : St} {a : Act} {w : World} (h : Rep w0 lab0 st a w) (e : St.Less st st') : Rep w0 lab0 st' a w := by
 obtain ⟨lab, loc, h⟩ := h
 let loc' : Locs := fun i => match st'.obj i with | some _ => loc i | none => none
 have hl : ∀ id b base, loc' id = some (b, base) → loc id = some (b, base) := by
  intro id b base hb
  simp only [loc'] at hb
  split at hb
  ·exact hb
  ·cases hb
 refine ⟨lab, loc', by rw [h.size, e.n], h.defers, fun s x hx => (h.slots s x (e.slot s x hx)).forget hl, ?_, ?_, h.fresh, h.ext⟩
 ·intro i nd hn
  obtain ⟨b, base, h1, h2⟩ := h.objs i nd (e.obj i nd hn)
  refine ⟨b, base, by simp only [loc', hn]; exact h1, h2.hlab, h2.blk, h2.es, ?_⟩
  intro k c j x hc hx
  obtain ⟨v, hv, hx⟩ := h2.cells k c j x hc hx
  exact ⟨v, hv, hx.imp (fun h => h.forget hl) id⟩
 ·intro i hi; simp only [loc', hi]
theorem RepL.step {w0 : World} {lab0 : Labs} {st : St} {a a' : Act} {w w' : World} {lab lab' : Labs} {loc loc' : Locs} (h : RepL w0 lab0 st a w lab loc) (e : Eff)
  (hsize : a'.tmps.size = a.tmps.size) (hdef : a'.defers = []) (hext : Ext lab w lab' w')
  (hslots : ∀ s, look s e.wr = none → a'.tmps.getD s undef = a.tmps.getD s undef)
  (hwr : ∀ s x, look s e.wr = some x → V w' lab' loc' x (a'.tmps.getD s undef))
  (hkept : ∀ id nd b base, st.obj id = some nd → look id e.up = none → loc id = some (b, base) →
   loc' id = some (b, base) ∧ ∀ b' q, b' < w.heap.size → lab b' = some (.obj id, q) → lab' b' = lab b' ∧ w'.heap[b']? = w.heap[b']?)
  (hup : ∀ id nd, look id e.up = some (some nd) → ∃ b base, loc' id = some (b, base) ∧ ObjOk w' lab' loc' id nd b base)
  (hdead : ∀ id, look id e.up = some none ∨ (look id e.up = none ∧ st.obj id = none) → loc' id = none)
  (hfresh : ∀ b, lab' b ≠ none → b < w'.heap.size)
  (hloc : ∀ id, id ∈ st.ids → ∀ b base, loc' id = some (b, base) → loc id = some (b, base)) :
  RepL w0 lab0 (e.apply st) a' w' lab' loc' := by
 have hV : ∀ x v, (∀ i ∈ x.ids, i ∈ st.ids) → V w lab loc x v → V w' lab' loc' x v := fun x v hi hv =>
  hv.mono hext.imm hext.size fun id hid b base hb => ⟨hloc id (hi id hid) b base hb, fun n hn => hext.blk b n hn⟩
 refine ⟨by rw [hsize, h.size]; rfl, hdef, ?_, ?_, ?_, hfresh, h.ext.trans hext⟩
 ·intro s x hx
  rw [slot_apply] at hx
  cases he : look s e.wr with
  | some y => rw [he] at hx; simp at hx; subst hx; exact hwr s _ he
  | none =>
   rw [he] at hx; simp at hx
   rw [hslots s he]
   exact hV x _ (fun i hi => ids_of_slot hx hi) (h.slots s x hx)
 ·intro id nd hn
  rw [obj_apply] at hn
  cases he : look id e.up with
  | some o => rw [he] at hn; simp at hn; subst hn; exact hup id nd he
  | none =>
   rw [he] at hn; simp at hn
   obtain ⟨b, base, h1, h2⟩ := h.objs id nd hn
   obtain ⟨h3, h4⟩ := hkept id nd b base hn he h1
   refine ⟨b, base, h3, ?_⟩
   have hb := h4 b [] h2.blk.lt h2.hlab
   refine ⟨by rw [hb.1]; exact h2.hlab, h2.blk.same hb.2, h2.es, ?_⟩
   intro i c j x hi hj
   obtain ⟨v, hv, hx⟩ := h2.cells i c j x hi hj
   refine ⟨v, by rw [cell_same (a := ⟨b, base + i * nd.es + j, none⟩) hb.2]; exact hv, ?_⟩
   rcases hx with hx | hx
   ·exact Or.inl (hV x v (fun k hk => ids_of_obj hn (ids_of_cell hi hj hk)) hx)
   ·refine Or.inr (hx.move hext.imm ?_ hext.size)
    intro b' q hb' hq
    have := h4 b' _ hb' hq
    exact ⟨by rw [this.1, hq], this.2⟩
 ·intro id hid
  rw [obj_apply] at hid
  cases he : look id e.up with
  | some o => rw [he] at hid; simp at hid; subst hid; exact hdead id (Or.inl he)
  | none => rw [he] at hid; simp at hid; exact hdead id (Or.inr ⟨he, hid⟩)
end Go.AM
namespace Go.AM
inductive TKind where
 | bool | int (k : IntKind) | str | slice (e : Nat) | struct (fs : List (Nat × Nat)) | pointer (e : Nat) | other
structure TInfo where
 kind : TKind
 size : Nat
 bytes : Nat
 zero : Option (List AV)
 flat : Bool      -- a struct of int64s: may be compared
abbrev TI := Nat → Option TInfo
def ofV : Value → Option AV
 | .bool b => some (.bool b)
 | .int k n => some (.int k n)
 | .string s => some (.str s.data.toList)
 | .pointer none => some .nilp
 | .slice none 0 0 => some .nils
 | _ => none
theorem ofV_sound {w : World} {lab : Labs} {v : Value} {x : AV} (h : ofV v = some x) : I w lab x v := by
 unfold ofV at h
 split at h <;> first | (cases h; done) | skip
 ·cases h; exact .bool _
 ·cases h; exact .int _ _
 ·cases h; exact .str _
 ·cases h; exact .nilp
 ·cases h; exact .nils
theorem ofV_one {v : Value} {x : AV} (h : ofV v = some x) : v.oneCell' = true := by
 unfold ofV at h
 split at h <;> first | rfl | (cases h)
def KOk (P : Program) (t : Nat) : TKind → Prop
 | .bool => P.underlying t = some .bool
 | .int k => P.underlying t = some (.int k)
 | .str => P.underlying t = some .string
 | .slice e => P.underlying t = some (.slice e)
 | .struct fs => ∃ fields : Array Field, P.underlying t = some (.struct fields) ∧ fields.toList.map (fun f => (f.offset, f.type)) = fs
 | .pointer e => P.underlying t = some (.pointer e)
 | .other => True
def FlatEq (P : Program) (t n : Nat) : Prop := P.eqGuardType P.depth t = false ∧ ∀ (w : World) (a b : List Int), a.length = n → b.length = n →
 (Op.equalIn 10000 t (.agg ⟨a.map (Value.int .i64)⟩) (.agg ⟨b.map (Value.int .i64)⟩)).run P w = .ok (decide (a = b)) w
structure TOk1 (P : Program) (t : Nat) (i : TInfo) : Prop where
 eqs : i.flat = true → FlatEq P t i.size
 info : ∃ info, P.info? t = some info ∧ info.size = i.size ∧ info.bytes = i.bytes ∧ ∀ z, i.zero = some z → ∃ zv, info.zero = some zv ∧ zv.cells.toList.mapM ofV = some z ∧ z.length = i.size
 kind : KOk P t i.kind
def TOk (P : Program) (ti : TI) : Prop := ∀ t i, ti t = some i → TOk1 P t i
def tkind (ti : TI) (t : Nat) : TKind := match ti t with | some i => i.kind | none => .other
theorem tkind_ok {P : Program} {ti : TI} (hT : TOk P ti) (t : Nat) : KOk P t (tkind ti t) := by
 unfold tkind; cases h : ti t with
 | none => trivial
 | some i => exact (hT t i h).kind
def TKind.agg : TKind → Option Bool
 | .struct _ => some true
 | .other => none
 | _ => some false
section run
variable {P : Program} {ti : TI} (hT : TOk P ti) {t : Nat} {i : TInfo} (h : ti t = some i)
include hT h
theorem t_sizeOf (w : World) : (sizeOf t).run P w = .ok i.size w := by
 obtain ⟨info, h1, h2, _⟩ := (hT t i h).info
 simp [sizeOf, typeInfo, h1, h2]
theorem t_isAgg {b : Bool} (hb : i.kind.agg = some b) (w : World) : (isAgg t).run P w = .ok b w := by
 have hk := (hT t i h).kind
 cases hi : i.kind <;> simp [hi, TKind.agg, KOk] at hb hk <;> subst hb
 case struct fs =>
  obtain ⟨fields, hf, _⟩ := hk
  simp [isAgg, run_underlying hf]
 all_goals simp [isAgg, run_underlying hk]
end run
theorem addr_add (b o n : Nat) : (⟨b, o, none⟩ : Addr).add n = ⟨b, o + n, none⟩ := by
 unfold Addr.add; split <;> simp_all
def intBin (b : BinOp) (k : IntKind) (x y : Int) : Option (AV × Prop) :=
 match b with
 | .add => some (.int k (k.wrap (x + y)), True)
 | .sub => some (.int k (k.wrap (x - y)), True)
 | .mul => some (.int k (k.wrap (x * y)), True)
 | .quo => some (.int k (k.wrap (x.tdiv y)), y ≠ 0)
 | .rem => some (.int k (x.tmod y), y ≠ 0)
 | .and => some (.int k (k.wrap (BitVec.ofInt k.bits x &&& BitVec.ofInt k.bits y).toNat), True)
 | .eql => some (.bool (decide (x = y)), True)
 | .neq => some (.bool (!decide (x = y)), True)
 | .lss => some (.bool (decide (x < y)), True)
 | .leq => some (.bool (decide (x ≤ y)), True)
 | .gtr => some (.bool (decide (y < x)), True)
 | .geq => some (.bool (decide (y ≤ x)), True)
 | _ => none
def strBin (b : BinOp) (x y : List UInt8) : Option (AV × Prop) :=
 match b with
 | .add => some (.str (x ++ y), x.length + y.length ≤ 140737488355328)
 | .eql => some (.bool (decide (x = y)), True)
 | .neq => some (.bool (!decide (x = y)), True)
 | _ => none
def intsA : List AV → Option (List Int)
 | [] => some []
 | x :: r => match x, intsA r with
  | .int .i64 n, some l => some (n :: l)
  | _, _ => none
theorem intsA_eq : ∀ {xs : List AV} {l : List Int}, intsA xs = some l → xs = l.map (AV.int .i64) := by
 intro xs
 induction xs with
 | nil => intro l h; simp [intsA] at h; subst h; rfl
 | cons x r ih =>
  intro l h
  simp only [intsA] at h
  split at h <;> first | (cases h; done) | cases h
  rename_i n l' hr
  rw [ih hr]; rfl
def binA (ti : TI) (b : BinOp) (t : Nat) : AV → AV → Option (AV × Prop)
 | .int k x, .int k' y =>
  match b with
  | .shl => some (.int k (k.wrap (x * 2 ^ (min y.toNat k.bits))), 0 ≤ y)
  | .shr => some (.int k (x.fdiv (2 ^ (min y.toNat k.bits))), 0 ≤ y)
  | _ => if k = k' then intBin b k x y else none
 | .str x, .str y => strBin b x y
 | .bool x, .bool y =>
  match tkind ti t, b with
  | .bool, .eql => some (.bool (x == y), True)
  | .bool, .neq => some (.bool (x != y), True)
  | _, _ => none
 | .nils, .nils => match tkind ti t, b with
  | .slice _, .eql => some (.bool true, True)
  | .slice _, .neq => some (.bool false, True)
  | _, _ => none
 | .sl _ _ _ _, .nils => match tkind ti t, b with
  | .slice _, .eql => some (.bool false, True)
  | .slice _, .neq => some (.bool true, True)
  | _, _ => none
 | .nel, .nils => match tkind ti t, b with
  | .slice _, .eql => some (.bool false, True)
  | .slice _, .neq => some (.bool true, True)
  | _, _ => none
 | .isl _ (_ :: _), .nils => match tkind ti t, b with
  | .slice _, .eql => some (.bool false, True)
  | .slice _, .neq => some (.bool true, True)
  | _, _ => none
 | .agg xs, .agg ys => match ti t, intsA xs, intsA ys with
  | some i, some a, some c => if i.flat = true ∧ a.length = i.size ∧ c.length = i.size then match b with
    | .eql => some (.bool (decide (a = c)), True)
    | .neq => some (.bool (!decide (a = c)), True)
    | _ => none else none
  | _, _, _ => none
 | _, _ => none
theorem bytes_toList (s : ByteArray) : s.toList = s.data.toList := by
 have h : ∀ n i r, s.size - i = n → i ≤ s.size → ByteArray.toList.loop s i r = r.reverse ++ s.data.toList.drop i := by
  intro n
  induction n with
  | zero =>
   intro i r hn hi
   rw [ByteArray.toList.loop]
   have : ¬ i < s.size := by omega
   have h2 : s.data.toList.length ≤ i := by have : s.data.toList.length = s.size := rfl; omega
   simp [this, List.drop_eq_nil_of_le h2]
  | succ n ih =>
   intro i r hn hi
   rw [ByteArray.toList.loop]
   have hlt : i < s.size := by omega
   have h2 : i < s.data.toList.length := by have : s.data.toList.length = s.size := rfl; omega
   simp only [hlt, if_true]
   rw [ih (i + 1) _ (by omega) (by omega), List.drop_eq_getElem_cons h2]
   have : s.get! i = s.data.toList[i] := by
    have : s.get! i = s.data[i]! := by cases s; rfl
    rw [this, getElem!_pos s.data i hlt]; simp
   simp [this]
 have := h s.size 0 [] (by omega) (by omega)
 simpa [ByteArray.toList] using this
section eq
variable {P : Program} (w : World) {t : Nat}
theorem run_equalIn_bool (d : Nat) (a b : Bool) (h : P.underlying t = some .bool) : (Op.equalIn (d + 1) t (.bool a) (.bool b)).run P w = .ok (a == b) w := by
 simp [Op.equalIn, run_underlying h]
theorem run_equalIn_int (d : Nat) (k : IntKind) (a b : Int) (h : P.underlying t = some (.int k)) : (Op.equalIn (d + 1) t (.int k a) (.int k b)).run P w = .ok (a == b) w := by
 simp [Op.equalIn, run_underlying h]
theorem run_equalIn_nils (d e : Nat) (h : P.underlying t = some (.slice e)) : (Op.equalIn (d + 1) t (.slice none 0 0) (.slice none 0 0)).run P w = .ok true w := by
 simp [Op.equalIn, run_underlying h]
theorem run_equalIn_slnil (d e : Nat) (a : Addr) (n c : Nat) (h : P.underlying t = some (.slice e)) : (Op.equalIn (d + 1) t (.slice (some a) n c) (.slice none 0 0)).run P w = .ok false w := by
 simp [Op.equalIn, run_underlying h]
theorem run_equal_bool (a b : Bool) (h : P.underlying t = some .bool) : (Op.equal t (.bool a) (.bool b)).run P w = .ok (a == b) w := run_equalIn_bool w 9999 a b h
theorem run_equal_nils (e : Nat) (h : P.underlying t = some (.slice e)) : (Op.equal t (.slice none 0 0) (.slice none 0 0)).run P w = .ok true w := run_equalIn_nils w 9999 e h
theorem run_equal_slnil (e : Nat) (a : Addr) (n c : Nat) (h : P.underlying t = some (.slice e)) : (Op.equal t (.slice (some a) n c) (.slice none 0 0)).run P w = .ok false w := run_equalIn_slnil w 9999 e a n c h
end eq
section bin
variable {P : Program} {ti : TI} (hT : TOk P ti) {w : World} {lab : Labs} {loc : Locs}
theorem intBin_sound {b : BinOp} {k : IntKind} {x y : Int} {z : AV} {ok : Prop} (h : intBin b k x y = some (z, ok)) (hok : ok) (t : Nat) (hb : b ≠ .shl ∧ b ≠ .shr) :
  ∃ v, (binOp b t (.int k x) (.int k y)).run P w = .ok v w ∧ V w lab loc z v := by
 unfold intBin at h
 split at h <;> first | (cases h; done) | (cases h)
 ·exact ⟨_, by simp [binOp, Op.intArith], V.int _ _⟩
 ·exact ⟨_, by simp [binOp, Op.intArith], V.int _ _⟩
 ·exact ⟨_, by simp [binOp, Op.intArith], V.int _ _⟩
 ·exact ⟨_, by simp [binOp]; unfold Op.intDiv; rw [if_neg hok]; rfl, V.int _ _⟩
 ·exact ⟨_, by simp [binOp]; unfold Op.intDiv; rw [if_neg hok]; rfl, V.int _ _⟩
 ·exact ⟨_, by simp [binOp, Op.intBits], V.int _ _⟩
 ·refine ⟨.bool (decide (x = y)), ?_, V.bool _⟩
  simp [binOp, Op.intCmp]; by_cases e : x = y <;> simp [e]
 ·refine ⟨.bool (!decide (x = y)), ?_, V.bool _⟩
  simp [binOp, Op.intCmp]; by_cases e : x = y <;> simp [e]
 ·exact ⟨_, by simp [binOp, Op.intCmp], V.bool _⟩
 ·exact ⟨_, by simp [binOp, Op.intCmp], V.bool _⟩
 ·exact ⟨_, by simp [binOp, Op.intCmp], V.bool _⟩
 ·exact ⟨_, by simp [binOp, Op.intCmp], V.bool _⟩
theorem strBin_sound {b : BinOp} {x y : List UInt8} {z : AV} {ok : Prop} (h : strBin b x y = some (z, ok)) (hok : ok) (t : Nat) :
  ∃ v, (binOp b t (.string ⟨x.toArray⟩) (.string ⟨y.toArray⟩)).run P w = .ok v w ∧ V w lab loc z v := by
 unfold strBin at h
 split at h <;> first | (cases h; done) | (cases h)
 ·refine ⟨.string (⟨x.toArray⟩ ++ ⟨y.toArray⟩), ?_, ?_⟩
  ·have hs : ((⟨x.toArray⟩ : ByteArray).size + (⟨y.toArray⟩ : ByteArray).size : Nat) = x.length + y.length := by simp [ByteArray.size]
   have hn : ¬ (((⟨x.toArray⟩ : ByteArray).size + (⟨y.toArray⟩ : ByteArray).size : Nat) : Int) > IntKind.i64.max := by
    rw [hs]; have : IntKind.i64.max = 9223372036854775807 := by decide
    rw [this]; omega
   simp only [binOp, Op.stringOp]
   rw [if_neg hn]; rfl
  ·have : (⟨x.toArray⟩ ++ ⟨y.toArray⟩ : ByteArray) = ⟨(x ++ y).toArray⟩ := by
    apply ByteArray.ext; simp
   rw [this]; exact V.str _
 ·refine ⟨.bool (decide (x = y)), ?_, V.bool _⟩
  simp only [binOp, Op.stringOp, bytes_toList]
  by_cases hxy : x = y <;> simp [hxy]
 ·refine ⟨.bool (!decide (x = y)), ?_, V.bool _⟩
  simp only [binOp, Op.stringOp, bytes_toList]
  by_cases hxy : x = y <;> simp [hxy]
include hT in
theorem binA_sound {b : BinOp} {t : Nat} {x y : AV} {z : AV} {ok : Prop} (h : binA ti b t x y = some (z, ok)) (hok : ok) {vx vy : Value}
  (hx : V w lab loc x vx) (hy : V w lab loc y vy) (hlx : ∀ i ∈ x.ids, ∃ p, loc i = some p) (ox oy : Operand) :
  ∃ v, (do eqGuard b t ox oy vx vy; binOp b t vx vy : Sem Value).run P w = .ok v w ∧ V w lab loc z v := by
 unfold binA at h
 have hk := tkind_ok hT t
 split at h
 ·rename_i k x k' y
  rw [hx.inv_int, hy.inv_int]
  have hg : (eqGuard b t ox oy (.int k x) (.int k' y)).run P w = .ok () w := by unfold eqGuard; split <;> simp
  simp only [Sem.run_bind, hg, Result.andThen_ok]
  split at h
  ·cases h
   refine ⟨_, ?_, V.int _ _⟩
   have hn : ¬ y < 0 := Int.not_lt.2 hok
   simp [binOp, Op.shift, hn]
  ·cases h
   refine ⟨_, ?_, V.int _ _⟩
   have hn : ¬ y < 0 := Int.not_lt.2 hok
   simp [binOp, Op.shift, hn]
  ·split at h
   ·rename_i h1 h2 e
    subst e
    exact intBin_sound h hok t ⟨h1, h2⟩
   ·cases h
 ·rename_i x y
  rw [hx.inv_str, hy.inv_str]
  have hg : (eqGuard b t ox oy (.string ⟨x.toArray⟩) (.string ⟨y.toArray⟩)).run P w = .ok () w := by unfold eqGuard; split <;> simp
  simp only [Sem.run_bind, hg, Result.andThen_ok]
  exact strBin_sound h hok t
 ·rename_i x y
  rw [hx.inv_bool, hy.inv_bool]
  have hg : (eqGuard b t ox oy (.bool x) (.bool y)).run P w = .ok () w := by unfold eqGuard; split <;> simp
  simp only [Sem.run_bind, hg, Result.andThen_ok]
  split at h <;> first | (cases h; done) | skip
  all_goals
   rename_i hk'
   rw [hk'] at hk
   cases h
   refine ⟨_, ?_, V.bool _⟩
   simp [binOp, run_equal_bool w x y hk, bne]
 ·rw [hx.inv_nils, hy.inv_nils]
  have hg : (eqGuard b t ox oy (.slice none 0 0) (.slice none 0 0)).run P w = .ok () w := by unfold eqGuard; split <;> simp
  simp only [Sem.run_bind, hg, Result.andThen_ok]
  split at h <;> first | (cases h; done) | skip
  all_goals
   rename_i hk'
   rw [hk'] at hk
   cases h
   refine ⟨_, ?_, V.bool _⟩
   simp [binOp, run_equal_nils w _ hk]
 rotate_left 3
 ·rename_i xs ys
  split at h <;> first | (cases h; done) | skip
  rename_i i a c hi ha hc
  split at h <;> first | (cases h; done) | skip
  rename_i hcond
  obtain ⟨hf, hla, hlc⟩ := hcond
  obtain ⟨hg, he⟩ := (hT t i hi).eqs hf
  have key : ∀ {zs : List AV} {l : List Int} {v : Value}, intsA zs = some l → V w lab loc (.agg zs) v → v = .agg ⟨l.map (Value.int .i64)⟩ := by
   intro zs l v hz hv
   obtain ⟨vs, rfl, hl, hr⟩ := hv.inv_agg
   have hzs := intsA_eq hz
   congr 2
   apply List.ext_getElem?
   intro j
   rw [List.getElem?_map]
   cases hj : l[j]? with
   | none =>
    have h1 : l.length ≤ j := List.getElem?_eq_none_iff.1 hj
    have h2 : vs.length = l.length := by rw [← hl, hzs]; simp
    simp [List.getElem?_eq_none (show vs.length ≤ j by omega)]
   | some n =>
    have h3 : zs[j]? = some (.int .i64 n) := by rw [hzs, List.getElem?_map, hj]; rfl
    have h4 : j < vs.length := by rw [← hl]; exact (List.getElem?_eq_some_iff.1 h3).1
    have h5 := hr j _ vs[j] h3 (List.getElem?_eq_getElem h4)
    rw [List.getElem?_eq_getElem h4, h5.inv_int]; rfl
  rw [key ha hx, key hc hy]
  have hgu := run_eqGuard_agg (P := P) w b t ox oy ⟨a.map (Value.int .i64)⟩ ⟨c.map (Value.int .i64)⟩ hg
  simp only [Sem.run_bind, hgu, Result.andThen_ok]
  split at h <;> first | (cases h; done) | cases h
  ·refine ⟨_, ?_, V.bool _⟩
   rw [run_eql_struct, he w a c hla hlc]; rfl
  ·refine ⟨_, ?_, V.bool _⟩
   rw [run_neq_struct, he w a c hla hlc]; rfl
 rotate_right 3
 all_goals try (cases h; done)
 all_goals
  have hsl : ∃ a n c, vx = .slice (some a) n c := by
   first
    | (cases hx with | imm _ _ hI => cases hI with | nel a c => exact ⟨_, _, _, rfl⟩)
    | (cases hx.inv_isl with | isl _ _ b off cap vals hb hs hc hes hp hv hr => exact ⟨_, _, _, rfl⟩)
    | (obtain ⟨⟨b, base⟩, hp⟩ := hlx _ (by simp only [AV.ids]; exact List.mem_singleton.2 rfl); obtain ⟨a, c, h1, _⟩ := hx.inv_sl hp; exact ⟨_, _, _, h1⟩)
  obtain ⟨a, n, c, rfl⟩ := hsl
  rw [hy.inv_nils]
  have hg : (eqGuard b t ox oy (.slice (some a) n c) (.slice none 0 0)).run P w = .ok () w := by unfold eqGuard; split <;> simp
  simp only [Sem.run_bind, hg, Result.andThen_ok]
  split at h <;> first | (cases h; done) | skip
  all_goals
   rename_i hk'
   rw [hk'] at hk
   cases h
   refine ⟨_, ?_, V.bool _⟩
   simp [binOp, run_equal_slnil w _ a n c hk]
end bin
end Go.AM
namespace Go.AM
theorem getD_lt {α : Type} {l : List α} {i : Nat} {d : α} (h : i < l.length) : l[i]? = some (l.getD i d) := by simp [List.getD, h]
theorem T.inv_plain {w : World} {lab : Labs} {p : Lab} {x : AV} {v : Value} (h : T w lab p x v) (hx : x.plain = true) : I w lab x v := by
 cases h with
 | imm _ _ _ h => exact h
 | osl => simp [AV.plain] at hx
 | op => simp [AV.plain] at hx
 | agg => simp [AV.plain] at hx
 | tup => simp [AV.plain] at hx
theorem Cell.inv_plain {w : World} {lab : Labs} {loc : Locs} {p : Lab} {x : AV} {v : Value} (h : Cell w lab loc p x v) (hx : x.plain = true) : V w lab loc x v := by
 rcases h with h | h
 ·exact h
 ·exact .imm _ _ (h.inv_plain hx)
def unA (u : UnOp) : AV → Option (AV × Prop)
 | .bool b => match u with | .not => some (.bool (!b), True) | _ => none
 | .int k n => match u with | .neg => some (.int k (k.wrap (0 - n)), True) | _ => none
 | _ => none
def indexA (ti : TI) (t : Nat) : AV → AV → Option (AV × Prop)
 | .str s, .int _ i => match tkind ti t with
  | .str => some (.int .u8 (s.getD i.toNat 0).toNat, 0 ≤ i ∧ i < s.length)
  | _ => none
 | _, _ => none
def esize (ti : TI) (t : Nat) : Option Nat :=
 match tkind ti t with
 | .slice e => (ti e).map (·.size)
 | _ => none
def indexAddrA (ti : TI) (nodes : Nat → Option Node) (t : Nat) : AV → AV → Option (AV × Prop)
 | .isl es l, .int _ i => if esize ti t = some es then some (.ip (l.getD i.toNat []), 0 ≤ i ∧ i < l.length) else none
 | .sl id es i0 len, .int _ i => match nodes id with
  | some _ => if esize ti t = some es then some (.ptr id es (i0 + i.toNat) 0, 0 ≤ i ∧ i < len) else none
  | none => none
 | _, _ => none
def fieldOf (ti : TI) (s f : Nat) : Option (Nat × Nat × TInfo) :=
 match tkind ti s with
 | .struct fs => match fs[f]? with
  | some (o, ft) => match ti ft with
   | some fi => if fi.size = 0 then none else some (o, ft, fi)
   | none => none
  | none => none
 | _ => none
def fieldAddrA (ti : TI) (nodes : Nat → Option Node) (s f : Nat) : AV → Option (AV × Prop)
 | .ip l => match fieldOf ti s f with
  | some (o, _, _) => some (.ip (l.drop o), True)
  | none => none
 | .ptr id es i j => match nodes id, fieldOf ti s f with
  | some _, some (o, _, _) => some (.ptr id es i (j + o), True)
  | _, _ => none
 | _ => none
def fieldA (ti : TI) (s f : Nat) : AV → Option (AV × Prop)
 | .agg cs => match fieldOf ti s f with
  | some (o, _, fi) => match fi.kind.agg with
   | some true => some (.agg ((cs.drop o).take fi.size), True)
   | some false => some (cs.getD o .undef, o < cs.length)
   | none => none
  | none => none
 | _ => none
def loadA (ti : TI) (nodes : Nat → Option Node) (t : Nat) : AV → Option (AV × Prop)
 | .ip l => match ti t with
  | some i => match i.kind.agg with
   | some true => some (.agg (l.take i.size), i.size ≤ l.length)
   | some false => some (l.getD 0 .undef, 0 < l.length)
   | none => none
  | none => none
 | .ptr id es i j => match nodes id, ti t with
  | some nd, some ty => if nd.es = es then match ty.kind.agg with
   | some true => some (.agg (((nd.l.getD i []).drop j).take ty.size), i < nd.l.length ∧ j + ty.size ≤ es ∧ (((nd.l.getD i []).drop j).take ty.size).all AV.plain = true)
   | some false => some ((nd.l.getD i []).getD j .undef, i < nd.l.length ∧ j < es ∧ ((nd.l.getD i []).getD j .undef).plain = true)
   | none => none else none
  | _, _ => none
 | _ => none
def extractA (i : Nat) : AV → Option (AV × Prop)
 | .tup vs => some (vs.getD i .undef, i < vs.length)
 | _ => none
def lenA (ti : TI) (nodes : Nat → Option Node) (t : Nat) : AV → Option (AV × Prop)
 | .str s => match tkind ti t with | .str => some (.int .i64 s.length, True) | _ => none
 | .isl _ l => match tkind ti t with | .slice _ => some (.int .i64 l.length, True) | _ => none
 | .nils | .zsl => match tkind ti t with | .slice _ => some (.int .i64 0, True) | _ => none
 | .sl id _ _ len => match tkind ti t, nodes id with | .slice _, some _ => some (.int .i64 len, True) | _, _ => none
 | .lns n => match tkind ti t with | .slice _ => some (.int .i64 n, True) | _ => none
 | _ => none
def capA (ti : TI) (t : Nat) : AV → Option (AV × Prop)
 | .nils | .zsl => match tkind ti t with | .slice _ => some (.int .i64 0, True) | _ => none
 | _ => none
def encB (s : List UInt8) : List (List AV) := s.map fun b => [.int .u8 b.toNat]
def byteOfCell : List AV → Option UInt8
 | [.int .u8 n] => if 0 ≤ n ∧ n < 256 then some (UInt8.ofNat n.toNat) else none
 | _ => none
def decB (l : List (List AV)) : Option (List UInt8) := l.mapM byteOfCell
theorem decB_encB (s : List UInt8) : decB (encB s) = some s := by
 unfold decB encB
 induction s with
 | nil => rfl
 | cons b s ih =>
  have : byteOfCell [.int .u8 b.toNat] = some b := by
   have := b.toNat_lt
   simp [byteOfCell]; omega
  simp only [List.map_cons, List.mapM_cons, this, ih]; rfl
section snd
variable {P : Program} {ti : TI} (hT : TOk P ti) {w : World} {lab : Labs} {loc : Locs} {nodes : Nat → Option Node}
 (hn : ∀ id nd, nodes id = some nd → ∃ b base, loc id = some (b, base) ∧ ObjOk w lab loc id nd b base)
theorem unA_sound {u : UnOp} {x z : AV} {ok : Prop} (h : unA u x = some (z, ok)) {vx : Value} (hx : V w lab loc x vx) :
  ∃ v, (Op.unary u vx).run P w = .ok v w ∧ V w lab loc z v := by
 unfold unA at h
 split at h
 ·split at h <;> first | (cases h; done) | cases h
  rw [hx.inv_bool]; exact ⟨_, by simp [Op.unary], V.bool _⟩
 ·split at h <;> first | (cases h; done) | cases h
  rw [hx.inv_int]; exact ⟨_, by simp [Op.unary, Op.intArith], V.int _ _⟩
 ·cases h
include hT in
theorem indexA_sound {t : Nat} {x y z : AV} {ok : Prop} (h : indexA ti t x y = some (z, ok)) (hok : ok) {vx vy : Value} (hx : V w lab loc x vx) (hy : V w lab loc y vy) :
  ∃ v, (Instr.index t vx vy).run P w = .ok v w ∧ V w lab loc z v := by
 unfold indexA at h
 split at h
 ·rename_i s k i
  have hk := tkind_ok hT t
  split at h <;> first | (cases h; done) | cases h
  rename_i hk'
  rw [hk'] at hk
  rw [hx.inv_str, hy.inv_int]
  obtain ⟨h0, h1⟩ := hok
  have hlt : i.toNat < s.length := by omega
  refine ⟨.int .u8 (s.getD i.toNat 0).toNat, ?_, V.int _ _⟩
  have hg : (⟨s.toArray⟩ : ByteArray)[i.toNat]? = some s[i.toNat] := by
   have hz : i.toNat < (⟨s.toArray⟩ : ByteArray).size := by simpa [ByteArray.size] using hlt
   exact getElem?_pos (⟨s.toArray⟩ : ByteArray) i.toNat hz
  simp [Instr.index, asIntOf, run_underlying hk, h0, hg, List.getD, hlt]
 ·cases h
include hT hn in
theorem indexAddrA_sound {t : Nat} {x y z : AV} {ok : Prop} (h : indexAddrA ti nodes t x y = some (z, ok)) (hok : ok) {vx vy : Value} (hx : V w lab loc x vx) (hy : V w lab loc y vy) :
  ∃ v, (Instr.indexAt t vx vy).run P w = .ok v w ∧ V w lab loc z v := by
 have key : ∀ es, esize ti t = some es → ∃ e, P.underlying t = some (.slice e) ∧ (sizeOf e).run P w = .ok es w := by
  intro es he
  unfold esize at he
  have hk := tkind_ok hT t
  split at he
  ·rename_i e hk'
   rw [hk'] at hk
   cases hi : ti e with
   | none => simp [hi] at he
   | some i => simp [hi] at he; subst he; exact ⟨e, hk, t_sizeOf hT hi w⟩
  ·cases he
 unfold indexAddrA at h
 split at h
 ·rename_i es l k i
  split at h <;> first | (cases h; done) | cases h
  rename_i he
  obtain ⟨e, hu, hs⟩ := key es he
  rw [hy.inv_int]
  obtain ⟨h0, h1⟩ := hok
  have hlt : i.toNat < l.length := by omega
  cases hx.inv_isl with
  | esl => simp at hlt
  | nsl => simp at hlt
  | isl _ _ b off cap vals hb hsz hc hes hp hv hr =>
   refine ⟨.pointer (some ⟨b, off + i.toNat * es, none⟩), ?_, ?_⟩
   ·simp [Instr.indexAt, asIntOf, run_underlying hu, hs, h0, h1, addr_add]
   ·have hl : l[i.toNat]? = some (l.getD i.toNat []) := by simp [List.getD, hlt]
    have hln : (l.getD i.toNat []).length = es := hes _ (List.mem_of_getElem? hl)
    refine .imm _ _ (.ip _ b _ (fun j => vals i.toNat j) hb hsz ?_ ?_)
    ·intro j hj; exact hv i.toNat j hlt (by omega)
    ·intro j x hj; exact hr i.toNat _ j x hl hj
 ·rename_i id es i0 len k i
  split at h <;> first | (cases h; done) | skip
  rename_i nd hnd
  split at h <;> first | (cases h; done) | cases h
  rename_i he
  obtain ⟨e, hu, hs⟩ := key es he
  rw [hy.inv_int]
  obtain ⟨h0, h1⟩ := hok
  obtain ⟨b, base, hl, _⟩ := hn id nd hnd
  obtain ⟨a, cap, rfl, h2, h3, _⟩ := hx.inv_sl hl
  have ha : a = ⟨b, base + i0 * es, none⟩ := by rcases h3 with h3 | h3 <;> first | exact h3 | omega
  subst ha
  refine ⟨.pointer (some ⟨b, base + i0 * es + i.toNat * es, none⟩), ?_, ?_⟩
  ·simp [Instr.indexAt, asIntOf, run_underlying hu, hs, h0, h1, addr_add]
  ·refine .ptr _ _ _ _ _ fun b' base' hl' => ?_
   rw [hl] at hl'; cases hl'
   simp [Nat.add_mul, Nat.add_assoc]
 ·cases h
include hT in
theorem fieldOf_sound {s f o ft : Nat} {fi : TInfo} (h : fieldOf ti s f = some (o, ft, fi)) :
  ∃ (fields : Array Field) (fd : Field), P.underlying s = some (.struct fields) ∧ fields[f]? = some fd ∧ fd.offset = o ∧ fd.type = ft ∧ ti ft = some fi ∧ fi.size ≠ 0 := by
 unfold fieldOf at h
 have hk := tkind_ok hT s
 split at h <;> first | (cases h; done) | skip
 rename_i fs hk'
 rw [hk'] at hk
 obtain ⟨fields, hu, hf⟩ := hk
 split at h <;> first | (cases h; done) | skip
 rename_i o' ft' hf'
 split at h <;> first | (cases h; done) | skip
 rename_i fi' hi
 split at h <;> first | (cases h; done) | cases h
 rename_i hne
 rw [← hf] at hf'
 simp only [List.getElem?_map, Option.map_eq_some_iff, Prod.mk.injEq] at hf'
 obtain ⟨fd, h1, h2, h3⟩ := hf'
 exact ⟨fields, fd, hu, by simpa using h1, h2, h3, hi, hne⟩
include hT hn in
theorem fieldAddrA_sound {s f : Nat} {x z : AV} {ok : Prop} (h : fieldAddrA ti nodes s f x = some (z, ok)) {vx : Value} (hx : V w lab loc x vx) :
  ∃ v, (Instr.fieldAt s vx f).run P w = .ok v w ∧ V w lab loc z v := by
 unfold fieldAddrA at h
 split at h
 ·rename_i l
  split at h <;> first | (cases h; done) | cases h
  rename_i o ft fi hf
  obtain ⟨fields, fd, hu, h1, h2, h3, h4, h5⟩ := fieldOf_sound hT hf
  cases hx.inv_ip with
  | ip _ b off vals hb hs hv hr =>
   refine ⟨.pointer (some ⟨b, off + o, none⟩), ?_, ?_⟩
   ·have hz := t_sizeOf hT h4 w
    simp [Instr.fieldAt, run_underlying hu, h1, Instr.sureAddr, fieldPlace, h3, hz, h5, h2, addr_add]
   ·refine .imm _ _ (.ip _ b (off + o) (fun j => vals (o + j)) hb hs ?_ ?_)
    ·intro j hj
     have := hv (o + j) (by simp at hj; omega)
     rw [← Nat.add_assoc] at this; exact this
    ·intro j x hj
     rw [List.getElem?_drop] at hj
     exact hr (o + j) x hj
 ·rename_i id es i j
  split at h <;> first | (cases h; done) | cases h
  rename_i nd o ft fi hnd hf
  obtain ⟨fields, fd, hu, h1, h2, h3, h4, h5⟩ := fieldOf_sound hT hf
  obtain ⟨b, base, hl, _⟩ := hn id nd hnd
  rw [hx.inv_ptr hl]
  refine ⟨.pointer (some ⟨b, base + i * es + j + o, none⟩), ?_, ?_⟩
  ·have hz := t_sizeOf hT h4 w
   simp [Instr.fieldAt, run_underlying hu, h1, Instr.sureAddr, fieldPlace, h3, hz, h5, h2, addr_add]
  ·refine .ptr _ _ _ _ _ fun b' base' hl' => ?_
   rw [hl] at hl'; cases hl'
   simp [Nat.add_assoc]
 ·cases h
include hT in
theorem fieldA_sound {s f : Nat} {x z : AV} {ok : Prop} (h : fieldA ti s f x = some (z, ok)) (hok : ok) {vx : Value} (hx : V w lab loc x vx) :
  ∃ v, (Instr.field s vx f).run P w = .ok v w ∧ V w lab loc z v := by
 unfold fieldA at h
 split at h <;> first | (cases h; done) | skip
 rename_i cs
 split at h <;> first | (cases h; done) | skip
 rename_i o ft fi hf
 obtain ⟨fields, fd, hu, h1, h2, h3, h4, h5⟩ := fieldOf_sound hT hf
 obtain ⟨vs, rfl, hl, hr⟩ := hx.inv_agg
 split at h <;> first | (cases h; done) | cases h
 ·rename_i ha
  refine ⟨.agg ⟨(vs.drop o).take fi.size⟩, ?_, ?_⟩
  ·have hz := t_sizeOf hT h4 w
   have hg := t_isAgg hT h4 ha w
   simp [Instr.field, run_underlying hu, h1, asAgg, part, h3, h2, hg, hz, List.take_drop]
  ·refine .agg _ _ (by simp [hl]) ?_
   intro j x y hx hy
   rw [List.getElem?_take] at hx hy
   split at hx <;> first | (cases hx; done) | skip
   rename_i hj
   rw [if_pos hj] at hy
   rw [List.getElem?_drop] at hx hy
   exact hr _ x y hx hy
 ·rename_i ha
  have ho : o < vs.length := by rw [← hl]; exact hok
  refine ⟨vs[o], ?_, ?_⟩
  ·have hg := t_isAgg hT h4 ha w
   simp [Instr.field, run_underlying hu, h1, asAgg, part, h3, h2, hg, ho]
  ·have h1 : cs[o]? = some (cs.getD o .undef) := by
    have : o < cs.length := hok
    simp [List.getD, this]
   exact hr o _ _ h1 (by simp [ho])
include hT hn in
theorem loadA_sound {t : Nat} {x z : AV} {ok : Prop} (h : loadA ti nodes t x = some (z, ok)) (hok : ok) {vx : Value} (hx : V w lab loc x vx) :
  ∃ v, (Instr.loadAt t vx).run P w = .ok v w ∧ V w lab loc z v := by
 unfold loadA at h
 split at h
 ·rename_i l
  split at h <;> first | (cases h; done) | skip
  rename_i i hi
  cases hx.inv_ip with
  | ip _ b off vals hb hs hv hr =>
   split at h <;> first | (cases h; done) | cases h
   ·rename_i ha
    have hz := t_sizeOf hT hi w
    have hg := t_isAgg hT hi ha w
    have hld := run_loadCells (P := P) w ⟨b, off, none⟩ i.size vals (fun j hj => by rw [addr_add]; exact hv j (by omega))
    refine ⟨.agg ⟨(List.range i.size).map vals⟩, by simp [Instr.loadAt, Instr.sureAddr, loadVar, hg, hz, hld], ?_⟩
    refine .imm _ _ (.agg _ _ (by simp; omega) ?_)
    intro j x y hx hy
    rw [List.getElem?_take] at hx
    split at hx <;> first | (cases hx; done) | skip
    rename_i hj
    simp [hj] at hy
    subst hy
    exact hr j x hx
   ·rename_i ha
    have hg := t_isAgg hT hi ha w
    have hc := hv 0 hok
    refine ⟨vals 0, by simp at hc; simp [Instr.loadAt, Instr.sureAddr, loadVar, hg, hc], ?_⟩
    exact .imm _ _ (hr 0 _ (by have : 0 < l.length := hok; simp [List.getD, this]))
 ·rename_i id es i j
  split at h <;> first | (cases h; done) | skip
  rename_i nd ty hnd hi
  split at h <;> first | (cases h; done) | skip
  rename_i hes
  obtain ⟨b, base, hl, ho⟩ := hn id nd hnd
  rw [hx.inv_ptr hl]
  split at h <;> first | (cases h; done) | cases h
  ·rename_i ha
   obtain ⟨h1, h2, h3⟩ := hok
   have hz := t_sizeOf hT hi w
   have hg := t_isAgg hT hi ha w
   have hci : nd.l[i]? = some (nd.l.getD i []) := by simp [List.getD, h1]
   have hlen : (nd.l.getD i []).length = es := by rw [← hes]; exact ho.es _ (List.mem_of_getElem? hci)
   have hcell : ∀ k, k < ty.size → ∃ v, w.cell? ⟨b, base + i * es + j + k, none⟩ = some v ∧ V w lab loc ((nd.l.getD i []).getD (j + k) .undef) v := by
    intro k hk
    have hk2 : (nd.l.getD i [])[j + k]? = some ((nd.l.getD i []).getD (j + k) .undef) := by
     have hlt : j + k < (nd.l.getD i []).length := by omega
     exact getD_lt hlt
    obtain ⟨v, hv, hcv⟩ := ho.cells i _ (j + k) _ hci hk2
    refine ⟨v, by rw [hes, ← Nat.add_assoc] at hv; exact hv, hcv.inv_plain ?_⟩
    rw [List.all_eq_true] at h3
    apply h3
    rw [List.mem_iff_getElem?]
    exact ⟨k, by rw [List.getElem?_take, if_pos hk, List.getElem?_drop]; exact hk2⟩
   let f : Nat → Value := fun k => (w.cell? ⟨b, base + i * es + j + k, none⟩).getD undef
   have hld := run_loadCells (P := P) w ⟨b, base + i * es + j, none⟩ ty.size f (fun k hk => by
    obtain ⟨v, hv, _⟩ := hcell k hk
    rw [addr_add]; simp only [f, hv]; rfl)
   refine ⟨.agg ⟨(List.range ty.size).map f⟩, by simp [Instr.loadAt, Instr.sureAddr, loadVar, hg, hz, hld], ?_⟩
   have hlen2 : (nd.l[i]?.getD []).length = es := by rw [← List.getD_eq_getElem?_getD]; exact hlen
   refine .agg _ _ (by simp; omega) ?_
   intro k x y hx hy
   rw [List.getElem?_take] at hx
   split at hx <;> first | (cases hx; done) | skip
   rename_i hk
   rw [List.getElem?_drop] at hx
   simp [hk] at hy
   subst hy
   obtain ⟨v, hv, hcv⟩ := hcell k hk
   have : (nd.l.getD i []).getD (j + k) .undef = x := by unfold List.getD; unfold List.getD at hx; rw [hx]; rfl
   rw [this] at hcv
   simp only [f, hv]; exact hcv
  ·rename_i ha
   obtain ⟨h1, h2, h3⟩ := hok
   have hg := t_isAgg hT hi ha w
   have hci : nd.l[i]? = some (nd.l.getD i []) := by simp [List.getD, h1]
   have hlen : (nd.l.getD i []).length = es := by rw [← hes]; exact ho.es _ (List.mem_of_getElem? hci)
   have hk2 : (nd.l.getD i [])[j]? = some ((nd.l.getD i []).getD j .undef) := by
    have hlt : j < (nd.l.getD i []).length := by omega
    exact getD_lt hlt
   obtain ⟨v, hv, hcv⟩ := ho.cells i _ j _ hci hk2
   rw [hes] at hv
   refine ⟨v, by simp [Instr.loadAt, Instr.sureAddr, loadVar, hg, hv], hcv.inv_plain h3⟩
 ·cases h
theorem extractA_sound {i : Nat} {x z : AV} {ok : Prop} (h : extractA i x = some (z, ok)) (hok : ok) {vx : Value} (hx : V w lab loc x vx) :
  ∃ v, (Instr.extract vx i).run P w = .ok v w ∧ V w lab loc z v := by
 unfold extractA at h
 split at h <;> first | (cases h; done) | cases h
 rename_i vs
 obtain ⟨us, rfl, hl, hr⟩ := hx.inv_tup
 have hi : i < us.length := by rw [← hl]; exact hok
 have h2 : vs[i]? = some (vs.getD i .undef) := by have : i < vs.length := hok; simp [List.getD, this]
 exact ⟨us[i], by simp [Instr.extract, hi], hr i _ _ h2 (by simp [hi])⟩
include hT hn in
theorem lenA_sound {t ty : Nat} {x z : AV} {ok : Prop} (h : lenA ti nodes t x = some (z, ok)) {vx : Value} (hx : V w lab loc x vx) :
  ∃ v, (Builtin.len_ #[t] ty #[vx]).run P w = .ok v w ∧ V w lab loc z v := by
 have hk := tkind_ok hT t
 unfold lenA at h
 split at h
 ·split at h <;> first | (cases h; done) | cases h
  rename_i hk'; rw [hk'] at hk
  rw [hx.inv_str]
  refine ⟨_, by simp [Builtin.len_, run_underlying hk]; rfl, ?_⟩
  simp [goInt, ByteArray.size]; exact V.int _ _
 ·split at h <;> first | (cases h; done) | cases h
  rename_i hk'; rw [hk'] at hk
  cases hx.inv_isl with
  | esl => exact ⟨_, by simp [Builtin.len_, run_underlying hk]; rfl, V.int _ _⟩
  | nsl => exact ⟨_, by simp [Builtin.len_, run_underlying hk]; rfl, V.int _ _⟩
  | isl => exact ⟨_, by simp [Builtin.len_, run_underlying hk]; rfl, V.int _ _⟩
 ·split at h <;> first | (cases h; done) | cases h
  rename_i hk'; rw [hk'] at hk
  rw [hx.inv_nils]
  exact ⟨_, by simp [Builtin.len_, run_underlying hk]; rfl, V.int _ _⟩
 ·split at h <;> first | (cases h; done) | cases h
  rename_i hk'; rw [hk'] at hk
  obtain ⟨a, rfl⟩ := hx.inv_zsl
  exact ⟨_, by simp [Builtin.len_, run_underlying hk]; rfl, V.int _ _⟩
 ·split at h <;> first | (cases h; done) | cases h
  rename_i nd hk' hnd; rw [hk'] at hk
  obtain ⟨b, base, hl, _⟩ := hn _ nd hnd
  obtain ⟨a, cap, rfl, _⟩ := hx.inv_sl hl
  exact ⟨_, by simp [Builtin.len_, run_underlying hk]; rfl, V.int _ _⟩
 ·split at h <;> first | (cases h; done) | cases h
  rename_i hk'; rw [hk'] at hk
  cases hx with
  | imm _ _ hI => cases hI with | lns n a cap => exact ⟨_, by simp [Builtin.len_, run_underlying hk]; rfl, V.int _ _⟩
 ·cases h
include hT in
theorem capA_sound {t ty : Nat} {x z : AV} {ok : Prop} (h : capA ti t x = some (z, ok)) {vx : Value} (hx : V w lab loc x vx) :
  ∃ v, (Builtin.cap_ #[t] ty #[vx]).run P w = .ok v w ∧ V w lab loc z v := by
 have hk := tkind_ok hT t
 unfold capA at h
 split at h
 ·split at h <;> first | (cases h; done) | cases h
  rename_i hk'; rw [hk'] at hk
  rw [hx.inv_nils]
  exact ⟨_, by simp [Builtin.cap_, run_underlying hk]; rfl, V.int _ _⟩
 ·split at h <;> first | (cases h; done) | cases h
  rename_i hk'; rw [hk'] at hk
  obtain ⟨a, rfl⟩ := hx.inv_zsl
  exact ⟨_, by simp [Builtin.cap_, run_underlying hk]; rfl, V.int _ _⟩
 ·cases h
end snd
end Go.AM
namespace Go.AM
def intOf : Option AV → Int → Option Int
 | none, d => some d
 | some (.int _ n), _ => some n
 | _, _ => none
def sliceA (ti : TI) (nodes : Nat → Option Node) (t : Nat) (x : AV) (lo hi mx : Option AV) : Option (AV × Prop) :=
 match mx with
 | none => match x with
  | .str s => match tkind ti t, intOf lo 0, intOf hi s.length with
   | .str, some l, some h => some (.str ((s.take h.toNat).drop l.toNat), 0 ≤ l ∧ l ≤ h ∧ h ≤ s.length)
   | _, _, _ => none
  | .isl es c => match esize ti t, intOf lo 0, intOf hi c.length with
   | some es', some l, some h => if es' = es then some (.isl es ((c.take h.toNat).drop l.toNat), 0 ≤ l ∧ l ≤ h ∧ h ≤ c.length) else none
   | _, _, _ => none
  | .nils => match esize ti t, intOf lo 0, intOf hi (0 : Nat) with
   | some _, some l, some h => some (.nils, 0 ≤ l ∧ l ≤ h ∧ h ≤ (0 : Nat))
   | _, _, _ => none
  | .zsl => match esize ti t, intOf lo 0, intOf hi (0 : Nat) with
   | some _, some l, some h => some (.zsl, 0 ≤ l ∧ l ≤ h ∧ h ≤ (0 : Nat))
   | _, _, _ => none
  | .sl id es i len => match nodes id, esize ti t, intOf lo 0, intOf hi len with
   | some _, some es', some l, some h => if es' = es then some (.sl id es (i + l.toNat) (h.toNat - l.toNat), 0 ≤ l ∧ l ≤ h ∧ h ≤ len) else none
   | _, _, _, _ => none
  | _ => none
 | some (.int _ m) => match esize ti t, intOf lo 0, hi with
  | some _, some l, some (.int _ h) => match x with
   | .nils => some (.nils, l = 0 ∧ h = 0 ∧ m = 0)
   | .isl _ _ | .zsl => some (.zsl, l = 0 ∧ h = 0 ∧ m = 0)
   | .sl id _ _ _ => match nodes id with
    | some _ => some (.zsl, l = 0 ∧ h = 0 ∧ m = 0)
    | none => none
   | _ => none
  | _, _, _ => none
 | _ => none
def convA (ti : TI) (nodes : Nat → Option Node) (src dst : Nat) : AV → Option (AV × Prop)
 | .int _ n => match tkind ti src, tkind ti dst with
  | .int _, .int k => some (.int k (k.wrap n), True)
  | _, _ => none
 | .isl es l => match tkind ti src, tkind ti dst with
  | .slice e, .str => match tkind ti e, decB l with
   | .int .u8, some s => if es = 1 then some (.str s, True) else none
   | _, _ => none
  | _, _ => none
 | .nils | .zsl => match tkind ti src, tkind ti dst with
  | .slice e, .str => match tkind ti e with
   | .int .u8 => some (.str [], True)
   | _ => none
  | _, _ => none
 | .sl id es i len => match nodes id, tkind ti src, tkind ti dst with
  | some nd, .slice e, .str => match tkind ti e, decB ((nd.l.drop i).take len) with
   | .int .u8, some s => if es = 1 ∧ nd.es = 1 then some (.str s, i + len ≤ nd.l.length) else none
   | _, _ => none
  | _, _, _ => none
 | _ => none
def AV.cellsA : AV → List AV
 | .agg cs => cs
 | x => [x]
def okCell (nodes : Nat → Option Node) (x : AV) : Bool := x.plain && x.ids.all fun i => (nodes i).isSome
def isCells (nodes : Nat → Option Node) : AV → Bool
 | .agg _ => true
 | x => okCell nodes x
def fillA (nodes : Nat → Option Node) (place : Nat → Option (Nat × Nat)) : List AV → List (Nat × AV) → Option (List AV)
 | cells, [] => some cells
 | cells, (i, v) :: rest => match place i with
  | none => none
  | some (off, size) =>
   if isCells nodes v = true ∧ v.cellsA.length = size ∧ off + size ≤ cells.length then
    fillA nodes place (cells.take off ++ (v.cellsA ++ cells.drop (off + size))) rest
   else none
def placeOf (ti : TI) (t i : Nat) : Option (Nat × Nat) :=
 match tkind ti t with
 | .struct fs => match fs[i]? with
  | some (o, ft) => match ti ft with
   | some fi => some (o, fi.size)
   | none => none
  | none => none
 | _ => none
def allFields (ti : TI) (t : Nat) : Bool :=
 match tkind ti t with
 | .struct fs => fs.all fun p => (ti p.2).isSome
 | _ => false
def buildA (ti : TI) (nodes : Nat → Option Node) (t : Nat) (parts : List (Nat × AV)) : Option (AV × Prop) :=
 match ti t with
 | some i => match i.zero with
  | some z => if allFields ti t = true then
    match fillA nodes (placeOf ti t) z parts with
    | some cells => some (.agg cells, True)
    | none => none
   else none
  | none => none
 | none => none
def minmaxA (isMax : Bool) : AV → AV → Option (AV × Prop)
 | .int k x, .int k' y => if k = k' then some (.int k (if isMax then (if y > x then y else x) else (if y < x then y else x)), True) else none
 | _, _ => none
section snd
variable {P : Program} {ti : TI} (hT : TOk P ti) {w : World} {lab : Labs} {loc : Locs} {nodes : Nat → Option Node}
 (hn : ∀ id nd, nodes id = some nd → ∃ b base, loc id = some (b, base) ∧ ObjOk w lab loc id nd b base)
include hT in
theorem esize_sound {t es : Nat} (he : esize ti t = some es) : ∃ e, P.underlying t = some (.slice e) ∧ ∀ w, (sizeOf e).run P w = .ok es w := by
 unfold esize at he
 have hk := tkind_ok hT t
 split at he
 ·rename_i e hk'
  rw [hk'] at hk
  cases hi : ti e with
  | none => simp [hi] at he
  | some i => simp [hi] at he; subst he; exact ⟨e, hk, fun w => t_sizeOf hT hi w⟩
 ·cases he
theorem run_bound (k : IntKind) (i : Int) (y : Nat) (c : BoundsCode) (h0 : 0 ≤ i) (h1 : i ≤ y) : (Instr.sliceBound (.int k i) y c).run P w = .ok i.toNat w := by
 simp [Instr.sliceBound, asIntOf, h0, h1]
def OptV (w : World) (lab : Labs) (loc : Locs) (x : Option AV) (v : Option Value) : Prop :=
 (x = none ∧ v = none) ∨ ∃ y u, x = some y ∧ v = some u ∧ V w lab loc y u
theorem OptV.int {x : Option AV} {v : Option Value} (h : OptV w lab loc x v) {d n : Int} (hi : intOf x d = some n) :
  (v = none ∧ n = d) ∨ ∃ k, v = some (.int k n) := by
 rcases h with ⟨rfl, rfl⟩ | ⟨y, u, rfl, rfl, hv⟩
 ·simp [intOf] at hi; exact Or.inl ⟨rfl, hi.symm⟩
 ·cases y <;> simp [intOf] at hi
  subst hi
  exact Or.inr ⟨_, by rw [hv.inv_int]⟩
theorem run_bounds2 {isS : Bool} {len cap : Nat} {lo hi : Option AV} {vlo vhi : Option Value} {l h : Int} (hlo : OptV w lab loc lo vlo) (hhi : OptV w lab loc hi vhi)
  (hl : intOf lo 0 = some l) (hh : intOf hi len = some h) (h0 : 0 ≤ l) (h1 : l ≤ h) (h2 : h ≤ len) (h3 : len ≤ cap) :
  (Instr.sliceBounds isS len cap vlo vhi none).run P w = .ok (l.toNat, h.toNat, cap) w := by
 rcases hlo.int hl with ⟨rfl, rfl⟩ | ⟨k, rfl⟩ <;> rcases hhi.int hh with ⟨rfl, rfl⟩ | ⟨k', rfl⟩
 ·simp [Instr.sliceBounds]
 ·simp [Instr.sliceBounds, run_bound k' h cap _ (by omega) (by omega)]
 ·simp [Instr.sliceBounds, run_bound k l len _ h0 (by omega)]
 ·simp [Instr.sliceBounds, run_bound k' h cap _ (by omega) (by omega), run_bound k l h.toNat _ h0 (by omega)]
theorem run_bounds3 {isS : Bool} {len cap : Nat} {lo : Option AV} {vlo : Option Value} {k1 k2 : IntKind} {l : Int} (hlo : OptV w lab loc lo vlo)
  (hl : intOf lo 0 = some l) (h0 : l = 0) :
  (Instr.sliceBounds isS len cap vlo (some (.int k1 0)) (some (.int k2 0))).run P w = .ok (0, 0, 0) w := by
 subst h0
 rcases hlo.int hl with ⟨rfl, _⟩ | ⟨k, rfl⟩
 ·simp [Instr.sliceBounds, run_bound k2 0 cap _ (by omega) (by omega), run_bound k1 0 0 _ (by omega) (by omega)]
 ·simp [Instr.sliceBounds, run_bound k2 0 cap _ (by omega) (by omega), run_bound k1 0 0 _ (by omega) (by omega), run_bound k 0 0 _ (by omega) (by omega)]
theorem toArray_extract (s : List UInt8) (l h : Nat) (hl : l ≤ h) : (⟨s.toArray⟩ : ByteArray).extract l h = ⟨((s.take h).drop l).toArray⟩ := by
 apply ByteArray.ext
 rw [ByteArray.data_extract]
 simp [List.drop_take]
include hT in
theorem run_slice2 {t es : Nat} (he : esize ti t = some es) {a : Option Addr} {len cap : Nat} {lo hi : Option AV} {vlo vhi : Option Value} {l h : Int}
  (hlo : OptV w lab loc lo vlo) (hhi : OptV w lab loc hi vhi) (hl : intOf lo 0 = some l) (hh : intOf hi len = some h) (h0 : 0 ≤ l) (h1 : l ≤ h) (h2 : h ≤ len) (h3 : len ≤ cap) :
  (Instr.sliceAt t (.slice a len cap) vlo vhi none).run P w = .ok (.slice (if cap = l.toNat then a else a.map (·.add (l.toNat * es))) (h.toNat - l.toNat) (cap - l.toNat)) w := by
 obtain ⟨e, hu, hs⟩ := esize_sound hT he
 have hb := run_bounds2 (P := P) (isS := true) hlo hhi hl hh h0 h1 h2 h3
 simp only [Instr.sliceAt, Instr.slice, Sem.run_bind, run_underlying (P := P) hu, Result.andThen_ok, hb, hs]
 rfl
include hT in
theorem run_slice3 {t es : Nat} (he : esize ti t = some es) {a : Option Addr} {len cap : Nat} {lo : Option AV} {vlo : Option Value} {k1 k2 : IntKind} {l : Int}
  (hlo : OptV w lab loc lo vlo) (hl : intOf lo 0 = some l) (h0 : l = 0) :
  (Instr.sliceAt t (.slice a len cap) vlo (some (.int k1 0)) (some (.int k2 0))).run P w = .ok (.slice (if 0 = 0 then a else a.map (·.add (0 * es))) (0 - 0) (0 - 0)) w := by
 obtain ⟨e, hu, hs⟩ := esize_sound hT he
 have hb := run_bounds3 (P := P) (isS := true) (len := len) (cap := cap) (k1 := k1) (k2 := k2) hlo hl h0
 simp only [Instr.sliceAt, Instr.slice, Sem.run_bind, run_underlying (P := P) hu, Result.andThen_ok, hb, hs]
 rfl
include hT hn in
theorem sliceA_sound {t : Nat} {x z : AV} {lo hi mx : Option AV} {ok : Prop} (h : sliceA ti nodes t x lo hi mx = some (z, ok)) (hok : ok) {vx : Value} {vlo vhi vmx : Option Value}
  (hx : V w lab loc x vx) (hlo : OptV w lab loc lo vlo) (hhi : OptV w lab loc hi vhi) (hmx : OptV w lab loc mx vmx) :
  ∃ v, (Instr.sliceAt t vx vlo vhi vmx).run P w = .ok v w ∧ V w lab loc z v := by
 unfold sliceA at h
 split at h
 ·have hm : vmx = none := by rcases hmx with ⟨_, h⟩ | ⟨_, _, h, _⟩ <;> first | exact h | cases h
  subst hm
  split at h
  ·rename_i s
   have hk := tkind_ok hT t
   split at h <;> first | (cases h; done) | cases h
   rename_i l h' hk' hl hh
   rw [hk'] at hk
   obtain ⟨h0, h1, h2⟩ := hok
   rw [hx.inv_str]
   have hz : (⟨s.toArray⟩ : ByteArray).size = s.length := by simp [ByteArray.size]
   have hb := run_bounds2 (P := P) (isS := false) (len := s.length) (cap := s.length) hlo hhi hl hh h0 h1 h2 (Nat.le_refl _)
   refine ⟨.string ((⟨s.toArray⟩ : ByteArray).extract l.toNat h'.toNat), ?_, ?_⟩
   ·simp only [Instr.sliceAt, Instr.slice, Sem.run_bind, run_underlying (P := P) hk, Result.andThen_ok, Option.isSome_none, Bool.false_eq_true, if_false, hz, hb]
    rfl
   ·rw [toArray_extract _ _ _ (by omega)]; exact V.str _
  ·rename_i es c
   split at h <;> first | (cases h; done) | skip
   rename_i es' l h' he hl hh
   split at h <;> first | (cases h; done) | cases h
   rename_i hes
   subst hes
   obtain ⟨h0, h1, h2⟩ := hok
   cases hx.inv_isl with
   | esl _ a cap =>
    have hl0 : l.toNat = 0 := by simp at h2; omega
    have hh0 : h'.toNat = 0 := by simp at h2; omega
    refine ⟨_, run_slice2 hT he (len := 0) hlo hhi hl hh h0 h1 h2 (Nat.zero_le _), ?_⟩
    rw [hl0, hh0]
    simp only [Option.map_some, List.take_nil, List.drop_nil]
    split
    ·exact .imm _ _ (.esl _ _ _)
    ·exact .imm _ _ (.esl _ _ _)
   | nsl =>
    have hl0 : l.toNat = 0 := by simp at h2; omega
    have hh0 : h'.toNat = 0 := by simp at h2; omega
    refine ⟨_, run_slice2 hT he (len := 0) (cap := 0) hlo hhi hl hh h0 h1 h2 (Nat.zero_le _), ?_⟩
    rw [hl0, hh0]
    exact .imm _ _ (.nsl _)
   | isl _ _ b off cap vals hb hsz hc hes hp hv hr =>
    refine ⟨_, run_slice2 hT he hlo hhi hl hh h0 h1 h2 hc, ?_⟩
    have hlen : ((c.take h'.toNat).drop l.toNat).length = h'.toNat - l.toNat := by simp; omega
    simp only [Option.map_some, addr_add]
    by_cases hz : h'.toNat - l.toNat = 0
    ·have : (c.take h'.toNat).drop l.toNat = [] := List.eq_nil_of_length_eq_zero (by omega)
     rw [this, hz]
     split
     ·exact .imm _ _ (.esl _ _ _)
     ·exact .imm _ _ (.esl _ _ _)
    ·rw [if_neg (by omega)]
     have hres := I.isl (w := w) (lab := lab) es' ((c.take h'.toNat).drop l.toNat) b (off + l.toNat * es') (cap - l.toNat) (fun i j => vals (l.toNat + i) j) hb hsz (by omega)
      (fun x hx => hes x (List.mem_of_mem_take (List.mem_of_mem_drop hx))) (fun x hx => hp x (List.mem_of_mem_take (List.mem_of_mem_drop hx)))
      (fun i j hi hj => by
       have := hv (l.toNat + i) j (by omega) hj
       rw [Nat.add_mul, ← Nat.add_assoc] at this; exact this)
      (fun i cc j x hi hj => by
       rw [List.getElem?_drop, List.getElem?_take] at hi
       split at hi <;> first | (cases hi; done) | skip
       exact hr _ cc j x hi hj)
     rw [hlen] at hres
     exact .imm _ _ hres
  ·split at h <;> first | (cases h; done) | cases h
   rename_i es' l h' he hl hh
   obtain ⟨h0, h1, h2⟩ := hok
   have hl0 : l.toNat = 0 := by omega
   have hh0 : h'.toNat = 0 := by omega
   rw [hx.inv_nils]
   refine ⟨_, run_slice2 hT he (len := 0) (cap := 0) hlo hhi hl hh h0 h1 h2 (Nat.zero_le _), ?_⟩
   rw [hl0, hh0]
   exact .imm _ _ .nils
  ·split at h <;> first | (cases h; done) | cases h
   rename_i es' l h' he hl hh
   obtain ⟨h0, h1, h2⟩ := hok
   have hl0 : l.toNat = 0 := by omega
   have hh0 : h'.toNat = 0 := by omega
   obtain ⟨a, rfl⟩ := hx.inv_zsl
   refine ⟨_, run_slice2 hT he (len := 0) (cap := 0) hlo hhi hl hh h0 h1 h2 (Nat.zero_le _), ?_⟩
   rw [hl0, hh0]
   exact .imm _ _ (.zsl _)
  ·rename_i id es i len
   split at h <;> first | (cases h; done) | skip
   rename_i nd es' l h' hnd he hl hh
   split at h <;> first | (cases h; done) | cases h
   rename_i hes
   subst hes
   obtain ⟨h0, h1, h2⟩ := hok
   obtain ⟨b, base, hlc, _⟩ := hn id nd hnd
   obtain ⟨a, cap, rfl, h3, h4, h5⟩ := hx.inv_sl hlc
   refine ⟨_, run_slice2 hT he hlo hhi hl hh h0 h1 h2 h3, ?_⟩
   have key : ∀ a', (cap - l.toNat = 0 ∧ i + l.toNat ≠ 0 ∨ a' = (⟨b, base + (i + l.toNat) * es', none⟩ : Addr)) → V w lab loc (.sl id es' (i + l.toNat) (h'.toNat - l.toNat)) (.slice (some a') (h'.toNat - l.toNat) (cap - l.toNat)) := by
    intro a' ha'
    refine .sl _ _ _ _ _ fun b' base' hl' => ?_
    rw [hlc] at hl'; cases hl'
    exact ⟨a', _, rfl, by omega, ha', by rw [show i + l.toNat + (cap - l.toNat) = i + cap by omega]; exact h5⟩
   split
   ·refine key a ?_
    by_cases hl0 : l.toNat = 0
    ·rcases h4 with h4 | h4
     ·exact Or.inl (by omega)
     ·right; rw [h4, hl0, Nat.add_zero]
    ·exact Or.inl (by omega)
   ·simp only [Option.map_some]
    refine key _ ?_
    rcases h4 with h4 | h4
    ·exact Or.inl (by omega)
    ·right; rw [h4, addr_add, Nat.add_mul, Nat.add_assoc]
  ·cases h
 ·rename_i k m
  rcases hmx with ⟨h, _⟩ | ⟨_, u, h, rfl, hu'⟩
  ·cases h
  cases h
  rw [hu'.inv_int]
  split at h <;> first | (cases h; done) | skip
  rename_i es' l k' h' he hl
  rcases hhi with ⟨h, _⟩ | ⟨_, u2, h, rfl, hu2⟩
  ·cases h
  cases h
  rw [hu2.inv_int]
  split at h
  ·cases h
   obtain ⟨h0, rfl, rfl⟩ := hok
   rw [hx.inv_nils]
   exact ⟨_, run_slice3 hT he hlo hl h0, .imm _ _ .nils⟩
  ·cases h
   obtain ⟨h0, rfl, rfl⟩ := hok
   cases hx.inv_isl with
   | esl _ a cap => exact ⟨_, run_slice3 hT he hlo hl h0, .imm _ _ (.zsl _)⟩
   | nsl => exact ⟨_, run_slice3 hT he hlo hl h0, .imm _ _ (.zsl _)⟩
   | isl => exact ⟨_, run_slice3 hT he hlo hl h0, .imm _ _ (.zsl _)⟩
  ·cases h
   obtain ⟨h0, rfl, rfl⟩ := hok
   obtain ⟨a, rfl⟩ := hx.inv_zsl
   exact ⟨_, run_slice3 hT he hlo hl h0, .imm _ _ (.zsl _)⟩
  ·split at h <;> first | (cases h; done) | cases h
   rename_i nd hnd
   obtain ⟨h0, rfl, rfl⟩ := hok
   obtain ⟨b, base, hlc, _⟩ := hn _ nd hnd
   obtain ⟨a, cap, rfl, _⟩ := hx.inv_sl hlc
   exact ⟨_, run_slice3 hT he hlo hl h0, .imm _ _ (.zsl _)⟩
  ·cases h
 ·cases h
theorem byteOfCell_some {c : List AV} {b : UInt8} (h : byteOfCell c = some b) : c = [.int .u8 b.toNat] := by
 unfold byteOfCell at h
 split at h <;> first | (cases h; done) | skip
 split at h <;> first | (cases h; done) | cases h
 rename_i n hn
 have : (UInt8.ofNat n.toNat).toNat = n.toNat := by rw [UInt8.toNat_ofNat']; omega
 rw [this]; congr 2; omega
theorem decB_some {l : List (List AV)} {s : List UInt8} (h : decB l = some s) : l = encB s := by
 unfold decB at h
 induction l generalizing s with
 | nil => simp at h; subst h; rfl
 | cons c l ih =>
  simp only [List.mapM_cons, Option.bind_eq_bind] at h
  cases hc : byteOfCell c with
  | none => simp [hc] at h
  | some b =>
   simp only [hc, Option.bind_some] at h
   cases hl : l.mapM byteOfCell with
   | none => simp [hl] at h
   | some s' =>
    simp [hl] at h
    subst h
    rw [byteOfCell_some hc, ih hl]; rfl
theorem foldl_push (s : List UInt8) (a : ByteArray) : (s.map fun b => (b.toNat : Int)).foldl (fun r n => r.push (UInt8.ofNat n.toNat)) a = ⟨(a.data.toList ++ s).toArray⟩ := by
 induction s generalizing a with
 | nil => apply ByteArray.ext; simp
 | cons b s ih =>
  simp only [List.map_cons, List.foldl_cons]
  rw [ih]
  apply ByteArray.ext
  simp
theorem run_bytes (a : Addr) (cap : Nat) (s : List UInt8) (h : ∀ j b, s[j]? = some b → w.cell? (a.add j) = some (.int .u8 b.toNat)) :
  (Conv.bytesToString (.slice (some a) s.length cap)).run P w = .ok (.string ⟨s.toArray⟩) w := by
 have hld := run_loadCells_list (P := P) w a ((s.map fun b => (b.toNat : Int)).map (Value.int .u8)) (by
  intro j v hv
  simp only [List.getElem?_map, Option.map_eq_some_iff] at hv
  obtain ⟨_, ⟨b, hb, rfl⟩, rfl⟩ := hv
  exact h j b hb)
 simp only [List.length_map] at hld
 rw [run_bytesToString w a s.length cap (s.map fun b => (b.toNat : Int)) hld, foldl_push]
 simp
include hT hn in
theorem convA_sound {src dst : Nat} {x z : AV} {ok : Prop} (h : convA ti nodes src dst x = some (z, ok)) (hok : ok) {vx : Value} (hx : V w lab loc x vx) :
  ∃ v, (convert src dst vx).run P w = .ok v w ∧ V w lab loc z v := by
 have hks := tkind_ok hT src
 have hkd := tkind_ok hT dst
 unfold convA at h
 split at h
 ·split at h <;> first | (cases h; done) | cases h
  rename_i h1 h2
  rw [h1] at hks; rw [h2] at hkd
  rw [hx.inv_int]
  exact ⟨_, by simp [convert, run_underlying hks, run_underlying hkd, Conv.intToInt], V.int _ _⟩
 ·split at h <;> first | (cases h; done) | skip
  rename_i es l _ _ e h1 h2
  rw [h1] at hks; rw [h2] at hkd
  have hke := tkind_ok hT e
  split at h <;> first | (cases h; done) | skip
  rename_i s h3 hd
  rw [h3] at hke
  split at h <;> first | (cases h; done) | cases h
  rename_i hes
  subst hes
  have hl := decB_some hd
  subst hl
  obtain ⟨L, hL⟩ : ∃ L, L = encB s := ⟨_, rfl⟩
  rw [← hL] at hx
  cases hx.inv_isl with
  | esl _ a cap =>
   have hs : s = [] := by cases s <;> simp [encB] at hL ⊢
   subst hs
   refine ⟨_, ?_, V.str _⟩
   rw [run_convert_bytes_string w src dst e _ _ _ hks hke hkd]
   have := run_bytes (P := P) (w := w) a cap [] (by intro j b hb; simp at hb)
   simpa using this
  | nsl =>
   have hs : s = [] := by cases s <;> simp [encB] at hL ⊢
   subst hs
   refine ⟨.string .empty, ?_, V.str []⟩
   rw [run_convert_bytes_string w src dst e _ _ _ hks hke hkd]
   simp [Conv.bytesToString]
  | isl _ _ b off cap vals hb hsz hc hes hp hv hr =>
   subst hL
   refine ⟨_, ?_, V.str _⟩
   rw [run_convert_bytes_string w src dst e _ _ _ hks hke hkd]
   have := run_bytes (P := P) (w := w) ⟨b, off, none⟩ cap s (by
    intro j x hx
    have hj : j < s.length := by rcases Nat.lt_or_ge j s.length with h | h; exact h; simp [List.getElem?_eq_none h] at hx
    have hc := hv j 0 (by simpa [encB] using hj) (by omega)
    have hi := hr j [.int .u8 x.toNat] 0 _ (by simp [encB, hx]) rfl
    rw [addr_add]
    simp only [Nat.mul_one, Nat.add_zero] at hc
    rw [hc, hi.inv_int])
   simpa [encB] using this
 ·split at h <;> first | (cases h; done) | skip
  rename_i _ _ e h1 h2
  rw [h1] at hks; rw [h2] at hkd
  have hke := tkind_ok hT e
  split at h <;> first | (cases h; done) | cases h
  rename_i h3
  rw [h3] at hke
  rw [hx.inv_nils]
  refine ⟨.string .empty, ?_, V.str []⟩
  rw [run_convert_bytes_string w src dst e _ _ _ hks hke hkd]
  simp [Conv.bytesToString]
 ·split at h <;> first | (cases h; done) | skip
  rename_i _ _ e h1 h2
  rw [h1] at hks; rw [h2] at hkd
  have hke := tkind_ok hT e
  split at h <;> first | (cases h; done) | cases h
  rename_i h3
  rw [h3] at hke
  obtain ⟨a, rfl⟩ := hx.inv_zsl
  refine ⟨_, ?_, V.str []⟩
  cases a with
  | none =>
   rw [run_convert_bytes_string w src dst e _ _ _ hks hke hkd]
   simp [Conv.bytesToString]
   rfl
  | some a =>
  rw [run_convert_bytes_string w src dst e _ _ _ hks hke hkd]
  have := run_bytes (P := P) (w := w) a 0 [] (by intro j b hb; simp at hb)
  simpa using this
 ·split at h <;> first | (cases h; done) | skip
  rename_i id es i len _ _ _ nd e hnd h1 h2
  rw [h1] at hks; rw [h2] at hkd
  have hke := tkind_ok hT e
  split at h <;> first | (cases h; done) | skip
  rename_i s h3 hd
  rw [h3] at hke
  split at h <;> first | (cases h; done) | cases h
  rename_i hes
  obtain ⟨hes1, hes2⟩ := hes
  subst hes1
  obtain ⟨b, base, hlc, ho⟩ := hn id nd hnd
  obtain ⟨a, cap, rfl, hc1, hc2, hc3⟩ := hx.inv_sl hlc
  have hl := decB_some hd
  have hlen : s.length = len := by
   have := congrArg List.length hl
   simp [encB] at this; omega
  refine ⟨_, ?_, V.str _⟩
  rw [run_convert_bytes_string w src dst e _ _ _ hks hke hkd]
  have := run_bytes (P := P) (w := w) a cap s (by
   intro j x hsx
   have hj : j < s.length := by rcases Nat.lt_or_ge j s.length with h | h; exact h; simp [List.getElem?_eq_none h] at hsx
   have ha : a = ⟨b, base + i * 1, none⟩ := by rcases hc2 with h | h <;> first | exact h | omega
   subst ha
   have hcl : nd.l[i + j]? = some [.int .u8 x.toNat] := by
    have h4 : ((nd.l.drop i).take len)[j]? = (encB s)[j]? := by rw [hl]
    rw [List.getElem?_take, if_pos (by omega), List.getElem?_drop] at h4
    rw [h4]; simp [encB, hsx]
   obtain ⟨v, hv, hcv⟩ := ho.cells (i + j) _ 0 _ hcl rfl
   rw [addr_add]
   rw [hes2] at hv
   simp only [Nat.mul_one, Nat.add_zero] at hv
   rw [show base + i * 1 + j = base + (i + j) by omega, hv, (hcv.inv_plain rfl).inv_int])
  rw [hlen] at this
  exact this
 ·cases h
theorem minmaxA_sound {m : Bool} {ats : Array TypeId} {ty : Nat} {x y z : AV} {ok : Prop} (h : minmaxA m x y = some (z, ok)) {vx vy : Value} (hx : V w lab loc x vx) (hy : V w lab loc y vy) :
  ∃ v, (if m then Builtin.max_ ats ty #[vx, vy] else Builtin.min_ ats ty #[vx, vy]).run P w = .ok v w ∧ V w lab loc z v := by
 unfold minmaxA at h
 split at h <;> first | (cases h; done) | skip
 split at h <;> first | (cases h; done) | cases h
 rename_i hk
 subst hk
 rw [hx.inv_int, hy.inv_int]
 cases m
 ·exact ⟨_, by simp [Builtin.min_, Builtin.min2], V.int _ _⟩
 ·exact ⟨_, by simp [Builtin.max_, Builtin.max2], V.int _ _⟩
end snd
end Go.AM
namespace Go.AM
theorem foldl_setIf (vs : List Value) : ∀ (k : Nat) (cs : Array Value) (off : Nat), off + k + vs.length ≤ cs.size →
  let r := (vs.zipIdx k).foldl (fun (cs : Array Value) (p : Value × Nat) => cs.setIfInBounds (off + p.2) p.1) cs
  r.size = cs.size ∧ ∀ m : Nat, r[m]? = if off + k ≤ m ∧ m < off + k + vs.length then vs[m - off - k]? else cs[m]? := by
 induction vs with
 | nil =>
  intro k cs off h
  refine ⟨rfl, fun m => ?_⟩
  simp only [List.zipIdx_nil, List.foldl_nil, List.length_nil]
  rw [if_neg (by omega)]
 | cons v vs ih =>
  intro k cs off h
  simp only [List.length_cons] at h
  have hh := ih (k + 1) (cs.setIfInBounds (off + k) v) off (by simp; omega)
  simp only [List.zipIdx_cons, List.foldl_cons]
  refine ⟨by rw [hh.1]; simp, fun m => ?_⟩
  rw [hh.2 m]
  simp only [List.length_cons]
  by_cases h1 : off + (k + 1) ≤ m ∧ m < off + (k + 1) + vs.length
  ·rw [if_pos h1, if_pos (by omega)]
   have : m - off - k = (m - off - (k + 1)) + 1 := by omega
   rw [this, List.getElem?_cons_succ]
  ·rw [if_neg h1]
   by_cases h2 : m = off + k
   ·subst h2
    rw [if_pos (by omega)]
    have : off + k - off - k = 0 := by omega
    rw [this, Array.getElem?_setIfInBounds]
    rw [if_pos rfl, if_pos (by omega)]; rfl
   ·rw [if_neg (by omega), Array.getElem?_setIfInBounds]
    rw [if_neg (by omega)]
def CellsV (w : World) (lab : Labs) (loc : Locs) (xs : List AV) (c : Array Value) : Prop :=
 xs.length = c.size ∧ ∀ (j : Nat) x y, xs[j]? = some x → c[j]? = some y → V w lab loc x y
section snd
variable {P : Program} {ti : TI} (hT : TOk P ti) {w : World} {lab : Labs} {loc : Locs} {nodes : Nat → Option Node}
 (hn : ∀ id nd, nodes id = some nd → ∃ b base, loc id = some (b, base) ∧ ObjOk w lab loc id nd b base)
include hn in
theorem okCell_one {x : AV} {v : Value} (h : okCell nodes x = true) (hv : V w lab loc x v) : v.oneCell' = true := by
 unfold okCell at h
 simp only [Bool.and_eq_true, List.all_eq_true] at h
 obtain ⟨h1, h2⟩ := h
 cases hv with
 | imm _ _ hi => cases hi <;> first | rfl | (simp [AV.plain] at h1)
 | undef => simp [AV.plain] at h1
 | ptr id es i j v hh =>
  have := h2 id (by simp only [AV.ids]; exact List.mem_singleton.2 rfl)
  obtain ⟨nd, hnd⟩ := Option.isSome_iff_exists.1 this
  obtain ⟨b, base, hl, _⟩ := hn id nd hnd
  rw [hh b base hl]; rfl
 | sl id es i len v hh =>
  have := h2 id (by simp only [AV.ids]; exact List.mem_singleton.2 rfl)
  obtain ⟨nd, hnd⟩ := Option.isSome_iff_exists.1 this
  obtain ⟨b, base, hl, _⟩ := hn id nd hnd
  obtain ⟨a, cap, rfl, _⟩ := hh b base hl; rfl
 | fn => rfl
 | agg => simp [AV.plain] at h1
 | tup => simp [AV.plain] at h1
 | gate => simp [AV.plain] at h1
include hn in
theorem isCells_sound {x : AV} {v : Value} (h : isCells nodes x = true) (hv : V w lab loc x v) : CellsV w lab loc x.cellsA v.cells := by
 by_cases ha : ∃ cs, x = .agg cs
 ·obtain ⟨cs, rfl⟩ := ha
  obtain ⟨vs, rfl, hl, hr⟩ := hv.inv_agg
  exact ⟨by simp [AV.cellsA, Value.cells, hl], fun j x y hx hy => hr j x y hx (by simpa [Value.cells] using hy)⟩
 ·have h1 : okCell nodes x = true := by
   unfold isCells at h
   split at h
   ·rename_i cs; exact absurd ⟨cs, rfl⟩ ha
   ·exact h
  have h2 : x.cellsA = [x] := by
   unfold AV.cellsA
   split
   ·rename_i cs; exact absurd ⟨cs, rfl⟩ ha
   ·rfl
  have h3 : v.cells = #[v] := by
   have := okCell_one hn h1 hv
   cases v <;> first | rfl | (simp [Value.oneCell'] at this)
  rw [h2, h3]
  refine ⟨rfl, ?_⟩
  intro j x' y hx hy
  cases j with
  | zero => simp at hx hy; subst hx; subst hy; exact hv
  | succ j => simp at hx
include hn in
theorem fill_sound {place placeA : Nat → Option (Nat × Nat)} (hp : ∀ i o n, placeA i = some (o, n) → place i = some (o, n)) :
  ∀ (parts : List (Nat × AV)) (vparts : List (Nat × Value)) (xs out : List AV) (c : Array Value), fillA nodes placeA xs parts = some out → CellsV w lab loc xs c →
   parts.length = vparts.length → (∀ (j : Nat) p q, parts[j]? = some p → vparts[j]? = some q → p.1 = q.1 ∧ V w lab loc p.2 q.2) →
   ∃ c', Instr.fill place c vparts = some c' ∧ CellsV w lab loc out c' := by
 intro parts
 induction parts with
 | nil =>
  intro vparts xs out c h hc hl _
  have : vparts = [] := List.eq_nil_of_length_eq_zero (by simpa using hl.symm)
  subst this
  simp [fillA] at h; subst h
  exact ⟨c, rfl, hc⟩
 | cons p parts ih =>
  intro vparts xs out c h hc hl hr
  obtain ⟨i, x⟩ := p
  cases vparts with
  | nil => simp at hl
  | cons q vparts =>
   obtain ⟨i', v⟩ := q
   obtain ⟨hi, hv⟩ := hr 0 _ _ rfl rfl
   simp at hi hv; subst hi
   simp only [fillA] at h
   split at h <;> first | (cases h; done) | skip
   rename_i off size hpl
   split at h <;> first | (cases h; done) | skip
   rename_i hcond
   obtain ⟨h1, h2, h3⟩ := hcond
   have hcv := isCells_sound hn h1 hv
   have hsz : v.cells.size = size := by rw [← hcv.1, h2]
   have hfold := foldl_setIf v.cells.toList 0 c off (by simp; have := hc.1; omega)
   simp only [Nat.add_zero, Array.length_toList, Nat.sub_zero] at hfold
   have hle : v.cells.zipIdx.foldl (fun cs (x : Value × Nat) => cs.setIfInBounds (off + x.2) x.1) c = (v.cells.toList.zipIdx).foldl (fun (cs : Array Value) (x : Value × Nat) => cs.setIfInBounds (off + x.2) x.1) c := by
    rw [← Array.foldl_toList]; simp
   have hnew : CellsV w lab loc (xs.take off ++ (x.cellsA ++ xs.drop (off + size))) (v.cells.zipIdx.foldl (fun cs (x : Value × Nat) => cs.setIfInBounds (off + x.2) x.1) c) := by
    rw [hle]
    refine ⟨by rw [hfold.1]; simp [h2]; have := hc.1; omega, ?_⟩
    intro j y z hy hz
    rw [hfold.2 j] at hz
    rw [List.getElem?_append] at hy
    have hc1 := hc.1
    have htk : (xs.take off).length = off := by simp; omega
    rw [htk] at hy
    by_cases hj1 : j < off
    ·rw [if_pos hj1, List.getElem?_take, if_pos hj1] at hy
     rw [if_neg (by omega)] at hz
     exact hc.2 j y z hy hz
    ·rw [if_neg hj1, List.getElem?_append, h2] at hy
     by_cases hj2 : j - off < size
     ·rw [if_pos hj2] at hy
      rw [if_pos (by omega)] at hz
      exact hcv.2 (j - off) y z hy (by simpa using hz)
     ·rw [if_neg hj2, List.getElem?_drop] at hy
      rw [if_neg (by omega)] at hz
      rw [show off + size + (j - off - size) = j by omega] at hy
      exact hc.2 j y z hy hz
   obtain ⟨c', hc', hout⟩ := ih vparts _ out _ h hnew (by simpa using hl) (fun j p q hp hq => hr (j + 1) p q (by simpa using hp) (by simpa using hq))
   refine ⟨c', ?_, hout⟩
   simp only [Instr.fill, hp _ _ _ hpl]
   rw [if_neg]
   ·exact hc'
   ·have := hc.1
    simp [hsz]; omega
theorem run_mapM_list {α β : Type} (f : α → Sem β) (g : α → β) (l : List α) (h : ∀ a ∈ l, (f a).run P w = .ok (g a) w) : (l.mapM f).run P w = .ok (l.map g) w := by
 induction l with
 | nil => simp [List.mapM_nil]
 | cons a l ih =>
  have h1 := h a List.mem_cons_self
  have h2 := ih fun b hb => h b (List.mem_cons_of_mem _ hb)
  simp [List.mapM_cons, h1, h2]
theorem run_mapM_array {α β : Type} (f : α → Sem β) (g : α → β) (l : Array α) (h : ∀ a ∈ l.toList, (f a).run P w = .ok (g a) w) : (l.mapM f).run P w = .ok (l.map g) w := by
 rw [Array.mapM_eq_mapM_toList]
 simp [run_mapM_list f g l.toList h]
 apply Array.ext'; simp
theorem zero_cells {zs : List Value} {z : List AV} (h : zs.mapM ofV = some z) : zs.length = z.length ∧ ∀ (j : Nat) x y, z[j]? = some x → zs[j]? = some y → ofV y = some x := by
 induction zs generalizing z with
 | nil => simp at h; subst h; simp
 | cons v zs ih =>
  simp only [List.mapM_cons, Option.bind_eq_bind] at h
  cases hv : ofV v with
  | none => simp [hv] at h
  | some x =>
   cases hl : zs.mapM ofV with
   | none => simp [hv, hl] at h
   | some z' =>
    simp [hv, hl] at h; subst h
    obtain ⟨h1, h2⟩ := ih hl
    refine ⟨by simp [h1], ?_⟩
    intro j a b ha hb
    cases j with
    | zero => simp at ha hb; subst ha; subst hb; exact hv
    | succ j => simp at ha hb; exact h2 j a b ha hb
include hT in
theorem t_zero {t : Nat} {i : TInfo} {z : List AV} (h : ti t = some i) (hz : i.zero = some z) :
  ∃ zv : Value, (∀ w, (zeroValue t).run P w = .ok zv w) ∧ zv.cells.toList.mapM ofV = some z ∧ z.length = i.size := by
 obtain ⟨info, h1, h2, h3, h4⟩ := (hT t i h).info
 obtain ⟨zv, h5, h6, h7⟩ := h4 z hz
 exact ⟨zv, fun w => by simp [zeroValue, typeInfo, h1, h5], h6, h7⟩
theorem zero_CellsV {zs : Array Value} {z : List AV} (h : zs.toList.mapM ofV = some z) : CellsV w lab loc z zs := by
 obtain ⟨h1, h2⟩ := zero_cells h
 exact ⟨by simpa using h1.symm, fun j x y hx hy => .imm _ _ (ofV_sound (h2 j x y hx (by simpa using hy)))⟩
include hT in
theorem places {t : Nat} (ha : allFields ti t = true) : ∃ (fields : Array Field) (pl : Array (Nat × Nat)), P.underlying t = some (.struct fields) ∧
  (∀ w : World, (fields.mapM fun f => do pure (f.offset, ← sizeOf f.type) : Sem (Array (Nat × Nat))).run P w = .ok pl w) ∧ ∀ i o n, placeOf ti t i = some (o, n) → pl[i]? = some (o, n) := by
 unfold allFields at ha
 have hk := tkind_ok hT t
 split at ha <;> first | (cases ha; done) | skip
 rename_i fs hk'
 rw [hk'] at hk
 obtain ⟨fields, hu, hf⟩ := hk
 let g : Field → Nat × Nat := fun f => (f.offset, match ti f.type with | some i => i.size | none => 0)
 refine ⟨fields, fields.map g, hu, ?_, ?_⟩
 ·intro w
  refine run_mapM_array _ g fields ?_
  intro f hfm
  rw [List.all_eq_true] at ha
  have := ha (f.offset, f.type) (by rw [← hf]; exact List.mem_map_of_mem hfm)
  obtain ⟨i, hi⟩ := Option.isSome_iff_exists.1 this
  simp at hi
  simp [g, hi, t_sizeOf hT hi w]
 ·intro i o n hp
  unfold placeOf at hp
  rw [hk'] at hp
  simp only at hp
  split at hp <;> first | (cases hp; done) | skip
  rename_i o' ft hfi
  split at hp <;> first | (cases hp; done) | cases hp
  rename_i fi hti
  rw [← hf] at hfi
  simp only [List.getElem?_map, Option.map_eq_some_iff, Prod.mk.injEq] at hfi
  obtain ⟨fd, h1, h2, h3⟩ := hfi
  simp at h1
  simp [h1, g, h2, h3, hti]
include hT hn in
theorem buildA_sound {t : Nat} {parts : List (Nat × AV)} {vparts : List (Nat × Value)} {z : AV} {ok : Prop} (h : buildA ti nodes t parts = some (z, ok))
  (hl : parts.length = vparts.length) (hr : ∀ (j : Nat) p q, parts[j]? = some p → vparts[j]? = some q → p.1 = q.1 ∧ V w lab loc p.2 q.2) :
  ∃ v, (Instr.build t vparts.toArray).run P w = .ok v w ∧ V w lab loc z v := by
 unfold buildA at h
 split at h <;> first | (cases h; done) | skip
 rename_i i hi
 split at h <;> first | (cases h; done) | skip
 rename_i zs hz
 split at h <;> first | (cases h; done) | skip
 rename_i hall
 split at h <;> first | (cases h; done) | cases h
 rename_i cells hf
 obtain ⟨zv, hzr, hzc, _⟩ := t_zero hT hi hz
 obtain ⟨fields, pl, hu, hm, hp⟩ := places hT hall
 obtain ⟨c', hc', hcv⟩ := fill_sound hn (place := (pl[·]?)) hp parts vparts zs cells zv.cells hf (zero_CellsV hzc) hl hr
 refine ⟨.agg c', ?_, ?_⟩
 ·simp only [Instr.build, Sem.run_bind, hzr, Result.andThen_ok, run_underlying (P := P) hu, hm, hc']
  rfl
 ·obtain ⟨c'⟩ := c'
  exact .agg _ _ (by simpa using hcv.1) (fun j x y hx hy => hcv.2 j x y hx (by simpa using hy))
end snd
def liveA (nodes : Nat → Option Node) (x : AV) : Bool := x.ids.all fun i => (nodes i).isSome
def takeOpt {α : Type} (o : Option Operand) (l : List α) : Option α × List α :=
 match o with
 | none => (none, l)
 | some _ => (l.head?, l.drop 1)
def appNilA (ti : TI) (t tx : Nat) (b x : AV) : Option (AV × Prop) :=
 match b, x with
 | .nils, .nils => match tkind ti t, tkind ti tx with
  | .slice e, .slice _ => if (ti e).isSome = true then some (.nils, True) else none
  | _, _ => none
 | .nils, .isl _ l => match tkind ti t, tkind ti tx with
  | .slice e, .slice _ => if (ti e).isSome = true ∧ l.isEmpty = true then some (.nils, True) else none
  | _, _ => none
 | _, _ => none
def evalP (ti : TI) (nodes : Nat → Option Node) (op : Op) (vs : List AV) : Option (AV × Prop) :=
 match op with
 | .move _ | .assign _ => match vs with | [x] => some (x, True) | _ => none
 | .binOp b t _ _ _ => match vs with | [x, y] => if liveA nodes x then binA ti b t x y else none | _ => none
 | .unOp u _ _ => match vs with | [x] => unA u x | _ => none
 | .index t _ _ => match vs with | [x, y] => indexA ti t x y | _ => none
 | .indexAddr t _ _ => match vs with | [x, y] => indexAddrA ti nodes t x y | _ => none
 | .fieldAddr s _ f => match vs with | [x] => fieldAddrA ti nodes s f x | _ => none
 | .field s _ f => match vs with | [x] => fieldA ti s f x | _ => none
 | .load t _ => match vs with | [x] => loadA ti nodes t x | _ => none
 | .extract _ i => match vs with | [x] => extractA i x | _ => none
 | .convert s d _ => match vs with | [x] => convA ti nodes s d x | _ => none
 | .build t parts => if vs.length = parts.size then buildA ti nodes t ((parts.toList.map (·.1)).zip vs) else none
 | .makeFunc (.func f) first caps => if first.size = 0 ∧ vs.length = caps.size then some (.fn f vs, True) else none
 | .nilCheck _ => match vs with
  | [.ip l] => some (.ip l, True)
  | [.ptr id es i j] => match nodes id with | some _ => some (.ptr id es i j, True) | none => none
  | [.fn f cs] => some (.fn f cs, True)
  | _ => none
 | .slice t _ lo hi mx => match vs with
  | x :: r => sliceA ti nodes t x (takeOpt lo r).1 (takeOpt hi (takeOpt lo r).2).1 (takeOpt mx (takeOpt hi (takeOpt lo r).2).2).1
  | _ => none
 | .call c => match c.callee with
  | .builtin .len => match vs, c.argTypes.toList with | [x], [t] => lenA ti nodes t x | _, _ => none
  | .builtin .cap => match vs, c.argTypes.toList with | [x], [t] => capA ti t x | _, _ => none
  | .builtin .max => match vs with | [x, y] => minmaxA true x y | _ => none
  | .builtin .min => match vs with | [x, y] => minmaxA false x y | _ => none
  | .builtin .append => match vs, c.argTypes.toList with | [x, y], [t, tx] => appNilA ti t tx x y | _, _ => none
  | _ => none
 | _ => none
section snd
variable {P : Program} {ti : TI} (hT : TOk P ti) {w : World} {lab : Labs} {loc : Locs} {nodes : Nat → Option Node}
 (hn : ∀ id nd, nodes id = some nd → ∃ b base, loc id = some (b, base) ∧ ObjOk w lab loc id nd b base)
def OpsV (w : World) (lab : Labs) (loc : Locs) (xs : List AV) (vs : List Value) : Prop :=
 xs.length = vs.length ∧ ∀ (j : Nat) x y, xs[j]? = some x → vs[j]? = some y → V w lab loc x y
theorem OpsV.one {x : AV} {vs : List Value} (h : OpsV w lab loc [x] vs) : ∃ v, vs = [v] ∧ V w lab loc x v := by
 obtain ⟨h1, h2⟩ := h
 match vs, h1 with
 | [v], _ => exact ⟨v, rfl, h2 0 _ _ rfl rfl⟩
theorem OpsV.two {x y : AV} {vs : List Value} (h : OpsV w lab loc [x, y] vs) : ∃ v u, vs = [v, u] ∧ V w lab loc x v ∧ V w lab loc y u := by
 obtain ⟨h1, h2⟩ := h
 match vs, h1 with
 | [v, u], _ => exact ⟨v, u, rfl, h2 0 _ _ rfl rfl, h2 1 _ _ rfl rfl⟩
theorem OpsV.tail {x : AV} {xs : List AV} {v : Value} {vs : List Value} (h : OpsV w lab loc (x :: xs) (v :: vs)) : V w lab loc x v ∧ OpsV w lab loc xs vs :=
 ⟨h.2 0 _ _ rfl rfl, by have := h.1; simp at this; exact this, fun j a b ha hb => h.2 (j + 1) a b (by simpa using ha) (by simpa using hb)⟩
theorem takeOpt_V {o : Option Operand} {xs : List AV} {ρ : Operand → Value} {rest : List Value} (h : OpsV w lab loc xs ((o.map ρ).toList ++ rest)) :
  OptV w lab loc (takeOpt o xs).1 (o.map ρ) ∧ OpsV w lab loc (takeOpt o xs).2 rest := by
 cases o with
 | none => exact ⟨Or.inl ⟨rfl, rfl⟩, by simpa [takeOpt] using h⟩
 | some y =>
  simp only [Option.map_some, Option.toList_some, List.singleton_append] at h
  cases xs with
  | nil => have := h.1; simp at this
  | cons x xs =>
   obtain ⟨h1, h2⟩ := h.tail
   exact ⟨Or.inr ⟨x, ρ y, rfl, rfl, h1⟩, h2⟩
include hT in
theorem appNilA_sound {t tx ty : Nat} {x y z : AV} {ok : Prop} (h : appNilA ti t tx x y = some (z, ok)) {vx vy : Value} (hx : V w lab loc x vx) (hy : V w lab loc y vy) :
  ∃ v, (Builtin.append_ #[t, tx] ty #[vx, vy]).run P w = .ok v w ∧ V w lab loc z v := by
 have hk := tkind_ok hT t
 have hkx := tkind_ok hT tx
 unfold appNilA at h
 split at h
 ·split at h <;> first | (cases h; done) | skip
  rename_i e e' h1 h2
  split at h <;> first | (cases h; done) | cases h
  rename_i hs
  obtain ⟨i, hi⟩ := Option.isSome_iff_exists.1 hs
  obtain ⟨info, i1, _⟩ := (hT e i hi).info
  rw [h1] at hk; rw [h2] at hkx
  rw [hy.inv_nils]
  have hx' := hx
  rw [hx.inv_nils] at hx' ⊢
  exact ⟨_, by simp [Builtin.append_, run_underlying hk, run_underlying hkx, sizeOf, typeInfo, i1, Builtin.lenOf, Builtin.firstCells], hx'⟩
 ·split at h <;> first | (cases h; done) | skip
  rename_i e e' h1 h2
  split at h <;> first | (cases h; done) | cases h
  rename_i hs
  obtain ⟨i, hi⟩ := Option.isSome_iff_exists.1 hs.1
  obtain ⟨info, i1, _⟩ := (hT e i hi).info
  rw [h1] at hk; rw [h2] at hkx
  have hl := List.isEmpty_iff.1 hs.2
  subst hl
  have hx' := hx
  rw [hx.inv_nils] at hx' ⊢
  cases hy.inv_isl <;>
   exact ⟨_, by simp [Builtin.append_, run_underlying hk, run_underlying hkx, sizeOf, typeInfo, i1, Builtin.lenOf, Builtin.firstCells, loadCells, loadCellsFrom], hx'⟩
 ·cases h
include hT hn in
theorem evalP_sound {o : Oper} {ρ : Operand → Value} {vs : List AV} {z : AV} {ok : Prop} (h : evalP ti nodes o.op vs = some (z, ok)) (hok : ok)
  (hv : OpsV w lab loc vs (o.op.operands.toList.map ρ)) : ∃ v, (execOp ρ o).run P w = .ok (.value v) w ∧ V w lab loc z v := by
 have fin : ∀ {s : Sem Value}, (execOp ρ o = do pure (.value (← s))) → (∃ v, s.run P w = .ok v w ∧ V w lab loc z v) → ∃ v, (execOp ρ o).run P w = .ok (.value v) w ∧ V w lab loc z v := by
  intro s hs ⟨v, h1, h2⟩
  exact ⟨v, by rw [hs]; simp [h1], h2⟩
 unfold evalP at h
 split at h
 ·rename_i x ho
  split at h <;> first | (cases h; done) | cases h
  rw [ho] at hv
  obtain ⟨v, h1, h2⟩ := hv.one
  simp [Op.operands] at h1; subst h1
  exact ⟨ρ x, by simp [execOp, ho], h2⟩
 ·rename_i x ho
  split at h <;> first | (cases h; done) | cases h
  rw [ho] at hv
  obtain ⟨v, h1, h2⟩ := hv.one
  simp [Op.operands] at h1; subst h1
  exact ⟨ρ x, by simp [execOp, ho], h2⟩
 ·rename_i b t x y ty ho
  split at h <;> first | (cases h; done) | skip
  split at h <;> first | (cases h; done) | skip
  rename_i hlive
  rw [ho] at hv
  obtain ⟨v, u, h1, h2, h3⟩ := hv.two
  simp [Op.operands] at h1
  obtain ⟨rfl, rfl⟩ := h1
  refine fin (s := do eqGuard b t x y (ρ x) (ρ y); binOp b t (ρ x) (ρ y)) (by simp [execOp, ho]) ?_
  refine binA_sound hT h hok h2 h3 ?_ x y
  intro i hi
  unfold liveA at hlive
  rw [List.all_eq_true] at hlive
  obtain ⟨nd, hnd⟩ := Option.isSome_iff_exists.1 (hlive i hi)
  obtain ⟨b, base, hl, _⟩ := hn i nd hnd
  exact ⟨_, hl⟩
 ·rename_i u t x ho
  split at h <;> first | (cases h; done) | skip
  rw [ho] at hv
  obtain ⟨v, h1, h2⟩ := hv.one
  simp [Op.operands] at h1; subst h1
  exact fin (s := Op.unary u (ρ x)) (by simp [execOp, ho]) (unA_sound h h2)
 ·rename_i t x y ho
  split at h <;> first | (cases h; done) | skip
  rw [ho] at hv
  obtain ⟨v, u, h1, h2, h3⟩ := hv.two
  simp [Op.operands] at h1
  obtain ⟨rfl, rfl⟩ := h1
  exact fin (s := Instr.index t (ρ x) (ρ y)) (by simp [execOp, ho]) (indexA_sound hT h hok h2 h3)
 ·rename_i t x y ho
  split at h <;> first | (cases h; done) | skip
  rw [ho] at hv
  obtain ⟨v, u, h1, h2, h3⟩ := hv.two
  simp [Op.operands] at h1
  obtain ⟨rfl, rfl⟩ := h1
  exact fin (s := Instr.indexAt t (ρ x) (ρ y)) (by simp [execOp, ho]) (indexAddrA_sound hT hn h hok h2 h3)
 ·rename_i s x f ho
  split at h <;> first | (cases h; done) | skip
  rw [ho] at hv
  obtain ⟨v, h1, h2⟩ := hv.one
  simp [Op.operands] at h1; subst h1
  exact fin (s := Instr.fieldAt s (ρ x) f) (by simp [execOp, ho]) (fieldAddrA_sound hT hn h h2)
 ·rename_i s x f ho
  split at h <;> first | (cases h; done) | skip
  rw [ho] at hv
  obtain ⟨v, h1, h2⟩ := hv.one
  simp [Op.operands] at h1; subst h1
  exact fin (s := Instr.field s (ρ x) f) (by simp [execOp, ho]) (fieldA_sound hT h hok h2)
 ·rename_i t x ho
  split at h <;> first | (cases h; done) | skip
  rw [ho] at hv
  obtain ⟨v, h1, h2⟩ := hv.one
  simp [Op.operands] at h1; subst h1
  exact fin (s := Instr.loadAt t (ρ x)) (by simp [execOp, ho]) (loadA_sound hT hn h hok h2)
 ·rename_i x i ho
  split at h <;> first | (cases h; done) | skip
  rw [ho] at hv
  obtain ⟨v, h1, h2⟩ := hv.one
  simp [Op.operands] at h1; subst h1
  exact fin (s := Instr.extract (ρ x) i) (by simp [execOp, ho]) (extractA_sound h hok h2)
 ·rename_i s d x ho
  split at h <;> first | (cases h; done) | skip
  rw [ho] at hv
  obtain ⟨v, h1, h2⟩ := hv.one
  simp [Op.operands] at h1; subst h1
  exact fin (s := convert s d (ρ x)) (by simp [execOp, ho]) (convA_sound hT hn h hok h2)
 ·rename_i t parts ho
  split at h <;> first | (cases h; done) | skip
  rename_i hlen
  rw [ho] at hv
  have hops : (Op.operands (.build t parts)).toList.map ρ = parts.toList.map fun p => ρ p.2 := by simp [Op.operands]
  rw [hops] at hv
  refine fin (s := Instr.build t (parts.map fun (i, x) => (i, ρ x))) (by simp [execOp, ho]) ?_
  have := buildA_sound hT hn (vparts := parts.toList.map fun p => (p.1, ρ p.2)) h (by simp [hlen]) (by
   intro j p q hp hq
   simp only [List.getElem?_zip_eq_some, List.getElem?_map, Option.map_eq_some_iff] at hp hq
   obtain ⟨⟨a, ha, hp1⟩, hp2⟩ := hp
   obtain ⟨c, hc, rfl⟩ := hq
   rw [ha] at hc; cases hc
   exact ⟨hp1.symm, hv.2 j _ _ hp2 (by simp [ha])⟩)
  have e : (parts.toList.map fun p => (p.1, ρ p.2)).toArray = parts.map fun (i, x) => (i, ρ x) := by apply Array.ext'; simp
  rw [e] at this
  exact this
 ·rename_i f first caps ho
  split at h <;> first | (cases h; done) | cases h
  rename_i hlen
  obtain ⟨h0, h1⟩ := hlen
  rw [ho] at hv
  have hf : first = #[] := Array.eq_empty_of_size_eq_zero h0
  subst hf
  simp only [Op.operands, Array.empty_append] at hv
  refine ⟨.func (.func f) #[] ⟨caps.toList.map ρ⟩, ?_, .fn f vs _ (by simp [h1]) (fun j x y hx hy => hv.2 j x y hx hy)⟩
  simp only [execOp, ho, Instr.makeFunc]
  simp
  apply Array.ext'; simp
 ·rename_i x ho
  rw [ho] at hv
  split at h
  ·cases h
   obtain ⟨v, h1, h2⟩ := hv.one
   simp [Op.operands] at h1; subst h1
   obtain ⟨b, off, hx⟩ : ∃ b off, ρ x = .pointer (some ⟨b, off, none⟩) := by
    have := h2.inv_ip
    generalize ρ x = u at this
    cases this
    exact ⟨_, _, rfl⟩
   exact ⟨ρ x, by simp [execOp, ho, hx], h2⟩
  ·split at h <;> first | (cases h; done) | cases h
   rename_i nd hnd
   obtain ⟨v, h1, h2⟩ := hv.one
   simp [Op.operands] at h1; subst h1
   obtain ⟨b, base, hl, _⟩ := hn _ nd hnd
   have hx := h2.inv_ptr hl
   exact ⟨ρ x, by simp [execOp, ho, hx], h2⟩
  ·cases h
   obtain ⟨v, h1, h2⟩ := hv.one
   simp [Op.operands] at h1; subst h1
   obtain ⟨us, hx, _⟩ := h2.inv_fn
   exact ⟨ρ x, by simp [execOp, ho, hx], h2⟩
  ·cases h
 ·rename_i t x lo hi mx ho
  split at h <;> first | (cases h; done) | skip
  rename_i y r
  rw [ho] at hv
  have hops : (Op.operands (.slice t x lo hi mx)).toList.map ρ = ρ x :: ((lo.map ρ).toList ++ ((hi.map ρ).toList ++ ((mx.map ρ).toList ++ []))) := by
   cases lo <;> cases hi <;> cases mx <;> simp [Op.operands]
  rw [hops] at hv
  obtain ⟨h1, h2⟩ := hv.tail
  obtain ⟨h3, h4⟩ := takeOpt_V h2
  obtain ⟨h5, h6⟩ := takeOpt_V h4
  obtain ⟨h7, _⟩ := takeOpt_V h6
  exact fin (s := Instr.sliceAt t (ρ x) (lo.map ρ) (hi.map ρ) (mx.map ρ)) (by simp [execOp, ho]) (sliceA_sound hT hn h hok h1 h3 h5 h7)
 ·rename_i c ho
  rw [ho] at hv
  split at h
  ·rename_i hc
   split at h <;> first | (cases h; done) | skip
   rename_i x t hat
   obtain ⟨v, h1, h2⟩ := hv.one
   have hargs : c.args.map ρ = #[v] := by
    simp [Op.operands, Call.operands, hc] at h1; apply Array.ext'; simpa using h1
   have hat' : c.argTypes = #[t] := by apply Array.ext'; simpa using hat
   obtain ⟨u, h3, h4⟩ := lenA_sound hT hn (ty := o.type) h h2
   refine ⟨u, ?_, h4⟩
   simp [execOp, ho, resolve, hc, invoke, builtin, hargs, hat', h3]
  ·rename_i hc
   split at h <;> first | (cases h; done) | skip
   rename_i x t hat
   obtain ⟨v, h1, h2⟩ := hv.one
   have hargs : c.args.map ρ = #[v] := by
    simp [Op.operands, Call.operands, hc] at h1; apply Array.ext'; simpa using h1
   have hat' : c.argTypes = #[t] := by apply Array.ext'; simpa using hat
   obtain ⟨u, h3, h4⟩ := capA_sound hT (ty := o.type) h h2
   refine ⟨u, ?_, h4⟩
   simp [execOp, ho, resolve, hc, invoke, builtin, hargs, hat', h3]
  ·rename_i hc
   split at h <;> first | (cases h; done) | skip
   obtain ⟨v, v2, h1, h2, h2'⟩ := hv.two
   have hargs : c.args.map ρ = #[v, v2] := by
    simp [Op.operands, Call.operands, hc] at h1; apply Array.ext'; simpa using h1
   obtain ⟨u, h3, h4⟩ := minmaxA_sound (P := P) (ats := c.argTypes) (ty := o.type) h h2 h2'
   simp at h3
   refine ⟨u, ?_, h4⟩
   simp [execOp, ho, resolve, hc, invoke, builtin, hargs, h3]
  ·rename_i hc
   split at h <;> first | (cases h; done) | skip
   obtain ⟨v, v2, h1, h2, h2'⟩ := hv.two
   have hargs : c.args.map ρ = #[v, v2] := by
    simp [Op.operands, Call.operands, hc] at h1; apply Array.ext'; simpa using h1
   obtain ⟨u, h3, h4⟩ := minmaxA_sound (P := P) (ats := c.argTypes) (ty := o.type) h h2 h2'
   simp at h3
   refine ⟨u, ?_, h4⟩
   simp [execOp, ho, resolve, hc, invoke, builtin, hargs, h3]
  ·rename_i hc
   split at h <;> first | (cases h; done) | skip
   rename_i x y t tx hat
   obtain ⟨v, v2, h1, h2, h2'⟩ := hv.two
   have hargs : c.args.map ρ = #[v, v2] := by
    simp [Op.operands, Call.operands, hc] at h1; apply Array.ext'; simpa using h1
   have hat' : c.argTypes = #[t, tx] := by apply Array.ext'; simpa using hat
   obtain ⟨u, h3, h4⟩ := appNilA_sound hT (ty := o.type) h h2 h2'
   refine ⟨u, ?_, h4⟩
   simp [execOp, ho, resolve, hc, invoke, builtin, hargs, hat', h3]
  ·cases h
 ·cases h
end snd
end Go.AM
namespace Go.AM
def wrD (dst : Option Nat) (x : AV) : List (Nat × AV) :=
 match dst with
 | some d => [(d, x)]
 | none => []
theorem look_wrD_none {dst : Option Nat} {x : AV} {s : Nat} (h : look s (wrD dst x) = none) : dst ≠ some s := by
 intro e; subst e; simp [wrD, look] at h
theorem look_wrD_some {dst : Option Nat} {x y : AV} {s : Nat} (h : look s (wrD dst x) = some y) : dst = some s ∧ y = x := by
 cases dst with
 | none => simp [wrD, look] at h
 | some d =>
  simp only [wrD, look] at h
  split at h
  ·rename_i e; subst e; cases h; exact ⟨rfl, rfl⟩
  ·cases h
theorem put_size (a : Act) (dst : Option Nat) (v : Value) : (a.put dst v).tmps.size = a.tmps.size := by
 cases dst <;> simp [Act.put]
theorem put_defers (a : Act) (dst : Option Nat) (v : Value) : (a.put dst v).defers = a.defers := by
 cases dst <;> rfl
theorem put_other (a : Act) {dst : Option Nat} (v : Value) {s : Nat} (h : dst ≠ some s) : (a.put dst v).tmps.getD s undef = a.tmps.getD s undef := by
 cases dst with
 | none => rfl
 | some d =>
  have hd : d ≠ s := fun e => h (by rw [e])
  simp [Act.put, Array.getD_eq_getD_getElem?, Array.getElem?_setIfInBounds, hd]
theorem put_same (a : Act) {s : Nat} (v : Value) (h : s < a.tmps.size) : (a.put (some s) v).tmps.getD s undef = v := by
 simp [Act.put, Array.getD_eq_getD_getElem?, Array.getElem?_setIfInBounds, h]
section
variable {w0 : World} {lab0 : Labs} {st : St} {a : Act} {w w' : World} {lab : Labs} {loc : Locs}
theorem step_pure (h : RepL w0 lab0 st a w lab loc) (e : Eff) {dst : Option Nat} {x : AV} {v : Value} (hwr : e.wr = wrD dst x) (hup : e.up = [])
  (hd : ∀ d, dst = some d → d < st.n) (hv : V w lab loc x v) (hw : w'.heap = w.heap) (ho : w'.os = w.os) (hout : w'.output = w.output) :
  RepL w0 lab0 (e.apply st) (a.put dst v) w' lab loc := by
 refine h.step e (put_size _ _ _) (by rw [put_defers]; exact h.defers) ⟨by rw [hw]; exact Nat.le_refl _, ho, hout, fun b _ _ => ⟨rfl, by rw [hw]⟩, fun b n hn => hn.same (by rw [hw])⟩ ?_ ?_ ?_ ?_ ?_ ?_ ?_
 ·intro s hs
  rw [hwr] at hs
  exact put_other a v (look_wrD_none hs)
 ·intro s y hs
  rw [hwr] at hs
  obtain ⟨rfl, rfl⟩ := look_wrD_some hs
  rw [put_same a v (by rw [h.size]; exact hd s rfl)]
  exact hv.mono (fun b _ hb => ⟨hb, by rw [hw]⟩) (by rw [hw]; exact Nat.le_refl _) fun id _ b base hl => ⟨hl, fun n hn => hn.same (by rw [hw])⟩
 ·intro id nd b base _ _ hl
  exact ⟨hl, fun b' q _ _ => ⟨rfl, by rw [hw]⟩⟩
 ·intro id nd hl; rw [hup] at hl; cases hl
 ·intro id hl
  rw [hup] at hl
  rcases hl with hl | ⟨_, hl⟩
  ·cases hl
  ·exact h.dead id hl
 ·intro b hb; rw [hw]; exact h.fresh b hb
 ·intro id _ b base hl; exact hl
def labN (lab : Labs) (b id : Nat) : Labs := fun b' => if b' = b then some (.obj id, []) else lab b'
def locN (loc : Locs) (b base id : Nat) : Locs := fun i => if i = id then some (b, base) else loc i
theorem step_new (h : RepL w0 lab0 st a w lab loc) (e : Eff) {dst : Option Nat} {x : AV} {v : Value} {c : Array Value} {ty : TypeId} {fz : Nat × Nat} {id : Nat} {nd : Node}
  (hwr : e.wr = wrD dst x) (hup : e.up = [(id, some nd)]) (hd : ∀ d, dst = some d → d < st.n)
  (hw : w'.heap = w.heap.push (.cells c ty fz)) (ho : w'.os = w.os) (hout : w'.output = w.output) (hfz : ∀ o, o < c.size → ¬ (fz.1 ≤ o ∧ o < fz.2))
  (hni : id ∉ st.ids) (hnn : id ∉ nd.ids) (hid : st.obj id = none)
  (hes : ∀ cc ∈ nd.l, cc.length = nd.es) (hsz : nd.l.length * nd.es ≤ c.size)
  (hcells : ∀ (i : Nat) cc (j : Nat) y, nd.l[i]? = some cc → cc[j]? = some y → ∃ u, c[i * nd.es + j]? = some u ∧ V w lab loc y u)
  (hv : Blk w' w.heap.size c.size → V w' (labN lab w.heap.size id) (locN loc w.heap.size 0 id) x v) :
  RepL w0 lab0 (e.apply st) (a.put dst v) w' (labN lab w.heap.size id) (locN loc w.heap.size 0 id) := by
 have hold : ∀ b, b < w.heap.size → w'.heap[b]? = w.heap[b]? := by
  intro b hb; rw [hw, Array.getElem?_push, if_neg (by omega)]
 have hnew : w'.heap[w.heap.size]? = some (.cells c ty fz) := by rw [hw]; simp
 have hblk : Blk w' w.heap.size c.size := ⟨c, ty, fz, hnew, Nat.le_refl _, hfz⟩
 have hz : w.heap.size ≤ w'.heap.size := by rw [hw]; simp
 have hlab : ∀ b, b < w.heap.size → labN lab w.heap.size id b = lab b := by intro b hb; simp [labN]; omega
 have hext : Ext lab w (labN lab w.heap.size id) w' := ⟨hz, ho, hout, fun b hb _ => ⟨hlab b hb, hold b hb⟩, fun b n hn => hn.same (hold b hn.lt)⟩
 have hlocid : loc id = none := h.dead id hid
 have hlx : ∀ i b base, i ≠ id → locN loc w.heap.size 0 id i = some (b, base) → loc i = some (b, base) := by
  intro i b base hi hl; simp only [locN, if_neg hi] at hl; exact hl
 refine h.step e (put_size _ _ _) (by rw [put_defers]; exact h.defers) hext ?_ ?_ ?_ ?_ ?_ ?_ ?_
 ·intro s hs
  rw [hwr] at hs
  exact put_other a v (look_wrD_none hs)
 ·intro s y hs
  rw [hwr] at hs
  obtain ⟨rfl, rfl⟩ := look_wrD_some hs
  rw [put_same a v (by rw [h.size]; exact hd s rfl)]
  exact hv hblk
 ·intro i nd' b base hi hl hb
  rw [hup] at hl
  have hne : i ≠ id := by intro e; subst e; simp [look] at hl
  refine ⟨by simp only [locN, if_neg hne]; exact hb, fun b' q hb' _ => ⟨hlab b' hb', hold b' hb'⟩⟩
 ·intro i nd' hl
  rw [hup] at hl
  simp only [look] at hl
  split at hl <;> first | (cases hl; done) | skip
  rename_i hi
  subst hi
  cases hl
  refine ⟨w.heap.size, 0, by simp [locN], ?_, hblk.le (by omega), hes, ?_⟩
  ·simp [labN]
  ·intro k cc j y hk hj
   obtain ⟨u, hu, huv⟩ := hcells k cc j y hk hj
   refine ⟨u, ?_, Or.inl ?_⟩
   ·simp only [World.cell?, hnew, Nat.zero_add]
    simpa using hu
   ·refine huv.mono (fun b hb hl => ⟨by rw [hlab b hb]; exact hl, hold b hb⟩) hz fun i' hi' b base hl => ?_
    have hne : i' ≠ i := by rintro rfl; exact hnn (ids_of_cell hk hj hi')
    exact ⟨hlx i' b base hne hl, fun n hn => hn.same (hold b hn.lt)⟩
 ·intro i hi
  rw [hup] at hi
  simp only [look] at hi
  by_cases hne : i = id
  ·subst hne
   rcases hi with hi | ⟨hi, _⟩ <;> simp at hi
  ·simp only [locN, if_neg hne]
   rcases hi with hi | ⟨_, hi⟩
   ·simp [hne] at hi
   ·exact h.dead i hi
 ·intro b hb
  simp only [labN] at hb
  rw [hw]; simp
  split at hb
  ·omega
  ·have := h.fresh b hb; omega
 ·intro i hi b base hl
  exact hlx i b base (fun e => hni (e ▸ hi)) hl
end
end Go.AM
