/- The abstract machine, part 13: what comes back from a call. -/
import Derived.Test.YtefkpiameojpoaaAm12
set_option linter.unusedVariables false
set_option linter.unusedSimpArgs false
namespace Go.AM

mutual
/-- no memory but its own -/
def AV.ownd : AV → Bool
  | .isl _ l => l.isEmpty
  | .ip _ => false
  | .osl _ l => owndLL l
  | .op l => owndL l
  | .fn _ cs => owndL cs
  | .agg cs => owndL cs
  | .tup cs => owndL cs
  | _ => true
def owndL : List AV → Bool
  | [] => true
  | x :: xs => x.ownd && owndL xs
def owndLL : List (List AV) → Bool
  | [] => true
  | c :: cs => owndL c && owndLL cs
end

theorem owndL_eq (l : List AV) : owndL l = l.all AV.ownd := by induction l with | nil => rfl | cons x l ih => simp [owndL, ih]
theorem owndLL_eq (l : List (List AV)) : owndLL l = l.all (·.all AV.ownd) := by induction l with | nil => rfl | cons x l ih => simp [owndLL, owndL_eq, ih]

theorem I.ownd {w : World} {lab lab' : Labs} {x : AV} {v : Value} (h : I w lab x v) (ho : x.ownd = true) : I w lab' x v := by
  induction h with
  | bool b => exact .bool b
  | int k n => exact .int k n
  | str s => exact .str s
  | nilp => exact .nilp
  | nils => exact .nils
  | zsl a => exact .zsl a
  | nel a cap => exact .nel a cap
  | any v => exact .any v
  | nsl es => exact .nsl es
  | esl es a cap => exact .esl es a cap
  | isl es l b off cap vals hb hs hc hes hp hv _ ih =>
    have : l = [] := by simpa [AV.ownd] using ho
    subst this
    exact .esl _ _ _
  | ip => simp [AV.ownd] at ho
  | fn f cs vs hl _ ih =>
    simp only [AV.ownd, owndL_eq, List.all_eq_true] at ho
    exact .fn f cs vs hl fun j x y hx hy => ih j x y hx hy (ho x (List.mem_of_getElem? hx))
  | agg cs vs hl _ ih =>
    simp only [AV.ownd, owndL_eq, List.all_eq_true] at ho
    exact .agg cs vs hl fun j x y hx hy => ih j x y hx hy (ho x (List.mem_of_getElem? hx))
  | tup cs vs hl _ ih =>
    simp only [AV.ownd, owndL_eq, List.all_eq_true] at ho
    exact .tup cs vs hl fun j x y hx hy => ih j x y hx hy (ho x (List.mem_of_getElem? hx))

/-- a tree under other labels, in one world -/
theorem T.relab {w : World} {lab lab' : Labs} {p p' : Lab} {x : AV} {v : Value} (h : T w lab p x v)
    (hk : x.ownd = true ∨ ∀ b, b < w.heap.size → lab b = none → lab' b = none)
    (hm : ∀ b q, b < w.heap.size → lab b = some (p.app q) → lab' b = some (p'.app q)) : T w lab' p' x v := by
  induction h generalizing p' with
  | imm p x v h =>
    rcases hk with hk | hk
    · exact .imm _ _ _ (h.ownd hk)
    · exact .imm _ _ _ (h.mono (fun b hb hl => ⟨hk b hb hl, rfl⟩) (Nat.le_refl _))
  | osl p es l b off cap vals hb hk1 hc hes hp hv _ ih =>
    refine .osl p' es l b off cap vals (by have := hm b [] hk1.lt (by rw [Lab.app_nil]; exact hb); rw [this, Lab.app_nil]) hk1 hc hes hp hv ?_
    intro i c j x hi hj
    refine ih i c j x hi hj (hk.imp (fun ho => ?_) id) (p' := p'.down i j) ?_
    · simp only [AV.ownd, owndLL_eq, List.all_eq_true] at ho
      exact ho c (List.mem_of_getElem? hi) x (List.mem_of_getElem? hj)
    · intro b q hb hq
      rw [Lab.down_app] at hq
      rw [Lab.down_app]
      exact hm b _ hb hq
  | op p l b off vals hb hk1 hp hv _ ih =>
    refine .op p' l b off vals (by have := hm b [] hk1.lt (by rw [Lab.app_nil]; exact hb); rw [this, Lab.app_nil]) hk1 hp hv ?_
    intro j x hj
    refine ih j x hj (hk.imp (fun ho => ?_) id) (p' := p'.down 0 j) ?_
    · simp only [AV.ownd, owndL_eq, List.all_eq_true] at ho
      exact ho x (List.mem_of_getElem? hj)
    · intro b q hb hq
      rw [Lab.down_app] at hq
      rw [Lab.down_app]
      exact hm b _ hb hq
  | agg p cs vs hl _ ih =>
    refine .agg p' cs vs hl ?_
    intro j x y hx hy
    refine ih j x y hx hy (hk.imp (fun ho => ?_) id) (p' := p'.down 0 j) ?_
    · simp only [AV.ownd, owndL_eq, List.all_eq_true] at ho
      exact ho x (List.mem_of_getElem? hx)
    · intro b q hb hq
      rw [Lab.down_app] at hq
      rw [Lab.down_app]
      exact hm b _ hb hq
  | tup p cs vs hl _ ih =>
    refine .tup p' cs vs hl ?_
    intro j x y hx hy
    refine ih j x y hx hy (hk.imp (fun ho => ?_) id) (p' := p'.down 1 j) ?_
    · simp only [AV.ownd, owndL_eq, List.all_eq_true] at ho
      exact ho x (List.mem_of_getElem? hx)
    · intro b q hb hq
      rw [Lab.down_app] at hq
      rw [Lab.down_app]
      exact hm b _ hb hq

/-- where an object is to be found in a tree: its place, its id, itself -/
structure Ent where
  lab : Lab
  id : Nat
  nd : Node
  own : Bool      -- its cells' imm parts need nothing

structure NodeAt (w : World) (lab : Labs) (p : Lab) (nd : Node) (b base : Nat) : Prop where
  hlab : lab b = some p
  blk : Blk w b (base + nd.l.length * nd.es)
  es : ∀ c ∈ nd.l, c.length = nd.es
  cells : ∀ (i : Nat) c (j : Nat) x, nd.l[i]? = some c → c[j]? = some x → ∃ v, w.cell? ⟨b, base + i * nd.es + j, none⟩ = some v ∧ T w lab (p.down i j) x v

theorem NodeAt.osl {w : World} {lab : Labs} {p : Lab} {es : Nat} {l : List (List AV)} {v : Value} (h : T w lab p (.osl es l) v) :
    ∃ b base cap, v = .slice (some ⟨b, base, none⟩) l.length cap ∧ l.length ≤ cap ∧ Blk w b (base + cap * es) ∧ NodeAt w lab p ⟨es, l⟩ b base := by
  cases h with
  | imm _ _ _ h => cases h
  | osl _ _ _ b off cap vals hb hk hc hes hp hv hr =>
    refine ⟨b, off, cap, rfl, hc, hk, hb, hk.le ?_, hes, ?_⟩
    · have := Nat.mul_le_mul_right es hc; simp only; omega
    · intro i c j x hi hj
      have hi' := (List.getElem?_eq_some_iff.1 hi).1
      have hj' := (List.getElem?_eq_some_iff.1 hj).1
      have hcl := hes c (List.mem_of_getElem? hi)
      exact ⟨vals i j, hv i j hi' (by omega), hr i c j x hi hj⟩

theorem NodeAt.op {w : World} {lab : Labs} {p : Lab} {l : List AV} {v : Value} (h : T w lab p (.op l) v) :
    ∃ b base, v = .pointer (some ⟨b, base, none⟩) ∧ NodeAt w lab p ⟨l.length, [l]⟩ b base := by
  cases h with
  | imm _ _ _ h => cases h
  | op _ _ b off vals hb hk hp hv hr =>
    refine ⟨b, off, rfl, hb, hk.le (by simp), by intro c hc; simp at hc; rw [hc], ?_⟩
    intro i c j x hi hj
    cases i with
    | succ i => simp at hi
    | zero =>
      simp at hi; subst hi
      have hj' := (List.getElem?_eq_some_iff.1 hj).1
      exact ⟨vals j, by simpa using hv j hj', hr j x hj⟩

/-- a part of a result becomes an object of the caller's -/
def thw0 (d c : Nat) (p : Lab) : AV → Option (AV × List (Lab × Nat × Node) × Nat)
  | .osl es l => some (.sl (1000 * c + d) es 0 l.length, [(p, 1000 * c + d, ⟨es, l⟩)], c + 1)
  | .op l => some (.ptr (1000 * c + d) l.length 0 0, [(p, 1000 * c + d, ⟨l.length, [l]⟩)], c + 1)
  | .bool b => some (.bool b, [], c)
  | .int k n => some (.int k n, [], c)
  | .str s => some (.str s, [], c)
  | .nilp => some (.nilp, [], c)
  | .nils => some (.nils, [], c)
  | .zsl => some (.zsl, [], c)
  | .nel => some (.nel, [], c)
  | .any => some (.any, [], c)
  | .isl es l => some (.isl es l, [], c)
  | .ip l => some (.ip l, [], c)
  | _ => none

def thwL (d : Nat) (p : Lab) (tag : Nat) : Nat → Nat → List AV → Option (List AV × List (Lab × Nat × Node) × Nat)
  | _, c, [] => some ([], [], c)
  | j, c, x :: xs => match thw0 d c (p.down tag j) x with
    | some (y, po, c1) => match thwL d p tag (j + 1) c1 xs with
      | some (ys, po2, c2) => some (y :: ys, po ++ po2, c2)
      | none => none
    | none => none

def thw1 (d c : Nat) (p : Lab) : AV → Option (AV × List (Lab × Nat × Node) × Nat)
  | .agg cs => match thwL d p 0 0 c cs with
    | some (ys, po, c1) => some (.agg ys, po, c1)
    | none => none
  | x => thw0 d c p x

def thwT (d : Nat) (p : Lab) : Nat → Nat → List AV → Option (List AV × List (Lab × Nat × Node) × Nat)
  | _, c, [] => some ([], [], c)
  | j, c, x :: xs => match thw1 d c (p.down 1 j) x with
    | some (y, po, c1) => match thwT d p (j + 1) c1 xs with
      | some (ys, po2, c2) => some (y :: ys, po ++ po2, c2)
      | none => none
    | none => none

def thw (d : Nat) (p : Lab) : AV → Option (AV × List (Lab × Nat × Node) × Nat)
  | .tup vs => match thwT d p 0 1 vs with
    | some (ys, po, c1) => some (.tup ys, po, c1)
    | none => none
  | x => thw1 d 1 p x

/-- the entries' places -/
def Places (w : World) (lab : Labs) (po : List (Lab × Nat × Node)) (L : List (Nat × (Nat × Nat))) : Prop :=
  L.length = po.length ∧ ∀ (k : Nat) e l, po[k]? = some e → L[k]? = some l → l.1 = e.2.1 ∧ NodeAt w lab e.1 e.2.2 l.2.1 l.2.2

theorem Places.nil {w : World} {lab : Labs} : Places w lab [] [] := ⟨rfl, by intro k e l h; simp at h⟩
theorem Places.append {w : World} {lab : Labs} {po po2 : List (Lab × Nat × Node)} {L L2 : List (Nat × (Nat × Nat))} (h : Places w lab po L) (h2 : Places w lab po2 L2) : Places w lab (po ++ po2) (L ++ L2) := by
  refine ⟨by simp [h.1, h2.1], ?_⟩
  intro k e l he hl
  rw [List.getElem?_append] at he hl
  rw [h.1] at hl
  split at he
  · rename_i hk; rw [if_pos hk] at hl; exact h.2 k e l he hl
  · rename_i hk; rw [if_neg hk] at hl; exact h2.2 _ e l he hl

/-- what the caller sees of a part: given where the objects are -/
def Shows (w : World) (lab : Labs) (own : Prop) (L : List (Nat × (Nat × Nat))) (y : AV) (v : Value) : Prop :=
  ∀ lab' loc', (own ∨ ∀ b, b < w.heap.size → lab b = none → lab' b = none) → (∀ l ∈ L, loc' l.1 = some l.2) → V w lab' loc' y v

theorem thw0_sound {w : World} {lab : Labs} {d c : Nat} {p : Lab} {x y : AV} {po : List (Lab × Nat × Node)} {c' : Nat} {v : Value} (h : thw0 d c p x = some (y, po, c')) (hx : T w lab p x v) :
    ∃ L, Places w lab po L ∧ Shows w lab (x.ownd = true) L y v := by
  have hsc : ∀ z, I w lab z v → Shows w lab (z.ownd = true) [] z v := by
    intro z hz lab' loc' hk _
    rcases hk with hk | hk
    · exact .imm _ _ (hz.ownd hk)
    · exact .imm _ _ (hz.mono (fun b hb hl => ⟨hk b hb hl, rfl⟩) (Nat.le_refl _))
  unfold thw0 at h
  split at h
  · rename_i es l
    cases h
    obtain ⟨b, base, cap, rfl, h1, h2, h3⟩ := NodeAt.osl hx
    refine ⟨[(1000 * c + d, (b, base))], ⟨rfl, ?_⟩, ?_⟩
    · intro k e l he hl
      cases k with
      | zero => simp at he hl; subst he; subst hl; exact ⟨rfl, h3⟩
      | succ k => simp at he
    · intro lab' loc' _ hL
      have := hL (1000 * c + d, (b, base)) (by simp)
      simp only at this
      refine .sl _ _ _ _ _ fun b' base' hl => ?_
      rw [this] at hl; cases hl
      exact ⟨_, cap, rfl, h1, Or.inr (by simp), by simpa using h2⟩
  · rename_i l
    cases h
    obtain ⟨b, base, rfl, h3⟩ := NodeAt.op hx
    refine ⟨[(1000 * c + d, (b, base))], ⟨rfl, ?_⟩, ?_⟩
    · intro k e l he hl
      cases k with
      | zero => simp at he hl; subst he; subst hl; exact ⟨rfl, h3⟩
      | succ k => simp at he
    · intro lab' loc' _ hL
      have := hL (1000 * c + d, (b, base)) (by simp)
      simp only at this
      refine .ptr _ _ _ _ _ fun b' base' hl => ?_
      rw [this] at hl; cases hl
      simp
  all_goals first
    | (cases h; done)
    | (cases h
       cases hx with
       | imm _ _ _ hi => exact ⟨[], Places.nil, hsc _ hi⟩)

theorem thwL_sound {w : World} {lab : Labs} {d : Nat} {p : Lab} {tag : Nat} : ∀ (xs : List AV) (vs : List Value) (j c : Nat) (ys : List AV) (po : List (Lab × Nat × Node)) (c' : Nat), thwL d p tag j c xs = some (ys, po, c') →
    xs.length = vs.length → (∀ (i : Nat) x v, xs[i]? = some x → vs[i]? = some v → T w lab (p.down tag (j + i)) x v) →
    ∃ L, Places w lab po L ∧ ys.length = vs.length ∧ ∀ (i : Nat) y v, ys[i]? = some y → vs[i]? = some v → Shows w lab (owndL xs = true) L y v := by
  intro xs
  induction xs with
  | nil =>
    intro vs j c ys po c' h hl _
    simp [thwL] at h
    obtain ⟨rfl, rfl, _⟩ := h
    exact ⟨[], Places.nil, hl, by intro i y v hi; simp at hi⟩
  | cons x xs ih =>
    intro vs j c ys po c' h hl hv
    simp only [thwL] at h
    split at h <;> first | (cases h; done) | skip
    rename_i y po1 c1 h1
    split at h <;> first | (cases h; done) | cases h
    rename_i ys' po2 h2
    cases vs with
    | nil => simp at hl
    | cons v vs =>
      obtain ⟨L1, hP1, hS1⟩ := thw0_sound h1 (hv 0 x v rfl rfl)
      obtain ⟨L2, hP2, hl2, hS2⟩ := ih vs (j + 1) c1 ys' po2 c' h2 (by simpa using hl) (fun i z u hz hu => by
        have := hv (i + 1) z u (by simpa using hz) (by simpa using hu)
        rw [show j + (i + 1) = j + 1 + i by omega] at this; exact this)
      refine ⟨L1 ++ L2, hP1.append hP2, by simp [hl2], ?_⟩
      intro i y' v' hy hv' lab' loc' hk hL
      cases i with
      | zero =>
        simp at hy hv'; subst hy; subst hv'
        exact hS1 lab' loc' (hk.imp (fun ho => by simp [owndL] at ho; exact ho.1) id) (fun l hl => hL l (List.mem_append_left _ hl))
      | succ i =>
        exact hS2 i y' v' (by simpa using hy) (by simpa using hv') lab' loc' (hk.imp (fun ho => by simp [owndL] at ho; exact ho.2) id) (fun l hl => hL l (List.mem_append_right _ hl))

theorem thw1_sound {w : World} {lab : Labs} {d c : Nat} {p : Lab} {x y : AV} {po : List (Lab × Nat × Node)} {c' : Nat} {v : Value} (h : thw1 d c p x = some (y, po, c')) (hx : T w lab p x v) :
    ∃ L, Places w lab po L ∧ Shows w lab (x.ownd = true) L y v := by
  unfold thw1 at h
  split at h
  · rename_i cs
    split at h <;> first | (cases h; done) | cases h
    rename_i ys h1
    have hx' : ∃ vs : List Value, v = .agg ⟨vs⟩ ∧ cs.length = vs.length ∧ ∀ (j : Nat) x y, cs[j]? = some x → vs[j]? = some y → T w lab (p.down 0 j) x y := by
      cases hx with
      | imm _ _ _ hi => cases hi with | agg _ vs hl hr => exact ⟨vs, rfl, hl, fun j x y hx hy => .imm _ _ _ (hr j x y hx hy)⟩
      | agg _ _ vs hl hr => exact ⟨vs, rfl, hl, hr⟩
    obtain ⟨vs, rfl, hl, hr⟩ := hx'
    obtain ⟨L, hP, hl2, hS⟩ := thwL_sound cs vs 0 c ys po _ h1 hl (fun i x v hx hv => by simpa using hr i x v hx hv)
    refine ⟨L, hP, fun lab' loc' hk hL => .agg _ _ hl2 fun j z u hz hu => hS j z u hz hu lab' loc' (hk.imp (fun ho => by simpa [AV.ownd] using ho) id) hL⟩
  · exact thw0_sound h hx

theorem thwT_sound {w : World} {lab : Labs} {d : Nat} {p : Lab} : ∀ (xs : List AV) (vs : List Value) (j c : Nat) (ys : List AV) (po : List (Lab × Nat × Node)) (c' : Nat), thwT d p j c xs = some (ys, po, c') →
    xs.length = vs.length → (∀ (i : Nat) x v, xs[i]? = some x → vs[i]? = some v → T w lab (p.down 1 (j + i)) x v) →
    ∃ L, Places w lab po L ∧ ys.length = vs.length ∧ ∀ (i : Nat) y v, ys[i]? = some y → vs[i]? = some v → Shows w lab (owndL xs = true) L y v := by
  intro xs
  induction xs with
  | nil =>
    intro vs j c ys po c' h hl _
    simp [thwT] at h
    obtain ⟨rfl, rfl, _⟩ := h
    exact ⟨[], Places.nil, hl, by intro i y v hi; simp at hi⟩
  | cons x xs ih =>
    intro vs j c ys po c' h hl hv
    simp only [thwT] at h
    split at h <;> first | (cases h; done) | skip
    rename_i y po1 c1 h1
    split at h <;> first | (cases h; done) | cases h
    rename_i ys' po2 h2
    cases vs with
    | nil => simp at hl
    | cons v vs =>
      obtain ⟨L1, hP1, hS1⟩ := thw1_sound h1 (hv 0 x v rfl rfl)
      obtain ⟨L2, hP2, hl2, hS2⟩ := ih vs (j + 1) c1 ys' po2 c' h2 (by simpa using hl) (fun i z u hz hu => by
        have := hv (i + 1) z u (by simpa using hz) (by simpa using hu)
        rw [show j + (i + 1) = j + 1 + i by omega] at this; exact this)
      refine ⟨L1 ++ L2, hP1.append hP2, by simp [hl2], ?_⟩
      intro i y' v' hy hv' lab' loc' hk hL
      cases i with
      | zero =>
        simp at hy hv'; subst hy; subst hv'
        exact hS1 lab' loc' (hk.imp (fun ho => by simp [owndL] at ho; exact ho.1) id) (fun l hl => hL l (List.mem_append_left _ hl))
      | succ i =>
        exact hS2 i y' v' (by simpa using hy) (by simpa using hv') lab' loc' (hk.imp (fun ho => by simp [owndL] at ho; exact ho.2) id) (fun l hl => hL l (List.mem_append_right _ hl))

theorem thw_sound {w : World} {lab : Labs} {d : Nat} {p : Lab} {x y : AV} {po : List (Lab × Nat × Node)} {c' : Nat} {v : Value} (h : thw d p x = some (y, po, c')) (hx : T w lab p x v) :
    ∃ L, Places w lab po L ∧ Shows w lab (x.ownd = true) L y v := by
  unfold thw at h
  split at h
  · rename_i cs
    split at h <;> first | (cases h; done) | cases h
    rename_i ys h1
    have hx' : ∃ vs : List Value, v = .tuple ⟨vs⟩ ∧ cs.length = vs.length ∧ ∀ (j : Nat) x y, cs[j]? = some x → vs[j]? = some y → T w lab (p.down 1 j) x y := by
      cases hx with
      | imm _ _ _ hi => cases hi with | tup _ vs hl hr => exact ⟨vs, rfl, hl, fun j x y hx hy => .imm _ _ _ (hr j x y hx hy)⟩
      | tup _ _ vs hl hr => exact ⟨vs, rfl, hl, hr⟩
    obtain ⟨vs, rfl, hl, hr⟩ := hx'
    obtain ⟨L, hP, hl2, hS⟩ := thwT_sound cs vs 0 1 ys po _ h1 hl (fun i x v hx hv => by simpa using hr i x v hx hv)
    refine ⟨L, hP, fun lab' loc' hk hL => .tup _ _ hl2 fun j z u hz hu => hS j z u hz hu lab' loc' (hk.imp (fun ho => by simpa [AV.ownd] using ho) id) hL⟩
  · exact thw1_sound h hx

end Go.AM
