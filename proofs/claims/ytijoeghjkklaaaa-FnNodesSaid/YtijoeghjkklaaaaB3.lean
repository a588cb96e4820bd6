/- Joined texts: Am13 Am14 Am15 Am16 Am17. -/
import Derived.Test.YtijoeghjkklaaaaB1
import Derived.Test.YtijoeghjkklaaaaB2
set_option linter.unusedVariables false
set_option linter.unusedSimpArgs false
namespace Go.AM
mutual
def AV.ownd : AV → Bool
  | .isl _ l => l.isEmpty
  | .ip _ => false
  | .osl _ l => owndLL l
  | .op l => owndL l
  | .fn _ cs => owndL cs
  | .agg cs => owndL cs
  | .tup cs => owndL cs
  | _ => true
def owndL : List AV → Bool
  | [] => true
  | x :: xs => x.ownd && owndL xs
def owndLL : List (List AV) → Bool
  | [] => true
  | c :: cs => owndL c && owndLL cs
end
theorem owndL_eq (l : List AV) : owndL l = l.all AV.ownd := by induction l with | nil => rfl | cons x l ih => simp [owndL, ih]
theorem owndLL_eq (l : List (List AV)) : owndLL l = l.all (·.all AV.ownd) := by induction l with | nil => rfl | cons x l ih => simp [owndLL, owndL_eq, ih]
theorem I.ownd {w : World} {lab lab' : Labs} {x : AV} {v : Value} (h : I w lab x v) (ho : x.ownd = true) : I w lab' x v := by
  induction h with
  | bool b => exact .bool b
  | int k n => exact .int k n
  | str s => exact .str s
  | nilp => exact .nilp
  | nils => exact .nils
  | zsl a => exact .zsl a
  | nel a cap => exact .nel a cap
  | lns n a cap => exact .lns n a cap
  | any v => exact .any v
  | val a n cap => exact .val a n cap
  | nsl es => exact .nsl es
  | esl es a cap => exact .esl es a cap
  | isl es l b off cap vals hb hs hc hes hp hv _ ih =>
    have : l = [] := by simpa [AV.ownd] using ho
    subst this
    exact .esl _ _ _
  | ip => simp [AV.ownd] at ho
  | fn f cs vs hl _ ih =>
    simp only [AV.ownd, owndL_eq, List.all_eq_true] at ho
    exact .fn f cs vs hl fun j x y hx hy => ih j x y hx hy (ho x (List.mem_of_getElem? hx))
  | agg cs vs hl _ ih =>
    simp only [AV.ownd, owndL_eq, List.all_eq_true] at ho
    exact .agg cs vs hl fun j x y hx hy => ih j x y hx hy (ho x (List.mem_of_getElem? hx))
  | tup cs vs hl _ ih =>
    simp only [AV.ownd, owndL_eq, List.all_eq_true] at ho
    exact .tup cs vs hl fun j x y hx hy => ih j x y hx hy (ho x (List.mem_of_getElem? hx))
theorem T.relab {w : World} {lab lab' : Labs} {p p' : Lab} {x : AV} {v : Value} (h : T w lab p x v)
    (hk : x.ownd = true ∨ ∀ b, b < w.heap.size → lab b = none → lab' b = none)
    (hm : ∀ b q, b < w.heap.size → lab b = some (p.app q) → lab' b = some (p'.app q)) : T w lab' p' x v := by
  induction h generalizing p' with
  | imm p x v h =>
    rcases hk with hk | hk
    · exact .imm _ _ _ (h.ownd hk)
    · exact .imm _ _ _ (h.mono (fun b hb hl => ⟨hk b hb hl, rfl⟩) (Nat.le_refl _))
  | osl p es l b off cap vals hb hk1 hc hes hp hv _ ih =>
    refine .osl p' es l b off cap vals (by have := hm b [] hk1.lt (by rw [Lab.app_nil]; exact hb); rw [this, Lab.app_nil]) hk1 hc hes hp hv ?_
    intro i c j x hi hj
    refine ih i c j x hi hj (hk.imp (fun ho => ?_) id) (p' := p'.down i j) ?_
    · simp only [AV.ownd, owndLL_eq, List.all_eq_true] at ho
      exact ho c (List.mem_of_getElem? hi) x (List.mem_of_getElem? hj)
    · intro b q hb hq
      rw [Lab.down_app] at hq
      rw [Lab.down_app]
      exact hm b _ hb hq
  | op p l b off vals hb hk1 hp hv _ ih =>
    refine .op p' l b off vals (by have := hm b [] hk1.lt (by rw [Lab.app_nil]; exact hb); rw [this, Lab.app_nil]) hk1 hp hv ?_
    intro j x hj
    refine ih j x hj (hk.imp (fun ho => ?_) id) (p' := p'.down 0 j) ?_
    · simp only [AV.ownd, owndL_eq, List.all_eq_true] at ho
      exact ho x (List.mem_of_getElem? hj)
    · intro b q hb hq
      rw [Lab.down_app] at hq
      rw [Lab.down_app]
      exact hm b _ hb hq
  | agg p cs vs hl _ ih =>
    refine .agg p' cs vs hl ?_
    intro j x y hx hy
    refine ih j x y hx hy (hk.imp (fun ho => ?_) id) (p' := p'.down 0 j) ?_
    · simp only [AV.ownd, owndL_eq, List.all_eq_true] at ho
      exact ho x (List.mem_of_getElem? hx)
    · intro b q hb hq
      rw [Lab.down_app] at hq
      rw [Lab.down_app]
      exact hm b _ hb hq
  | tup p cs vs hl _ ih =>
    refine .tup p' cs vs hl ?_
    intro j x y hx hy
    refine ih j x y hx hy (hk.imp (fun ho => ?_) id) (p' := p'.down 1 j) ?_
    · simp only [AV.ownd, owndL_eq, List.all_eq_true] at ho
      exact ho x (List.mem_of_getElem? hx)
    · intro b q hb hq
      rw [Lab.down_app] at hq
      rw [Lab.down_app]
      exact hm b _ hb hq
structure Ent where
  lab : Lab
  id : Nat
  nd : Node
  own : Bool      -- its cells' imm parts need nothing
structure NodeAt (w : World) (lab : Labs) (p : Lab) (nd : Node) (b base : Nat) : Prop where
  hlab : lab b = some p
  blk : Blk w b (base + nd.l.length * nd.es)
  es : ∀ c ∈ nd.l, c.length = nd.es
  cells : ∀ (i : Nat) c (j : Nat) x, nd.l[i]? = some c → c[j]? = some x → ∃ v, w.cell? ⟨b, base + i * nd.es + j, none⟩ = some v ∧ T w lab (p.down i j) x v
theorem NodeAt.osl {w : World} {lab : Labs} {p : Lab} {es : Nat} {l : List (List AV)} {v : Value} (h : T w lab p (.osl es l) v) :
    ∃ b base cap, v = .slice (some ⟨b, base, none⟩) l.length cap ∧ l.length ≤ cap ∧ Blk w b (base + cap * es) ∧ NodeAt w lab p ⟨es, l⟩ b base := by
  cases h with
  | imm _ _ _ h => cases h
  | osl _ _ _ b off cap vals hb hk hc hes hp hv hr =>
    refine ⟨b, off, cap, rfl, hc, hk, hb, hk.le ?_, hes, ?_⟩
    · have := Nat.mul_le_mul_right es hc; simp only; omega
    · intro i c j x hi hj
      have hi' := (List.getElem?_eq_some_iff.1 hi).1
      have hj' := (List.getElem?_eq_some_iff.1 hj).1
      have hcl := hes c (List.mem_of_getElem? hi)
      exact ⟨vals i j, hv i j hi' (by omega), hr i c j x hi hj⟩
theorem NodeAt.op {w : World} {lab : Labs} {p : Lab} {l : List AV} {v : Value} (h : T w lab p (.op l) v) :
    ∃ b base, v = .pointer (some ⟨b, base, none⟩) ∧ NodeAt w lab p ⟨l.length, [l]⟩ b base := by
  cases h with
  | imm _ _ _ h => cases h
  | op _ _ b off vals hb hk hp hv hr =>
    refine ⟨b, off, rfl, hb, hk.le (by simp), by intro c hc; simp at hc; rw [hc], ?_⟩
    intro i c j x hi hj
    cases i with
    | succ i => simp at hi
    | zero =>
      simp at hi; subst hi
      have hj' := (List.getElem?_eq_some_iff.1 hj).1
      exact ⟨vals j, by simpa using hv j hj', hr j x hj⟩
def thw0 (d c : Nat) (p : Lab) : AV → Option (AV × List (Lab × Nat × Node) × Nat)
  | .osl es l => some (.sl (1000 * c + d) es 0 l.length, [(p, 1000 * c + d, ⟨es, l⟩)], c + 1)
  | .op l => some (.ptr (1000 * c + d) l.length 0 0, [(p, 1000 * c + d, ⟨l.length, [l]⟩)], c + 1)
  | .bool b => some (.bool b, [], c)
  | .int k n => some (.int k n, [], c)
  | .str s => some (.str s, [], c)
  | .nilp => some (.nilp, [], c)
  | .nils => some (.nils, [], c)
  | .zsl => some (.zsl, [], c)
  | .nel => some (.nel, [], c)
  | .lns n => some (.lns n, [], c)
  | .val v => some (.val v, [], c)
  | .any => some (.any, [], c)
  | .isl es l => some (.isl es l, [], c)
  | .ip l => some (.ip l, [], c)
  | _ => none
def thwL (d : Nat) (p : Lab) (tag : Nat) : Nat → Nat → List AV → Option (List AV × List (Lab × Nat × Node) × Nat)
  | _, c, [] => some ([], [], c)
  | j, c, x :: xs => match thw0 d c (p.down tag j) x with
    | some (y, po, c1) => match thwL d p tag (j + 1) c1 xs with
      | some (ys, po2, c2) => some (y :: ys, po ++ po2, c2)
      | none => none
    | none => none
def thw1 (d c : Nat) (p : Lab) : AV → Option (AV × List (Lab × Nat × Node) × Nat)
  | .agg cs => match thwL d p 0 0 c cs with
    | some (ys, po, c1) => some (.agg ys, po, c1)
    | none => none
  | x => thw0 d c p x
def thwT (d : Nat) (p : Lab) : Nat → Nat → List AV → Option (List AV × List (Lab × Nat × Node) × Nat)
  | _, c, [] => some ([], [], c)
  | j, c, x :: xs => match thw1 d c (p.down 1 j) x with
    | some (y, po, c1) => match thwT d p (j + 1) c1 xs with
      | some (ys, po2, c2) => some (y :: ys, po ++ po2, c2)
      | none => none
    | none => none
def thw (d : Nat) (p : Lab) : AV → Option (AV × List (Lab × Nat × Node) × Nat)
  | .tup vs => match thwT d p 0 1 vs with
    | some (ys, po, c1) => some (.tup ys, po, c1)
    | none => none
  | x => thw1 d 1 p x
def Places (w : World) (lab : Labs) (po : List (Lab × Nat × Node)) (L : List (Nat × (Nat × Nat))) : Prop :=
  L.length = po.length ∧ ∀ (k : Nat) e l, po[k]? = some e → L[k]? = some l → l.1 = e.2.1 ∧ NodeAt w lab e.1 e.2.2 l.2.1 l.2.2
theorem Places.nil {w : World} {lab : Labs} : Places w lab [] [] := ⟨rfl, by intro k e l h; simp at h⟩
theorem Places.append {w : World} {lab : Labs} {po po2 : List (Lab × Nat × Node)} {L L2 : List (Nat × (Nat × Nat))} (h : Places w lab po L) (h2 : Places w lab po2 L2) : Places w lab (po ++ po2) (L ++ L2) := by
  refine ⟨by simp [h.1, h2.1], ?_⟩
  intro k e l he hl
  rw [List.getElem?_append] at he hl
  rw [h.1] at hl
  split at he
  · rename_i hk; rw [if_pos hk] at hl; exact h.2 k e l he hl
  · rename_i hk; rw [if_neg hk] at hl; exact h2.2 _ e l he hl
def Shows (w : World) (lab : Labs) (own : Prop) (L : List (Nat × (Nat × Nat))) (y : AV) (v : Value) : Prop :=
  ∀ lab' loc', (own ∨ ∀ b, b < w.heap.size → lab b = none → lab' b = none) → (∀ l ∈ L, loc' l.1 = some l.2) → V w lab' loc' y v
theorem thw0_sound {w : World} {lab : Labs} {d c : Nat} {p : Lab} {x y : AV} {po : List (Lab × Nat × Node)} {c' : Nat} {v : Value} (h : thw0 d c p x = some (y, po, c')) (hx : T w lab p x v) :
    ∃ L, Places w lab po L ∧ Shows w lab (x.ownd = true) L y v := by
  have hsc : ∀ z, I w lab z v → Shows w lab (z.ownd = true) [] z v := by
    intro z hz lab' loc' hk _
    rcases hk with hk | hk
    · exact .imm _ _ (hz.ownd hk)
    · exact .imm _ _ (hz.mono (fun b hb hl => ⟨hk b hb hl, rfl⟩) (Nat.le_refl _))
  unfold thw0 at h
  split at h
  · rename_i es l
    cases h
    obtain ⟨b, base, cap, rfl, h1, h2, h3⟩ := NodeAt.osl hx
    refine ⟨[(1000 * c + d, (b, base))], ⟨rfl, ?_⟩, ?_⟩
    · intro k e l he hl
      cases k with
      | zero => simp at he hl; subst he; subst hl; exact ⟨rfl, h3⟩
      | succ k => simp at he
    · intro lab' loc' _ hL
      have := hL (1000 * c + d, (b, base)) (by simp)
      simp only at this
      refine .sl _ _ _ _ _ fun b' base' hl => ?_
      rw [this] at hl; cases hl
      exact ⟨_, cap, rfl, h1, Or.inr (by simp), by simpa using h2⟩
  · rename_i l
    cases h
    obtain ⟨b, base, rfl, h3⟩ := NodeAt.op hx
    refine ⟨[(1000 * c + d, (b, base))], ⟨rfl, ?_⟩, ?_⟩
    · intro k e l he hl
      cases k with
      | zero => simp at he hl; subst he; subst hl; exact ⟨rfl, h3⟩
      | succ k => simp at he
    · intro lab' loc' _ hL
      have := hL (1000 * c + d, (b, base)) (by simp)
      simp only at this
      refine .ptr _ _ _ _ _ fun b' base' hl => ?_
      rw [this] at hl; cases hl
      simp
  all_goals first
    | (cases h; done)
    | (cases h
       cases hx with
       | imm _ _ _ hi => exact ⟨[], Places.nil, hsc _ hi⟩)
theorem thwL_sound {w : World} {lab : Labs} {d : Nat} {p : Lab} {tag : Nat} : ∀ (xs : List AV) (vs : List Value) (j c : Nat) (ys : List AV) (po : List (Lab × Nat × Node)) (c' : Nat), thwL d p tag j c xs = some (ys, po, c') →
    xs.length = vs.length → (∀ (i : Nat) x v, xs[i]? = some x → vs[i]? = some v → T w lab (p.down tag (j + i)) x v) →
    ∃ L, Places w lab po L ∧ ys.length = vs.length ∧ ∀ (i : Nat) y v, ys[i]? = some y → vs[i]? = some v → Shows w lab (owndL xs = true) L y v := by
  intro xs
  induction xs with
  | nil =>
    intro vs j c ys po c' h hl _
    simp [thwL] at h
    obtain ⟨rfl, rfl, _⟩ := h
    exact ⟨[], Places.nil, hl, by intro i y v hi; simp at hi⟩
  | cons x xs ih =>
    intro vs j c ys po c' h hl hv
    simp only [thwL] at h
    split at h <;> first | (cases h; done) | skip
    rename_i y po1 c1 h1
    split at h <;> first | (cases h; done) | cases h
    rename_i ys' po2 h2
    cases vs with
    | nil => simp at hl
    | cons v vs =>
      obtain ⟨L1, hP1, hS1⟩ := thw0_sound h1 (hv 0 x v rfl rfl)
      obtain ⟨L2, hP2, hl2, hS2⟩ := ih vs (j + 1) c1 ys' po2 c' h2 (by simpa using hl) (fun i z u hz hu => by
        have := hv (i + 1) z u (by simpa using hz) (by simpa using hu)
        rw [show j + (i + 1) = j + 1 + i by omega] at this; exact this)
      refine ⟨L1 ++ L2, hP1.append hP2, by simp [hl2], ?_⟩
      intro i y' v' hy hv' lab' loc' hk hL
      cases i with
      | zero =>
        simp at hy hv'; subst hy; subst hv'
        exact hS1 lab' loc' (hk.imp (fun ho => by simp [owndL] at ho; exact ho.1) id) (fun l hl => hL l (List.mem_append_left _ hl))
      | succ i =>
        exact hS2 i y' v' (by simpa using hy) (by simpa using hv') lab' loc' (hk.imp (fun ho => by simp [owndL] at ho; exact ho.2) id) (fun l hl => hL l (List.mem_append_right _ hl))
theorem thw1_sound {w : World} {lab : Labs} {d c : Nat} {p : Lab} {x y : AV} {po : List (Lab × Nat × Node)} {c' : Nat} {v : Value} (h : thw1 d c p x = some (y, po, c')) (hx : T w lab p x v) :
    ∃ L, Places w lab po L ∧ Shows w lab (x.ownd = true) L y v := by
  unfold thw1 at h
  split at h
  · rename_i cs
    split at h <;> first | (cases h; done) | cases h
    rename_i ys h1
    have hx' : ∃ vs : List Value, v = .agg ⟨vs⟩ ∧ cs.length = vs.length ∧ ∀ (j : Nat) x y, cs[j]? = some x → vs[j]? = some y → T w lab (p.down 0 j) x y := by
      cases hx with
      | imm _ _ _ hi => cases hi with | agg _ vs hl hr => exact ⟨vs, rfl, hl, fun j x y hx hy => .imm _ _ _ (hr j x y hx hy)⟩
      | agg _ _ vs hl hr => exact ⟨vs, rfl, hl, hr⟩
    obtain ⟨vs, rfl, hl, hr⟩ := hx'
    obtain ⟨L, hP, hl2, hS⟩ := thwL_sound cs vs 0 c ys po _ h1 hl (fun i x v hx hv => by simpa using hr i x v hx hv)
    refine ⟨L, hP, fun lab' loc' hk hL => .agg _ _ hl2 fun j z u hz hu => hS j z u hz hu lab' loc' (hk.imp (fun ho => by simpa [AV.ownd] using ho) id) hL⟩
  · exact thw0_sound h hx
theorem thwT_sound {w : World} {lab : Labs} {d : Nat} {p : Lab} : ∀ (xs : List AV) (vs : List Value) (j c : Nat) (ys : List AV) (po : List (Lab × Nat × Node)) (c' : Nat), thwT d p j c xs = some (ys, po, c') →
    xs.length = vs.length → (∀ (i : Nat) x v, xs[i]? = some x → vs[i]? = some v → T w lab (p.down 1 (j + i)) x v) →
    ∃ L, Places w lab po L ∧ ys.length = vs.length ∧ ∀ (i : Nat) y v, ys[i]? = some y → vs[i]? = some v → Shows w lab (owndL xs = true) L y v := by
  intro xs
  induction xs with
  | nil =>
    intro vs j c ys po c' h hl _
    simp [thwT] at h
    obtain ⟨rfl, rfl, _⟩ := h
    exact ⟨[], Places.nil, hl, by intro i y v hi; simp at hi⟩
  | cons x xs ih =>
    intro vs j c ys po c' h hl hv
    simp only [thwT] at h
    split at h <;> first | (cases h; done) | skip
    rename_i y po1 c1 h1
    split at h <;> first | (cases h; done) | cases h
    rename_i ys' po2 h2
    cases vs with
    | nil => simp at hl
    | cons v vs =>
      obtain ⟨L1, hP1, hS1⟩ := thw1_sound h1 (hv 0 x v rfl rfl)
      obtain ⟨L2, hP2, hl2, hS2⟩ := ih vs (j + 1) c1 ys' po2 c' h2 (by simpa using hl) (fun i z u hz hu => by
        have := hv (i + 1) z u (by simpa using hz) (by simpa using hu)
        rw [show j + (i + 1) = j + 1 + i by omega] at this; exact this)
      refine ⟨L1 ++ L2, hP1.append hP2, by simp [hl2], ?_⟩
      intro i y' v' hy hv' lab' loc' hk hL
      cases i with
      | zero =>
        simp at hy hv'; subst hy; subst hv'
        exact hS1 lab' loc' (hk.imp (fun ho => by simp [owndL] at ho; exact ho.1) id) (fun l hl => hL l (List.mem_append_left _ hl))
      | succ i =>
        exact hS2 i y' v' (by simpa using hy) (by simpa using hv') lab' loc' (hk.imp (fun ho => by simp [owndL] at ho; exact ho.2) id) (fun l hl => hL l (List.mem_append_right _ hl))
theorem thw_sound {w : World} {lab : Labs} {d : Nat} {p : Lab} {x y : AV} {po : List (Lab × Nat × Node)} {c' : Nat} {v : Value} (h : thw d p x = some (y, po, c')) (hx : T w lab p x v) :
    ∃ L, Places w lab po L ∧ Shows w lab (x.ownd = true) L y v := by
  unfold thw at h
  split at h
  · rename_i cs
    split at h <;> first | (cases h; done) | cases h
    rename_i ys h1
    have hx' : ∃ vs : List Value, v = .tuple ⟨vs⟩ ∧ cs.length = vs.length ∧ ∀ (j : Nat) x y, cs[j]? = some x → vs[j]? = some y → T w lab (p.down 1 j) x y := by
      cases hx with
      | imm _ _ _ hi => cases hi with | tup _ vs hl hr => exact ⟨vs, rfl, hl, fun j x y hx hy => .imm _ _ _ (hr j x y hx hy)⟩
      | tup _ _ vs hl hr => exact ⟨vs, rfl, hl, hr⟩
    obtain ⟨vs, rfl, hl, hr⟩ := hx'
    obtain ⟨L, hP, hl2, hS⟩ := thwT_sound cs vs 0 1 ys po _ h1 hl (fun i x v hx hv => by simpa using hr i x v hx hv)
    refine ⟨L, hP, fun lab' loc' hk hL => .tup _ _ hl2 fun j z u hz hu => hS j z u hz hu lab' loc' (hk.imp (fun ho => by simpa [AV.ownd] using ho) id) hL⟩
  · exact thw1_sound h hx
end Go.AM
namespace Go.AM
def strip : List (Nat × Nat) → List (Nat × Nat) → Option (List (Nat × Nat))
  | [], q => some q
  | a :: p, b :: q => if a = b then strip p q else none
  | _ :: _, [] => none
theorem strip_app (p q : List (Nat × Nat)) : strip p (p ++ q) = some q := by
  induction p with
  | nil => rfl
  | cons a p ih => simp [strip, ih]
def cmpb (a b : List (Nat × Nat)) : Bool := (strip a b).isSome || (strip b a).isSome
theorem strip_cmp {a b q r : List (Nat × Nat)} (h : strip a (b ++ q) = some r) : cmpb a b = true := by
  induction a generalizing b with
  | nil => simp [cmpb, strip]
  | cons x a ih =>
    cases b with
    | nil => simp [cmpb, strip]
    | cons y b =>
      simp only [List.cons_append, strip] at h
      split at h
      · rename_i e
        subst e
        have := ih h
        simpa [cmpb, strip] using this
      · cases h
abbrev PlanO := List (Lab × Nat × Node)
def findP : PlanO → Root → List (Nat × Nat) → Option Lab
  | [], _, _ => none
  | e :: l, r, p => if e.1.1 = r then match strip e.1.2 p with
      | some q => some (.obj e.2.1, q)
      | none => findP l r p
    else findP l r p
def apart : PlanO → Bool
  | [] => true
  | e :: l => l.all (fun f => !(decide (e.1.1 = f.1.1) && cmpb e.1.2 f.1.2)) && apart l
theorem findP_mem {po : PlanO} (h : apart po = true) {e : Lab × Nat × Node} (he : e ∈ po) (q : List (Nat × Nat)) : findP po e.1.1 (e.1.2 ++ q) = some (.obj e.2.1, q) := by
  induction po with
  | nil => cases he
  | cons f l ih =>
    simp only [apart, Bool.and_eq_true, List.all_eq_true] at h
    rcases List.mem_cons.1 he with rfl | he
    · simp [findP, strip_app]
    · have hne := h.1 e he
      have hi := ih h.2 he
      simp only [findP]
      by_cases hr : f.1.1 = e.1.1
      · rw [if_pos hr]
        cases hs : strip f.1.2 (e.1.2 ++ q) with
        | some r =>
          have := strip_cmp hs
          simp [hr, this] at hne
        | none => exact hi
      · rw [if_neg hr]; exact hi
def gb0 (p : Lab) (x t : AV) : Option PlanO :=
  match x with
  | .sl id es i _ => match t with
    | .osl es' l => if es' = es ∧ i = 0 then some [(p, id, ⟨es, l⟩)] else none
    | _ => none
  | .ptr id es i j => match t with
    | .op l => if l.length = es ∧ i = 0 ∧ j = 0 then some [(p, id, ⟨es, [l]⟩)] else none
    | _ => none
  | .agg _ | .tup _ | .fn _ _ | .gate _ _ => none
  | _ => some []
def gbL (p : Lab) : Nat → List AV → List AV → Option PlanO
  | _, [], [] => some []
  | j, x :: xs, t :: ts => match gb0 (p.down 0 j) x t, gbL p (j + 1) xs ts with
    | some a, some b => some (a ++ b)
    | _, _ => none
  | _, _, _ => none
def gb (p : Lab) (x t : AV) : Option PlanO :=
  match x with
  | .agg cs => match t with
    | .agg ts => gbL p 0 cs ts
    | _ => none
  | x => gb0 p x t
def gbAll (all : List AV) : List (Nat × AV) → Option PlanO
  | [] => some []
  | (k, t) :: r => match all[k]? with
    | some x => match gb (.arg k, []) x t, gbAll all r with
      | some a, some b => some (a ++ b)
      | _, _ => none
    | none => none
theorem gb0_sound {w w' : World} {lab labq : Labs} {loc : Locs} {p : Lab} {x t : AV} {po : PlanO} {v : Value} (h : gb0 p x t = some po) (hlive : ∀ i ∈ x.ids, ∃ bb, loc i = some bb)
    (hx : V w lab loc x v) (ht : T w' labq p t v) : ∃ L, Places w' labq po L ∧ ∀ l ∈ L, loc l.1 = some l.2 := by
  unfold gb0 at h
  split at h
  · rename_i id es i len
    split at h <;> first | (cases h; done) | skip
    rename_i es' l
    split at h <;> first | (cases h; done) | cases h
    rename_i hc
    obtain ⟨rfl, rfl⟩ := hc
    obtain ⟨⟨b, base⟩, hl⟩ := hlive id (by simp only [AV.ids]; exact List.mem_singleton.2 rfl)
    obtain ⟨a, cap, rfl, h1, h2, _⟩ := hx.inv_sl hl
    obtain ⟨b', base', cap', h3, _, _, h4⟩ := NodeAt.osl ht
    have ha : a = ⟨b, base, none⟩ := by rcases h2 with h | h; omega; simpa using h
    subst ha
    simp only [Value.slice.injEq, Option.some.injEq, Addr.mk.injEq, and_true] at h3
    obtain ⟨⟨rfl, rfl⟩, _, _⟩ := h3
    refine ⟨[(id, (b, base))], ⟨rfl, ?_⟩, by intro l hl'; simp at hl'; subst hl'; exact hl⟩
    intro k e l he hl'
    cases k with
    | zero => simp at he hl'; subst he; subst hl'; exact ⟨rfl, h4⟩
    | succ k => simp at he
  · rename_i id es i j
    split at h <;> first | (cases h; done) | skip
    rename_i l
    split at h <;> first | (cases h; done) | cases h
    rename_i hc
    obtain ⟨rfl, rfl, rfl⟩ := hc
    obtain ⟨⟨b, base⟩, hl⟩ := hlive id (by simp only [AV.ids]; exact List.mem_singleton.2 rfl)
    have h2 := hx.inv_ptr hl
    obtain ⟨b', base', h3, h4⟩ := NodeAt.op ht
    rw [h2] at h3
    simp only [Value.pointer.injEq, Option.some.injEq, Addr.mk.injEq, and_true, Nat.zero_mul, Nat.add_zero] at h3
    obtain ⟨rfl, rfl⟩ := h3
    refine ⟨[(id, (b, base))], ⟨rfl, ?_⟩, by intro l hl'; simp at hl'; subst hl'; exact hl⟩
    intro k e l' he hl'
    cases k with
    | zero => simp at he hl'; subst he; subst hl'; exact ⟨rfl, h4⟩
    | succ k => simp at he
  all_goals first
    | (cases h; done)
    | (cases h; exact ⟨[], Places.nil, by simp⟩)
theorem gbL_sound {w w' : World} {lab labq : Labs} {loc : Locs} {p : Lab} : ∀ (xs ts : List AV) (vs : List Value) (j : Nat) (po : PlanO), gbL p j xs ts = some po → (∀ i ∈ idsL xs, ∃ bb, loc i = some bb) →
    xs.length = vs.length → (∀ (i : Nat) x v, xs[i]? = some x → vs[i]? = some v → V w lab loc x v) → (∀ (i : Nat) t v, ts[i]? = some t → vs[i]? = some v → T w' labq (p.down 0 (j + i)) t v) →
    ∃ L, Places w' labq po L ∧ ∀ l ∈ L, loc l.1 = some l.2 := by
  intro xs
  induction xs with
  | nil =>
    intro ts vs j po h _ _ _ _
    cases ts with
    | nil => simp [gbL] at h; subst h; exact ⟨[], Places.nil, by simp⟩
    | cons => simp [gbL] at h
  | cons x xs ih =>
    intro ts vs j po h hlive hl hv ht
    cases ts with
    | nil => simp [gbL] at h
    | cons t ts =>
      simp only [gbL] at h
      split at h <;> first | (cases h; done) | cases h
      rename_i a b h1 h2
      cases vs with
      | nil => simp at hl
      | cons v vs =>
        obtain ⟨L1, hP1, hl1⟩ := gb0_sound h1 (fun i hi => hlive i (by simp only [idsL]; exact List.mem_append_left _ hi)) (hv 0 x v rfl rfl) (ht 0 t v rfl rfl)
        obtain ⟨L2, hP2, hl2⟩ := ih ts vs (j + 1) b h2 (fun i hi => hlive i (by simp only [idsL]; exact List.mem_append_right _ hi)) (by simpa using hl)
          (fun i y u hy hu => hv (i + 1) y u (by simpa using hy) (by simpa using hu))
          (fun i y u hy hu => by have := ht (i + 1) y u (by simpa using hy) (by simpa using hu); rw [show j + (i + 1) = j + 1 + i by omega] at this; exact this)
        refine ⟨L1 ++ L2, hP1.append hP2, ?_⟩
        intro l hl
        rcases List.mem_append.1 hl with hl | hl
        · exact hl1 l hl
        · exact hl2 l hl
theorem gb_sound {w w' : World} {lab labq : Labs} {loc : Locs} {p : Lab} {x t : AV} {po : PlanO} {v : Value} (h : gb p x t = some po) (hlive : ∀ i ∈ x.ids, ∃ bb, loc i = some bb)
    (hx : V w lab loc x v) (ht : T w' labq p t v) : ∃ L, Places w' labq po L ∧ ∀ l ∈ L, loc l.1 = some l.2 := by
  unfold gb at h
  split at h
  · rename_i cs
    split at h <;> first | (cases h; done) | skip
    rename_i ts
    obtain ⟨vs, rfl, hl, hr⟩ := hx.inv_agg
    have ht' : ∀ (j : Nat) x y, ts[j]? = some x → vs[j]? = some y → T w' labq (p.down 0 j) x y := by
      cases ht with
      | imm _ _ _ hi => cases hi with | agg _ _ hl hr => exact fun j x y hx hy => .imm _ _ _ (hr j x y hx hy)
      | agg _ _ _ hl hr => exact hr
    exact gbL_sound cs ts vs 0 po h (by simpa [AV.ids] using hlive) hl hr (fun i t v h1 h2 => by simpa using ht' i t v h1 h2)
  · exact gb0_sound h hlive hx ht
theorem gbAll_sound {w w' : World} {lab labq : Labs} {loc : Locs} {all : List AV} {vals : List Value} (hlive : ∀ i ∈ idsL all, ∃ bb, loc i = some bb) (hl : all.length = vals.length)
    (hv : ∀ (k : Nat) x v, all[k]? = some x → vals[k]? = some v → V w lab loc x v) : ∀ (muts : List (Nat × AV)) (po : PlanO), gbAll all muts = some po →
    (∀ p ∈ muts, ∀ v, vals[p.1]? = some v → T w' labq (.arg p.1, []) p.2 v) → ∃ L, Places w' labq po L ∧ ∀ l ∈ L, loc l.1 = some l.2 := by
  intro muts
  induction muts with
  | nil => intro po h _; simp [gbAll] at h; subst h; exact ⟨[], Places.nil, by simp⟩
  | cons m r ih =>
    intro po h hm
    obtain ⟨k, t⟩ := m
    simp only [gbAll] at h
    split at h <;> first | (cases h; done) | skip
    rename_i x hx
    split at h <;> first | (cases h; done) | cases h
    rename_i a b h1 h2
    have hk : k < vals.length := by rw [← hl]; exact (List.getElem?_eq_some_iff.1 hx).1
    obtain ⟨L1, hP1, hl1⟩ := gb_sound h1 (fun i hi => hlive i (mem_idsL (List.mem_of_getElem? hx) hi)) (hv k x _ hx (List.getElem?_eq_getElem hk)) (hm (k, t) List.mem_cons_self _ (List.getElem?_eq_getElem hk))
    obtain ⟨L2, hP2, hl2⟩ := ih b h2 (fun p hp => hm p (List.mem_cons_of_mem _ hp))
    refine ⟨L1 ++ L2, hP1.append hP2, ?_⟩
    intro l hl
    rcases List.mem_append.1 hl with hl | hl
    · exact hl1 l hl
    · exact hl2 l hl
def frzAll (nodes : Nat → Option Node) (ow : List Nat) : Nat → List AV → Option (List AV × PlanI × Prop)
  | _, [] => some ([], [], True)
  | k, x :: xs => match frz nodes (decide (k ∈ ow)) k x, frzAll nodes ow (k + 1) xs with
    | some (t, p, ok), some (ts, ps, oks) => some (t :: ts, p ++ ps, ok ∧ oks)
    | _, _ => none
def isFn : AV → Bool
  | .fn _ _ => true
  | _ => false
def roOf (ow : List Nat) : Nat → List AV → List Nat
  | _, [] => []
  | k, x :: xs => (if decide (k ∈ ow) && !isFn x then [] else x.ids) ++ roOf ow (k + 1) xs
theorem frzAll_sound {w : World} {lab : Labs} {loc : Locs} {nodes : Nat → Option Node} (hn : ∀ id nd, nodes id = some nd → ∃ b base, loc id = some (b, base) ∧ ObjOk w lab loc id nd b base) {ow : List Nat} {pl : PlanI} {ro : List Nat} :
    ∀ (xs : List AV) (vs : List Value) (k : Nat) (ts : List AV) (p : PlanI) (ok : Prop), frzAll nodes ow k xs = some (ts, p, ok) → ok → xs.length = vs.length →
      (∀ (i : Nat) x v, xs[i]? = some x → vs[i]? = some v → V w lab loc x v) → (∀ e ∈ p, look e.1 pl = some e.2) → (∀ id ∈ roOf ow k xs, look id pl = none ∧ id ∈ ro) →
      ts.length = vs.length ∧ ∀ (i : Nat) t v, ts[i]? = some t → vs[i]? = some v → T w (labC lab pl ro) (.arg (k + i), []) t v := by
  intro xs
  induction xs with
  | nil =>
    intro vs k ts p ok h _ hl _ _ _
    simp [frzAll] at h
    obtain ⟨rfl, _, _⟩ := h
    exact ⟨hl, by intro i t v hi; simp at hi⟩
  | cons x xs ih =>
    intro vs k ts p ok h hok hl hv hp hro
    simp only [frzAll] at h
    split at h <;> first | (cases h; done) | cases h
    rename_i t p1 ok1 ts' ps oks h1 h2
    cases vs with
    | nil => simp at hl
    | cons v vs =>
      obtain ⟨hk1, hk2⟩ := hok
      have hA := frz_sound (pl := pl) (ro := ro) hn h1 hk1 (hv 0 x v rfl rfl) (fun e he => hp e (List.mem_append_left _ he)) (by
        intro hor id hid
        apply hro
        simp only [roOf, List.mem_append]
        left
        have : (decide (k ∈ ow) && !isFn x) = false := by
          rcases hor with ho | ⟨f, cs, rfl⟩
          · rw [ho]; rfl
          · simp [isFn]
        rw [this]; simpa using hid)
      obtain ⟨hB1, hB2⟩ := ih vs (k + 1) ts' ps oks h2 hk2 (by simpa using hl) (fun i y u hy hu => hv (i + 1) y u (by simpa using hy) (by simpa using hu))
        (fun e he => hp e (List.mem_append_right _ he)) (fun id hid => hro id (by simp only [roOf]; exact List.mem_append_right _ hid))
      refine ⟨by simp [hB1], ?_⟩
      intro i t' v' ht hv'
      cases i with
      | zero => simp at ht hv'; subst ht; subst hv'; exact hA
      | succ i =>
        have := hB2 i t' v' (by simpa using ht) (by simpa using hv')
        rw [show k + 1 + i = k + (i + 1) by omega] at this
        exact this
theorem look_places {w : World} {lab : Labs} {po : PlanO} {L : List (Nat × (Nat × Nat))} (h : Places w lab po L) (hnd : (po.map (·.2.1)).Nodup) {l : Nat × (Nat × Nat)} (hl : l ∈ L) : look l.1 L = some l.2 := by
  have hids : L.map (·.1) = po.map (·.2.1) := by
    apply List.ext_getElem?
    intro k
    simp only [List.getElem?_map]
    cases hk : L[k]? with
    | none =>
      have : po.length ≤ k := by rw [← h.1]; exact List.getElem?_eq_none_iff.1 hk
      simp [List.getElem?_eq_none this]
    | some l =>
      have hk' : k < po.length := by rw [← h.1]; exact (List.getElem?_eq_some_iff.1 hk).1
      have := (h.2 k po[k] l (List.getElem?_eq_getElem hk') hk).1
      simp [List.getElem?_eq_getElem hk', this]
  rw [← hids] at hnd
  clear hids h
  induction L with
  | nil => cases hl
  | cons x L ih =>
    obtain ⟨i, bb⟩ := x
    simp only [List.map_cons, List.nodup_cons] at hnd
    rcases List.mem_cons.1 hl with rfl | hl2
    · simp [look]
    · simp only [look]
      rw [if_neg]
      · exact ih hnd.2 hl2
      · intro e
        exact hnd.1 (by rw [← e]; exact List.mem_map_of_mem hl2)
theorem look_L_mem {w : World} {lab : Labs} {po : PlanO} {L : List (Nat × (Nat × Nat))} (h : Places w lab po L) {i : Nat} {bb : Nat × Nat} (hl : look i L = some bb) : ∃ e ∈ po, e.2.1 = i ∧ NodeAt w lab e.1 e.2.2 bb.1 bb.2 := by
  have := look_mem hl
  obtain ⟨k, hk⟩ := List.mem_iff_getElem?.1 this
  have hk' : k < po.length := by rw [← h.1]; exact (List.getElem?_eq_some_iff.1 hk).1
  have := h.2 k po[k] _ (List.getElem?_eq_getElem hk') hk
  exact ⟨po[k], List.getElem_mem hk', this.1.symm, this.2⟩
theorem places_of_mem {w : World} {lab : Labs} {po : PlanO} {L : List (Nat × (Nat × Nat))} (h : Places w lab po L) {e : Lab × Nat × Node} (he : e ∈ po) : ∃ l ∈ L, l.1 = e.2.1 ∧ NodeAt w lab e.1 e.2.2 l.2.1 l.2.2 := by
  obtain ⟨k, hk⟩ := List.mem_iff_getElem?.1 he
  have hk' : k < L.length := by rw [h.1]; exact (List.getElem?_eq_some_iff.1 hk).1
  have := h.2 k e L[k] hk (List.getElem?_eq_getElem hk')
  exact ⟨L[k], List.getElem_mem hk', this.1, this.2⟩
def frzB (nodes : Nat → Option Node) (k : Nat) : AV → Option (AV × Prop)
  | .ptr id es i j => match nodes id with
    | some ⟨es1, [[.ptr id2 es2 i2 j2]]⟩ => if es1 = 1 ∧ es = 1 ∧ i = 0 ∧ j = 0 then match frz0 nodes false k [] (.ptr id2 es2 i2 j2) with
        | some (t, _, ok) => some (.ip [t], ok)
        | none => none
      else none
    | _ => match frz0 nodes false k [] (.ptr id es i j) with
      | some (t, _, ok) => some (t, ok)
      | none => none
  | x => match frz0 nodes false k [] x with
    | some (t, _, ok) => some (t, ok)
    | none => none
def frzBL (nodes : Nat → Option Node) (k : Nat) : List AV → Option (List AV × Prop)
  | [] => some ([], True)
  | x :: xs => match frzB nodes k x, frzBL nodes k xs with
    | some (t, ok), some (ts, oks) => some (t :: ts, ok ∧ oks)
    | _, _ => none
def lnsC (nodes : Nat → Option Node) (ow : List Nat) (k : Nat) : AV → Option (AV × Prop)
  | .sl id es i len => if decide (10000 + id ∈ ow) = true then match nodes id with
      | some _ => some (.lns len, True)
      | none => none
    else match frz0 nodes false k [] (.sl id es i len) with
      | some (t, _, ok) => some (t, ok)
      | none => none
  | x => match frz0 nodes false k [] x with
    | some (t, _, ok) => some (t, ok)
    | none => none
def lnsL (nodes : Nat → Option Node) (ow : List Nat) (k : Nat) : List AV → Option (List AV × Prop)
  | [] => some ([], True)
  | x :: xs => match lnsC nodes ow k x, lnsL nodes ow k xs with
    | some (t, ok), some (ts, oks) => some (t :: ts, ok ∧ oks)
    | _, _ => none
def frzC (nodes : Nat → Option Node) (ow : List Nat) (k : Nat) : AV → Option (AV × PlanI × Prop)
  | .fn f cs => match frzBL nodes k cs with
    | some (ts, ok) => some (.fn f ts, [], ok)
    | none => none
  | .agg cs => if (ow.any fun i => decide (10000 ≤ i)) = true ∧ decide (k ∈ ow) = false then match lnsL nodes ow k cs with
      | some (ts, ok) => some (.agg ts, [], ok)
      | none => none
    else frz nodes (decide (k ∈ ow)) k (.agg cs)
  | x => frz nodes (decide (k ∈ ow)) k x
def frzAllC (nodes : Nat → Option Node) (ow : List Nat) : Nat → List AV → Option (List AV × PlanI × Prop)
  | _, [] => some ([], [], True)
  | k, x :: xs => match frzC nodes ow k x, frzAllC nodes ow (k + 1) xs with
    | some (t, p, ok), some (ts, ps, oks) => some (t :: ts, p ++ ps, ok ∧ oks)
    | _, _ => none
def boxIds (nodes : Nat → Option Node) : AV → List Nat
  | .ptr id _ _ _ => match nodes id with
    | some ⟨_, [[.ptr id2 _ _ _]]⟩ => [id2]
    | _ => []
  | _ => []
def boxF (nodes : Nat → Option Node) : AV → List Nat
  | .fn _ cs => cs.flatMap (boxIds nodes)
  | _ => []
def roC (nodes : Nat → Option Node) (ow : List Nat) (xs : List AV) : List Nat := roOf ow 0 xs ++ xs.flatMap (boxF nodes)
def obsC (st : St) (vs : List AV) : List (Nat × Option Node) := obsOf st vs ++ (vs.flatMap (boxF st.obj)).map fun i => (i, st.obj i)
section snd3
variable {w : World} {lab : Labs} {loc : Locs} {nodes : Nat → Option Node} (hn : ∀ id nd, nodes id = some nd → ∃ b base, loc id = some (b, base) ∧ ObjOk w lab loc id nd b base)
  {pl : PlanI} {ro : List Nat}
theorem frz0_noplan {nodes : Nat → Option Node} {k : Nat} {pre : List (Nat × Nat)} {x t : AV} {p1 : PlanI} {ok1 : Prop} (h1 : frz0 nodes false k pre x = some (t, p1, ok1)) : p1 = [] := by
  unfold frz0 at h1
  split at h1
  · split at h1 <;> first | (cases h1; done) | skip
    split at h1 <;> first | (cases h1; done) | (cases h1; rfl)
  · split at h1 <;> first | (cases h1; done) | skip
    split at h1 <;> first | (cases h1; done) | (cases h1; rfl)
  all_goals first | (cases h1; rfl) | (cases h1; done)
include hn in
theorem frz0_I {k : Nat} {pre : List (Nat × Nat)} {x t : AV} {p : PlanI} {ok : Prop} (h : frz0 nodes false k pre x = some (t, p, ok)) (hok : ok)
    {v : Value} (hx : V w lab loc x v) (hro : ∀ id ∈ x.ids, look id pl = none ∧ id ∈ ro) : I w (labC lab pl ro) t v := by
  have := frz0_noplan h; subst this
  exact (frz0_sound hn h hok hx (by intro e he; cases he) (fun _ => hro)).2 rfl
include hn in
theorem frzB_sound {k : Nat} {x t : AV} {ok : Prop} (h : frzB nodes k x = some (t, ok)) (hok : ok)
    {v : Value} (hx : V w lab loc x v) (hro : ∀ id ∈ x.ids, look id pl = none ∧ id ∈ ro) (hbx : ∀ id ∈ boxIds nodes x, look id pl = none ∧ id ∈ ro) : I w (labC lab pl ro) t v := by
  unfold frzB at h
  split at h
  · rename_i id es i j
    split at h
    · rename_i es1 id2 es2 i2 j2 hnd
      split at h <;> first | (cases h; done) | skip
      rename_i hij
      obtain ⟨rfl, rfl, rfl, rfl⟩ := hij
      split at h <;> first | (cases h; done) | cases h
      rename_i t2 p2 h2
      obtain ⟨b, base, hl, ho⟩ := hn id _ hnd
      rw [hx.inv_ptr hl]
      obtain ⟨v2, hv2, hc2⟩ := ho.cells 0 _ 0 _ rfl rfl
      have hV2 : V w lab loc (.ptr id2 es2 i2 j2) v2 := by
        rcases hc2 with h | h
        · exact h
        · cases h with | imm _ _ _ h => cases h
      have hI := frz0_I (pl := pl) (ro := ro) hn h2 hok hV2 (by
        intro m hm
        simp only [AV.ids, List.mem_singleton] at hm
        subst hm
        exact hbx _ (by simp [boxIds, hnd]))
      obtain ⟨hnone, hin⟩ := hro id (by simp [AV.ids])
      refine .ip _ b _ (fun _ => v2) (by simp only [labC, ho.hlab, hnone, hin, if_true]) ho.blk.lt ?_ ?_
      · intro m hm
        simp at hm; subst hm
        simpa using hv2
      · intro m x hm
        cases m with
        | zero => simp at hm; subst hm; exact hI
        | succ m => simp at hm
    · split at h <;> first | (cases h; done) | cases h
      rename_i t2 p2 h2
      exact frz0_I hn h2 hok hx hro
  · split at h <;> first | (cases h; done) | cases h
    rename_i t2 p2 h2
    exact frz0_I hn h2 hok hx hro
include hn in
theorem frzBL_sound {k : Nat} : ∀ (xs : List AV) (vs : List Value) (ts : List AV) (ok : Prop), frzBL nodes k xs = some (ts, ok) → ok →
    xs.length = vs.length → (∀ (i : Nat) x v, xs[i]? = some x → vs[i]? = some v → V w lab loc x v) → (∀ id ∈ idsL xs, look id pl = none ∧ id ∈ ro) → (∀ id ∈ xs.flatMap (boxIds nodes), look id pl = none ∧ id ∈ ro) →
    ts.length = vs.length ∧ ∀ (i : Nat) t v, ts[i]? = some t → vs[i]? = some v → I w (labC lab pl ro) t v := by
  intro xs
  induction xs with
  | nil =>
    intro vs ts ok h _ hl _ _ _
    simp [frzBL] at h
    obtain ⟨rfl, _⟩ := h
    exact ⟨hl, by intro i t v hi; simp at hi⟩
  | cons x xs ih =>
    intro vs ts ok h hok hl hv hro hbx
    simp only [frzBL] at h
    split at h <;> first | (cases h; done) | cases h
    rename_i t ok1 ts' oks h1 h2
    cases vs with
    | nil => simp at hl
    | cons v vs =>
      obtain ⟨hk1, hk2⟩ := hok
      have hA := frzB_sound (pl := pl) (ro := ro) hn h1 hk1 (hv 0 x v rfl rfl) (fun id hid => hro id (by simp only [idsL]; exact List.mem_append_left _ hid)) (fun id hid => hbx id (by rw [List.flatMap_cons]; exact List.mem_append_left _ hid))
      obtain ⟨hB1, hB2⟩ := ih vs ts' oks h2 hk2 (by simpa using hl) (fun i y u hy hu => hv (i + 1) y u (by simpa using hy) (by simpa using hu))
        (fun id hid => hro id (by simp only [idsL]; exact List.mem_append_right _ hid)) (fun id hid => hbx id (by rw [List.flatMap_cons]; exact List.mem_append_right _ hid))
      refine ⟨by simp [hB1], ?_⟩
      intro i t' v' ht hv'
      cases i with
      | zero => simp at ht hv'; subst ht; subst hv'; exact hA
      | succ i => exact hB2 i t' v' (by simpa using ht) (by simpa using hv')
include hn in
theorem lnsC_sound {ow : List Nat} {k : Nat} {x t : AV} {ok : Prop} (h : lnsC nodes ow k x = some (t, ok)) (hok : ok)
    {v : Value} (hx : V w lab loc x v) (hro : ∀ id ∈ x.ids, look id pl = none ∧ id ∈ ro) : I w (labC lab pl ro) t v := by
  unfold lnsC at h
  split at h
  · rename_i id es i len
    split at h
    · split at h <;> first | (cases h; done) | cases h
      rename_i nd hnd
      obtain ⟨b, base, hl, ho⟩ := hn id nd hnd
      obtain ⟨a, cap, rfl, _⟩ := hx.inv_sl hl
      exact .lns _ _ _
    · split at h <;> first | (cases h; done) | cases h
      rename_i t2 p2 h2
      exact frz0_I hn h2 hok hx hro
  · split at h <;> first | (cases h; done) | cases h
    rename_i t2 p2 h2
    exact frz0_I hn h2 hok hx hro
include hn in
theorem lnsL_sound {ow : List Nat} {k : Nat} : ∀ (xs : List AV) (vs : List Value) (ts : List AV) (ok : Prop), lnsL nodes ow k xs = some (ts, ok) → ok →
    xs.length = vs.length → (∀ (i : Nat) x v, xs[i]? = some x → vs[i]? = some v → V w lab loc x v) → (∀ id ∈ idsL xs, look id pl = none ∧ id ∈ ro) →
    ts.length = vs.length ∧ ∀ (i : Nat) t v, ts[i]? = some t → vs[i]? = some v → I w (labC lab pl ro) t v := by
  intro xs
  induction xs with
  | nil =>
    intro vs ts ok h _ hl _ _
    simp [lnsL] at h
    obtain ⟨rfl, _⟩ := h
    exact ⟨hl, by intro i t v hi; simp at hi⟩
  | cons x xs ih =>
    intro vs ts ok h hok hl hv hro
    simp only [lnsL] at h
    split at h <;> first | (cases h; done) | cases h
    rename_i t ok1 ts' oks h1 h2
    cases vs with
    | nil => simp at hl
    | cons v vs =>
      obtain ⟨hk1, hk2⟩ := hok
      have hA := lnsC_sound (pl := pl) (ro := ro) hn h1 hk1 (hv 0 x v rfl rfl) (fun id hid => hro id (by simp only [idsL]; exact List.mem_append_left _ hid))
      obtain ⟨hB1, hB2⟩ := ih vs ts' oks h2 hk2 (by simpa using hl) (fun i y u hy hu => hv (i + 1) y u (by simpa using hy) (by simpa using hu))
        (fun id hid => hro id (by simp only [idsL]; exact List.mem_append_right _ hid))
      refine ⟨by simp [hB1], ?_⟩
      intro i t' v' ht hv'
      cases i with
      | zero => simp at ht hv'; subst ht; subst hv'; exact hA
      | succ i => exact hB2 i t' v' (by simpa using ht) (by simpa using hv')
include hn in
theorem frzC_sound {ow : List Nat} {k : Nat} {x t : AV} {p : PlanI} {ok : Prop} (h : frzC nodes ow k x = some (t, p, ok)) (hok : ok)
    {v : Value} (hx : V w lab loc x v) (hp : ∀ e ∈ p, look e.1 pl = some e.2) (hro : decide (k ∈ ow) = false ∨ (∃ f cs, x = .fn f cs) → ∀ id ∈ x.ids, look id pl = none ∧ id ∈ ro) (hbx : ∀ id ∈ boxF nodes x, look id pl = none ∧ id ∈ ro) :
    T w (labC lab pl ro) (.arg k, []) t v := by
  unfold frzC at h
  split at h
  · rename_i f cs
    split at h <;> first | (cases h; done) | cases h
    rename_i ts h1
    obtain ⟨vs, rfl, hl, hr⟩ := hx.inv_fn
    obtain ⟨h2, h3⟩ := frzBL_sound (pl := pl) (ro := ro) hn cs vs _ _ h1 hok hl hr (fun id hid => hro (Or.inr ⟨f, cs, rfl⟩) id (by simpa [AV.ids] using hid)) (fun id hid => hbx id (by simpa [boxF] using hid))
    exact .imm _ _ _ (.fn f _ vs h2 fun j y u hy hu => h3 j y u hy hu)
  · rename_i cs
    split at h
    · rename_i hc
      split at h <;> first | (cases h; done) | cases h
      rename_i ts h1
      obtain ⟨vs, rfl, hl, hr⟩ := hx.inv_agg
      obtain ⟨h2, h3⟩ := lnsL_sound (pl := pl) (ro := ro) hn cs vs _ _ h1 hok hl hr (fun id hid => hro (Or.inl hc.2) id (by simpa [AV.ids] using hid))
      exact .imm _ _ _ (.agg _ vs h2 fun j y u hy hu => h3 j y u hy hu)
    · exact frz_sound hn h hok hx hp hro
  · exact frz_sound hn h hok hx hp hro
end snd3
theorem frzAllC_sound {w : World} {lab : Labs} {loc : Locs} {nodes : Nat → Option Node} (hn : ∀ id nd, nodes id = some nd → ∃ b base, loc id = some (b, base) ∧ ObjOk w lab loc id nd b base) {ow : List Nat} {pl : PlanI} {ro : List Nat} :
    ∀ (xs : List AV) (vs : List Value) (k : Nat) (ts : List AV) (p : PlanI) (ok : Prop), frzAllC nodes ow k xs = some (ts, p, ok) → ok → xs.length = vs.length →
      (∀ (i : Nat) x v, xs[i]? = some x → vs[i]? = some v → V w lab loc x v) → (∀ e ∈ p, look e.1 pl = some e.2) → (∀ id ∈ roOf ow k xs, look id pl = none ∧ id ∈ ro) → (∀ id ∈ xs.flatMap (boxF nodes), look id pl = none ∧ id ∈ ro) →
      ts.length = vs.length ∧ ∀ (i : Nat) t v, ts[i]? = some t → vs[i]? = some v → T w (labC lab pl ro) (.arg (k + i), []) t v := by
  intro xs
  induction xs with
  | nil =>
    intro vs k ts p ok h _ hl _ _ _ _
    simp [frzAllC] at h
    obtain ⟨rfl, _, _⟩ := h
    exact ⟨hl, by intro i t v hi; simp at hi⟩
  | cons x xs ih =>
    intro vs k ts p ok h hok hl hv hp hro hbx
    simp only [frzAllC] at h
    split at h <;> first | (cases h; done) | cases h
    rename_i t p1 ok1 ts' ps oks h1 h2
    cases vs with
    | nil => simp at hl
    | cons v vs =>
      obtain ⟨hk1, hk2⟩ := hok
      have hA := frzC_sound (pl := pl) (ro := ro) hn h1 hk1 (hv 0 x v rfl rfl) (fun e he => hp e (List.mem_append_left _ he)) (by
        intro hor id hid
        apply hro
        simp only [roOf, List.mem_append]
        left
        have : (decide (k ∈ ow) && !isFn x) = false := by
          rcases hor with ho | ⟨f, cs, rfl⟩
          · rw [ho]; rfl
          · simp [isFn]
        rw [this]; simpa using hid) (fun id hid => hbx id (by rw [List.flatMap_cons]; exact List.mem_append_left _ hid))
      obtain ⟨hB1, hB2⟩ := ih vs (k + 1) ts' ps oks h2 hk2 (by simpa using hl) (fun i y u hy hu => hv (i + 1) y u (by simpa using hy) (by simpa using hu))
        (fun e he => hp e (List.mem_append_right _ he)) (fun id hid => hro id (by simp only [roOf]; exact List.mem_append_right _ hid)) (fun id hid => hbx id (by rw [List.flatMap_cons]; exact List.mem_append_right _ hid))
      refine ⟨by simp [hB1], ?_⟩
      intro i t' v' ht hv'
      cases i with
      | zero => simp at ht hv'; subst ht; subst hv'; exact hA
      | succ i =>
        have := hB2 i t' v' (by simpa using ht) (by simpa using hv')
        rw [show k + 1 + i = k + (i + 1) by omega] at this
        exact this
structure CallIn where
  f : FuncId
  ro : List Nat
  all : List AV
  ts : List AV
  pl : PlanI
  ok : Prop
def callIn (st : St) (o : Oper) (ow : List Nat) : Option CallIn :=
  match o.op with
  | .call c => match c.callee with
    | .value _ => match evs st o.op.operands.toList with
      | some (.fn f caps :: as) => match frzAllC (nodesOf (obsC st (.fn f caps :: as))) ow 0 (as ++ caps) with
        | some (ts, pl, ok) =>
          if pl.all (fun e => decide (look e.1 pl = some e.2)) = true ∧ (roC (nodesOf (obsC st (.fn f caps :: as))) ow (as ++ caps)).all (fun i => (look i pl).isNone) = true ∧ (idsL (as ++ caps)).all (fun i => (nodesOf (obsC st (.fn f caps :: as)) i).isSome) = true ∧ dstOk st o.dst = true then
            some ⟨f, roC (nodesOf (obsC st (.fn f caps :: as))) ow (as ++ caps), as ++ caps, ts, pl, ok⟩
          else none
        | none => none
      | _ => none
    | _ => none
  | _ => none
def callOut (st : St) (o : Oper) (ow : List Nat) (ci : CallIn) (vs : List AV) (res : AV) (muts : List (Nat × AV)) : Option (Eff × Prop) :=
  match thw (o.dst.getD 0) (.res, []) res, gbAll ci.all muts with
  | some (x, po1, _), some po2 =>
    if apart (po1 ++ po2) = true ∧ ((po1 ++ po2).map (·.2.1)).Nodup ∧ po2.all (fun e => (look e.2.1 ci.pl).isSome) = true ∧ (po1 ++ po2).all (fun e => !decide (e.1.1 = .tmp)) = true then
      some ({ rd := rdOf st o.op.operands.toList, ob := (po1.map fun e => (e.2.1, none)) ++ obsC st vs, new := po1.map (·.2.1), wr := wrD o.dst x,
              up := ((po1 ++ po2).map fun e => (e.2.1, some e.2.2)) ++ ci.pl.map fun e => (e.1, none) },
        (∀ e ∈ po1, st.obj e.2.1 = none ∧ e.2.1 ∉ st.ids) ∧ (ci.ro = [] ∨ (res.ownd = true ∧ ∀ e ∈ po1 ++ po2, owndLL e.2.2.l = true)))
    else none
  | _, _ => none
end Go.AM
namespace Go.AM
def isTmp : Option Lab → Bool
 | some (.tmp, _) => true
 | _ => false
def labB (w : World) (lab labc labq : Labs) (po : PlanO) : Labs := fun b =>
 if b < w.heap.size ∧ isTmp (labc b) = true then lab b
 else match labq b with
  | some (r, q) => findP po r q
  | none => if b < w.heap.size ∧ (labc b).isNone = true then lab b else none
def locB (loc : Locs) (L : List (Nat × (Nat × Nat))) (pl : PlanI) : Locs := fun i => match look i L with
 | some bb => some bb
 | none => if (look i pl).isSome then none else loc i
theorem idsL_append (a b : List AV) : idsL (a ++ b) = idsL a ++ idsL b := by
 induction a with
 | nil => rfl
 | cons x a ih => simp [idsL, ih]
theorem look_map_some {α : Type} {l : List (Nat × α)} {i : Nat} (h : i ∈ l.map (·.1)) : ∃ x, look i l = some x := by
 induction l with
 | nil => cases h
 | cons y l ih =>
  obtain ⟨k, x⟩ := y
  simp only [look]
  by_cases hk : i = k
  ·exact ⟨x, by rw [if_pos hk]⟩
  ·rw [if_neg hk]
   simp only [List.map_cons, List.mem_cons] at h
   exact ih (h.resolve_left hk)
section snd
variable {P : Program} {w0 : World} {lab0 : Labs}
theorem call_sound {o : Oper} {st : St} {ow : List Nat} {ci : CallIn} {vs : List AV} {res : AV} {muts : List (Nat × AV)} {e : Eff} {ok : Prop}
  (hci : callIn st o ow = some ci) (hokc : ci.ok) (hdc : DC P ci.f ci.ts res muts) (hvs : evs st o.op.operands.toList = some vs) (hco : callOut st o ow ci vs res muts = some (e, ok)) (hok : ok) :
  e.pre st ∧ Sound P w0 lab0 st.n o e := by
 unfold callIn at hci
 split at hci <;> first | (cases hci; done) | skip
 rename_i c hop
 split at hci <;> first | (cases hci; done) | skip
 rename_i fo hcal
 split at hci <;> first | (cases hci; done) | skip
 rename_i f caps as hev
 rw [hvs] at hev
 cases hev
 split at hci <;> first | (cases hci; done) | skip
 rename_i ts pl okf hfz
 split at hci <;> first | (cases hci; done) | cases hci
 rename_i hchk
 obtain ⟨hplan, hro, hliv, hdst⟩ := hchk
 simp only at hokc hdc hco
 unfold callOut at hco
 split at hco <;> first | (cases hco; done) | skip
 rename_i x po1 cn po2 hthw hgb
 split at hco <;> first | (cases hco; done) | cases hco
 rename_i hchk2
 obtain ⟨hap, hnodup, hpo2, hroot⟩ := hchk2
 obtain ⟨hnew, hown⟩ := hok
 simp only at hgb hpo2 hown
 obtain ⟨RO, hRO⟩ : ∃ l, l = roC (nodesOf (obsC st (.fn f caps :: as))) ow (as ++ caps) := ⟨_, rfl⟩
 rw [← hRO] at hown hro
 rw [List.all_eq_true] at hplan hro hliv hpo2 hroot
 have hobs : ∀ p ∈ obsC st (.fn f caps :: as), st.obj p.1 = p.2 := by
  intro p hp
  unfold obsC obsOf at hp
  rcases List.mem_append.1 hp with hp | hp <;> (obtain ⟨i, _, rfl⟩ := List.mem_map.1 hp; rfl)
 have hrd := rdOf_self (st := st) o.op.operands.toList
 refine ⟨⟨hrd, ?_, ?_, by simp⟩, ?_⟩
 ·intro p hp
  rcases List.mem_append.1 hp with hp | hp
  ·obtain ⟨e, he, rfl⟩ := List.mem_map.1 hp
   exact (hnew e he).1
  ·exact hobs p hp
 ·intro i hi
  obtain ⟨e, he, rfl⟩ := List.mem_map.1 hi
  exact (hnew e he).2
 intro st' a w hn hp ⟨lab, loc, hR⟩ next Q hnext
 have hv := evs_pre (st' := st') hvs hp.1
 have hV := evs_V hR hv
 have hids := evs_ids hv
 have hnod := nodesOf_pre (st := st') (ob := obsC st (.fn f caps :: as)) (fun p hp' => hp.2.1 p (List.mem_append_right _ hp'))
 have hnw : ∀ i nd, nodesOf (obsC st (.fn f caps :: as)) i = some nd → ∃ b base, loc i = some (b, base) ∧ ObjOk w lab loc i nd b base := fun i nd hi => hR.objs i nd (hnod i nd hi)
 have hnew' : ∀ e ∈ po1, st'.obj e.2.1 = none ∧ e.2.1 ∉ st'.ids := fun e he =>
  ⟨hp.2.1 (e.2.1, none) (List.mem_append_left _ (List.mem_map.2 ⟨e, he, rfl⟩)), hp.2.2.1 e.2.1 (List.mem_map_of_mem he)⟩
 have hops : o.op.operands.toList.map a.eval = a.eval fo :: c.args.toList.map a.eval := by rw [hop]; simp [Op.operands, Call.operands, hcal]
 rw [hops] at hV
 obtain ⟨hVf, hVas⟩ := hV.tail
 obtain ⟨us, hfo, hul, hur⟩ := hVf.inv_fn
 have hlen : (as ++ caps).length = (c.args.toList.map a.eval ++ us).length := by simp only [List.length_append]; rw [hVas.1, hul]
 have hvall : ∀ (i : Nat) x v, (as ++ caps)[i]? = some x → (c.args.toList.map a.eval ++ us)[i]? = some v → V w lab loc x v := by
  intro i x v hx hv
  rw [List.getElem?_append] at hx hv
  rw [← hVas.1] at hv
  split at hx
  ·rename_i h; rw [if_pos h] at hv; exact hVas.2 i x v hx hv
  ·rename_i h; rw [if_neg h] at hv; exact hur _ x v hx hv
 have hidall : ∀ i ∈ idsL (as ++ caps), i ∈ st'.ids ∧ i ∈ (obsOf st (.fn f caps :: as)).map (·.1) := by
  intro i hi
  rw [idsL_append, List.mem_append] at hi
  constructor
  ·rcases hi with hi | hi
   ·obtain ⟨y, hy, hk⟩ := mem_idsL' hi
    exact hids y (List.mem_cons_of_mem _ hy) i hk
   ·exact hids (.fn f caps) List.mem_cons_self i (by simpa [AV.ids] using hi)
  ·simp only [obsOf, List.map_map, List.mem_map, Function.comp]
   refine ⟨i, ?_, rfl⟩
   simp only [idsL, List.mem_append, AV.ids]
   rcases hi with hi | hi
   ·exact Or.inr hi
   ·exact Or.inl hi
 have hpl : ∀ e ∈ pl, look e.1 pl = some e.2 := fun e he => by simpa using hplan e he
 obtain ⟨hts, hT⟩ := frzAllC_sound hnw (pl := pl) (ro := RO) (as ++ caps) _ 0 ts pl _ hfz hokc hlen hvall hpl (fun i hi => by
  have hi2 : i ∈ RO := by rw [hRO]; exact List.mem_append_left _ hi
  have := hro i hi2
  simp only [Option.isNone_iff_eq_none] at this
  exact ⟨this, hi2⟩) (fun i hi => by
  have hi2 : i ∈ RO := by rw [hRO]; exact List.mem_append_right _ hi
  have := hro i hi2
  simp only [Option.isNone_iff_eq_none] at this
  exact ⟨this, hi2⟩)
 have hfreshc : ∀ b, labC lab pl (RO) b ≠ none → b < w.heap.size := by
  intro b hb
  apply hR.fresh
  intro e; exact hb (labC_none e)
 obtain ⟨⟨fn, hfn, hbody, hname⟩, hcalls⟩ := hdc
 have hc := hcalls w (labC lab pl (RO)) (c.args.toList.map a.eval ++ us) hts (fun k x v hx hv => by simpa using hT k x v hx hv) hfreshc
 have hrun : (execOp a.eval o).run P w = .ok (.enter f ⟨c.args.toList.map a.eval ++ us⟩) w := by
  have hargs : (c.args.map a.eval ++ (⟨us⟩ : Array Value)) = ⟨c.args.toList.map a.eval ++ us⟩ := by apply Array.ext'; simp
  simp only [execOp, hop, resolve, hcal, hfo, Deferred.ofValue, invoke, Sem.run_bind, Sem.run_pure, Result.andThen_ok, Array.empty_append, callFunc, run_program, hfn, hname, Bool.false_eq_true, if_false, hbody, hargs]
 unfold Oper.wp
 rw [hrun]
 show Calls P f _ w _
 refine hc.mono ?_
 rintro en w' ⟨v, labq, rfl, hres, hmuts, hext, hfresh'⟩
 apply hnext
 have hlive : ∀ i ∈ idsL (as ++ caps), ∃ bb, loc i = some bb := by
  intro i hi
  obtain ⟨nd, hnd⟩ := Option.isSome_iff_exists.1 (hliv i hi)
  obtain ⟨b, base, hl, _⟩ := hnw i nd hnd
  exact ⟨_, hl⟩
 obtain ⟨L1, hP1, hS⟩ := thw_sound hthw hres
 obtain ⟨L2, hP2, hL2⟩ := gbAll_sound (w' := w') (labq := labq) hlive hlen hvall muts po2 hgb hmuts
 have hP := hP1.append hP2
 obtain ⟨labc, hlabc⟩ : ∃ l, l = labC lab pl (RO) := ⟨_, rfl⟩
 rw [← hlabc] at hext
 have hz := hext.size
 have c1 : ∀ b, lab b = none → labc b = none := fun b h => by rw [hlabc]; exact labC_none h
 have c2 : ∀ b, labc b = none → lab b = none ∨ ∃ id p, lab b = some (.obj id, p) ∧ id ∈ RO := by
  intro b h
  rw [hlabc] at h
  unfold labC at h
  split at h
  ·rename_i id p hl
   split at h
   ·cases h
   ·split at h
    ·rename_i hin; exact Or.inr ⟨id, p, hl, hin⟩
    ·cases h
  ·rename_i hl; exact Or.inl hl
  ·cases h
 have c3 : ∀ b id p, lab b = some (.obj id, p) → look id pl = none → labc b = none ∨ labc b = some (.tmp, []) := by
  intro b id p hl hp
  rw [hlabc]
  simp only [labC, hl, hp]
  split
  ·exact Or.inl rfl
  ·exact Or.inr rfl
 have c4 : ∀ b, still (lab b) → (lab b = none ∧ labc b = none) ∨ labc b = some (.tmp, []) := by
  intro b h
  cases hl : lab b with
  | none => exact Or.inl ⟨rfl, c1 b hl⟩
  | some l =>
   obtain ⟨r, p⟩ := l
   rw [hl] at h
   cases r with
   | tmp => right; rw [hlabc]; simp [labC, hl]
   | _ => exact h.elim
 have htmp : ∀ b, isTmp (labc b) = true → still (labc b) := by
  intro b h
  cases hl : labc b with
  | none => trivial
  | some l => obtain ⟨r, p⟩ := l; rw [hl] at h; cases r <;> first | trivial | (simp [isTmp] at h)
 obtain ⟨lab', hlab'⟩ : ∃ l, l = labB w lab labc labq (po1 ++ po2) := ⟨_, rfl⟩
 obtain ⟨loc', hloc'⟩ : ∃ l, l = locB loc (L1 ++ L2) pl := ⟨_, rfl⟩
 have b1 : ∀ b, b < w.heap.size → isTmp (labc b) = true → lab' b = lab b := by
  intro b hb ht; rw [hlab']; simp only [labB]; rw [if_pos ⟨hb, ht⟩]
 have b2 : ∀ b, b < w.heap.size → labc b = none → lab' b = lab b := by
  intro b hb hc
  have hq : labq b = none := by rw [(hext.kept b hb (by rw [hc]; trivial)).1, hc]
  rw [hlab']; simp only [labB]
  rw [if_neg (by rw [hc]; simp [isTmp]), hq]
  simp [hb, hc]
 have b3 : ∀ b, labq b = none → RO = [] → lab' b = none := by
  intro b hq hro0
  rw [hlab']; simp only [labB]
  rw [if_neg, hq]
  ·simp only
   split
   ·rename_i hh
    obtain ⟨hb, hc⟩ := hh
    rw [Option.isNone_iff_eq_none] at hc
    rcases c2 b hc with h | ⟨id, p, _, hin⟩
    ·exact h
    ·rw [hro0] at hin; cases hin
   ·rfl
  ·rintro ⟨hb, ht⟩
   have := (hext.kept b hb (htmp b ht)).1
   rw [← this, hq] at ht
   simp [isTmp] at ht
 have b4 : ∀ e ∈ po1 ++ po2, ∀ b q, labq b = some (e.1.app q) → lab' b = some (.obj e.2.1, q) := by
  intro e he b q hq
  rw [hlab']; simp only [labB]
  rw [if_neg, hq]
  ·simp only [Lab.app]; exact findP_mem hap he q
  ·rintro ⟨hb, ht⟩
   have h1 := (hext.kept b hb (htmp b ht)).1
   rw [← h1, hq] at ht
   have hr := hroot e he
   simp only [Lab.app, isTmp] at ht
   split at ht
   ·rename_i hh
    simp only [Option.some.injEq, Prod.mk.injEq] at hh
    simp [hh.1] at hr
   ·cases ht
 have hext' : Ext lab w lab' w' := by
  refine ⟨hext.size, hext.os, hext.out, ?_, hext.blk⟩
  intro b hb hs
  rcases c4 b hs with ⟨h1, h2⟩ | h1
  ·exact ⟨b2 b hb h2, (hext.kept b hb (by rw [h2]; trivial)).2⟩
  ·exact ⟨b1 b hb (by rw [h1]; rfl), (hext.kept b hb (by rw [h1]; trivial)).2⟩
 have l1 : ∀ l ∈ L1 ++ L2, loc' l.1 = some l.2 := by
  intro l hl
  rw [hloc']; simp only [locB]
  rw [look_places hP hnodup hl]
 have l2 : ∀ i, look i (L1 ++ L2) = none → look i pl = none → loc' i = loc i := by
  intro i h1 h2; rw [hloc']; simp [locB, h1, h2]
 have l3 : ∀ i, look i (L1 ++ L2) = none → (look i pl).isSome = true → loc' i = none := by
  intro i h1 h2; rw [hloc']; simp [locB, h1, h2]
 have hL : ∀ i, i ∉ (po1 ++ po2).map (·.2.1) → look i (L1 ++ L2) = none := by
  intro i hi
  cases hl : look i (L1 ++ L2) with
  | none => rfl
  | some bb =>
   obtain ⟨e, he, h1, _⟩ := look_L_mem hP hl
   exact absurd (List.mem_map.2 ⟨e, he, h1⟩) hi
 have u1 : ∀ i, look i (((po1 ++ po2).map fun e => (e.2.1, some e.2.2)) ++ pl.map fun e => (e.1, (none : Option Node))) = none → i ∉ (po1 ++ po2).map (·.2.1) ∧ look i pl = none := by
  intro i hi
  rw [look_append] at hi
  constructor
  ·intro hm
   obtain ⟨x, hx⟩ := look_map_some (l := (po1 ++ po2).map fun e => (e.2.1, some e.2.2)) (i := i) (by simpa [List.map_map, Function.comp] using hm)
   rw [hx] at hi; simp at hi
  ·cases hp : look i pl with
   | none => rfl
   | some y =>
    obtain ⟨x, hx⟩ := look_map_some (l := pl.map fun e => (e.1, (none : Option Node))) (i := i) (by
     have := look_mem hp
     simp only [List.map_map, List.mem_map, Function.comp]
     exact ⟨(i, y), this, rfl⟩)
    rw [hx] at hi; simp at hi
 have u2 : ∀ i nd, look i (((po1 ++ po2).map fun e => (e.2.1, some e.2.2)) ++ pl.map fun e => (e.1, (none : Option Node))) = some (some nd) → ∃ e ∈ po1 ++ po2, e.2.1 = i ∧ e.2.2 = nd := by
  intro i nd hi
  have := look_mem hi
  rcases List.mem_append.1 this with h | h
  ·obtain ⟨e, he, h2⟩ := List.mem_map.1 h
   simp only [Prod.mk.injEq, Option.some.injEq] at h2
   exact ⟨e, he, h2.1, h2.2⟩
  ·obtain ⟨e, _, h2⟩ := List.mem_map.1 h
   simp at h2
 have u3 : ∀ i, look i (((po1 ++ po2).map fun e => (e.2.1, some e.2.2)) ++ pl.map fun e => (e.1, (none : Option Node))) = some none → i ∉ (po1 ++ po2).map (·.2.1) ∧ (look i pl).isSome = true := by
  intro i hi
  rw [look_append] at hi
  cases hA : look i ((po1 ++ po2).map fun e => (e.2.1, some e.2.2)) with
  | some y =>
   rw [hA] at hi; simp at hi; subst hi
   obtain ⟨e, _, h2⟩ := List.mem_map.1 (look_mem hA)
   simp at h2
  | none =>
   rw [hA] at hi
   constructor
   ·intro hm
    obtain ⟨x, hx⟩ := look_map_some (l := (po1 ++ po2).map fun e => (e.2.1, some e.2.2)) (i := i) (by simpa [List.map_map, Function.comp] using hm)
    rw [hx] at hA; cases hA
   ·simp only [Option.none_or] at hi
    obtain ⟨e, he, h2⟩ := List.mem_map.1 (look_mem hi)
    simp only [Prod.mk.injEq, and_true] at h2
    rw [← h2, hpl e he]; rfl
 refine ⟨lab', loc', hR.step _ (put_size _ _ _) (by rw [put_defers]; exact hR.defers) hext' ?_ ?_ ?_ ?_ ?_ ?_ ?_⟩
 ·intro s hs
  exact put_other a v (look_wrD_none hs)
 ·intro s y hs
  obtain ⟨hds, rfl⟩ := look_wrD_some hs
  rw [hds, put_same a v (by rw [hR.size]; exact dstOk_lt hdst hn s hds)]
  refine hS lab' loc' ?_ (fun l hl => l1 l (List.mem_append_left _ hl))
  rcases hown with h | h
  ·exact Or.inr fun b _ hq => b3 b hq h
  ·exact Or.inl h.1
 ·intro i nd b base hi hu hl
  obtain ⟨h1, h2⟩ := u1 i hu
  refine ⟨by rw [l2 i (hL i h1) h2]; exact hl, fun b' q hb' hq => ?_⟩
  rcases c3 b' i q hq h2 with h3 | h3
  ·exact ⟨b2 b' hb' h3, (hext.kept b' hb' (by rw [h3]; trivial)).2⟩
  ·exact ⟨b1 b' hb' (by rw [h3]; rfl), (hext.kept b' hb' (by rw [h3]; trivial)).2⟩
 ·intro i nd hu
  obtain ⟨e, he, rfl, rfl⟩ := u2 i nd hu
  obtain ⟨l, hl, h1, h2⟩ := places_of_mem hP he
  refine ⟨l.2.1, l.2.2, by rw [← h1]; exact l1 l hl, b4 e he _ [] (by rw [Lab.app_nil]; exact h2.hlab), h2.blk, h2.es, ?_⟩
  intro i c j y hi hj
  obtain ⟨v, hv, hT⟩ := h2.cells i c j y hi hj
  refine ⟨v, hv, Or.inr (hT.relab ?_ ?_)⟩
  ·rcases hown with h | ⟨_, h⟩
   ·exact Or.inr fun b _ hq => b3 b hq h
   ·left
    have := h e he
    rw [owndLL_eq, List.all_eq_true] at this
    have := this c (List.mem_of_getElem? hi)
    rw [List.all_eq_true] at this
    exact this y (List.mem_of_getElem? hj)
  ·intro b q _ hq
   rw [Lab.down_app] at hq
   exact b4 e he b _ hq
 ·intro i hi
  rcases hi with hi | ⟨hi, ho⟩
  ·obtain ⟨h1, h2⟩ := u3 i hi
   exact l3 i (hL i h1) h2
  ·obtain ⟨h1, h2⟩ := u1 i hi
   rw [l2 i (hL i h1) h2]
   exact hR.dead i ho
 ·intro b hb
  rw [hlab'] at hb
  simp only [labB] at hb
  split at hb
  ·rename_i hh; exact Nat.lt_of_lt_of_le hh.1 hz
  ·split at hb
   ·rename_i r q hq
    exact hfresh' b (by rw [hq]; simp)
   ·split at hb
    ·rename_i hh; exact Nat.lt_of_lt_of_le hh.1 hz
    ·exact absurd rfl hb
 ·intro i hi b base hl
  cases hlk : look i (L1 ++ L2) with
  | some bb =>
   have hm := look_mem hlk
   have h1 := l1 _ hm
   simp only at h1
   rw [hl] at h1; cases h1
   rcases List.mem_append.1 hm with hm | hm
   ·exfalso
    obtain ⟨k, hk⟩ := List.mem_iff_getElem?.1 hm
    have hk' : k < po1.length := by rw [← hP1.1]; exact (List.getElem?_eq_some_iff.1 hk).1
    have := (hP1.2 k po1[k] _ (List.getElem?_eq_getElem hk') hk).1
    exact (hnew' po1[k] (List.getElem_mem hk')).2 (by rw [← this]; exact hi)
   ·exact hL2 _ hm
  | none =>
   cases hp : look i pl with
   | none => rw [l2 i hlk hp] at hl; exact hl
   | some y => rw [l3 i hlk (by rw [hp]; rfl)] at hl; cases hl
end snd
end Go.AM
namespace Go.AM
def keys {α : Type} (l : List (Nat × α)) : List Nat := l.map (·.1)
def away (a b : List Nat) : Bool := a.all fun x => !b.contains x
theorem away_iff {a b : List Nat} : away a b = true ↔ ∀ x ∈ a, x ∉ b := by
 simp [away]
def Eff.outIds (e : Eff) : List Nat := slotIds e.wr ++ objIds e.up
def hasS (i : Nat) : List (Nat × Option Node) → Bool
 | [] => false
 | (j, some _) :: r => i == j || hasS i r
 | (_, none) :: r => hasS i r
def brkL (ob : List (Nat × Option Node)) : List (Nat × Option Node) → List Nat
 | [] => []
 | (i, none) :: r => i :: brkL ob r
 | (i, some _) :: r => cond (hasS i ob) (brkL ob r) (i :: brkL ob r)
theorem hasS_mem {i : Nat} : ∀ {l : List (Nat × Option Node)}, hasS i l = true → ∃ nd, (i, some nd) ∈ l
 | [], h => by cases h
 | (j, some nd) :: r, h => by
  simp only [hasS, Bool.or_eq_true, beq_iff_eq] at h
  rcases h with rfl | h
  ·exact ⟨nd, List.mem_cons_self⟩
  ·obtain ⟨n, hn⟩ := hasS_mem h; exact ⟨n, List.mem_cons_of_mem _ hn⟩
 | (_, none) :: r, h => by
  obtain ⟨n, hn⟩ := hasS_mem (l := r) h; exact ⟨n, List.mem_cons_of_mem _ hn⟩
theorem brkL_mem {ob : List (Nat × Option Node)} {i : Nat} {x : Option Node} : ∀ {up : List (Nat × Option Node)}, i ∉ brkL ob up → (i, x) ∈ up → (∃ nd, x = some nd) ∧ hasS i ob = true
 | [], _, h => by cases h
 | (j, none) :: r, h, hm => by
  simp only [brkL, List.mem_cons, not_or] at h
  rcases List.mem_cons.1 hm with e | e
  ·cases e; exact absurd rfl h.1
  ·exact brkL_mem h.2 e
 | (j, some nd) :: r, h, hm => by
  simp only [brkL] at h
  cases h1 : hasS j ob with
  | true =>
   rw [h1] at h
   rcases List.mem_cons.1 hm with e | e
   ·cases e; exact ⟨⟨nd, rfl⟩, h1⟩
   ·exact brkL_mem h e
  | false =>
   rw [h1] at h
   rcases List.mem_cons.1 hm with e | e
   ·cases e; exact absurd List.mem_cons_self h
   ·exact brkL_mem (fun hh => h (List.mem_cons_of_mem _ hh)) e
theorem brk_ok {e : Eff} {st : St} (he : e.pre st) {i : Nat} (h : i ∉ brkL e.ob e.up) : ((e.apply st).obj i).isSome = (st.obj i).isSome := by
 rw [obj_apply]
 cases hl : look i e.up with
 | none => rfl
 | some x =>
  obtain ⟨⟨nd, rfl⟩, h2⟩ := brkL_mem h (look_mem hl)
  obtain ⟨n2, h3⟩ := hasS_mem h2
  rw [he.2.1 _ h3]; rfl
def indepB (e f : Eff) : Bool :=
 away (keys e.wr) (keys f.rd) && away (keys e.wr) (keys f.wr) && away (keys f.wr) (keys e.rd) &&
 away (keys e.up) (keys f.ob) && away (keys e.up) (keys f.up) && away (keys f.up) (keys e.ob) &&
 (match e.new with | [] => true | n => away n f.outIds) && (match f.new with | [] => true | n => away n e.outIds) && (away f.ex (brkL e.ob e.up) && away e.ex (brkL f.ob f.up))
structure Indep (e f : Eff) : Prop where
 wr : ∀ s, s ∈ keys e.wr → s ∉ keys f.rd ∧ s ∉ keys f.wr
 rw : ∀ s, s ∈ keys f.wr → s ∉ keys e.rd
 up : ∀ i, i ∈ keys e.up → i ∉ keys f.ob ∧ i ∉ keys f.up
 ob : ∀ i, i ∈ keys f.up → i ∉ keys e.ob
 n1 : ∀ i, i ∈ e.new → i ∉ f.outIds
 n2 : ∀ i, i ∈ f.new → i ∉ e.outIds
 x1 : ∀ i, i ∈ f.ex → i ∉ brkL e.ob e.up
 x2 : ∀ i, i ∈ e.ex → i ∉ brkL f.ob f.up
theorem indepB_sound {e f : Eff} (h : indepB e f = true) : Indep e f := by
 simp only [indepB, Bool.and_eq_true, away_iff] at h
 obtain ⟨⟨⟨⟨⟨⟨⟨⟨h1, h2⟩, h3⟩, h4⟩, h5⟩, h6⟩, h7⟩, h8⟩, h9, h10⟩ := h
 refine ⟨fun s hs => ⟨h1 s hs, h2 s hs⟩, h3, fun s hs => ⟨h4 s hs, h5 s hs⟩, h6, ?_, ?_, h9, h10⟩
 ·intro i hi
  split at h7
  ·rename_i hn; rw [hn] at hi; cases hi
  ·exact away_iff.1 h7 i hi
 ·intro i hi
  split at h8
  ·rename_i hn; rw [hn] at hi; cases hi
  ·exact away_iff.1 h8 i hi
theorem mem_keys {α : Type} {l : List (Nat × α)} {p : Nat × α} (h : p ∈ l) : p.1 ∈ keys l := List.mem_map_of_mem h
theorem look_keys {α : Type} {l : List (Nat × α)} {k : Nat} (h : k ∉ keys l) : look k l = none := look_none h
theorem look_keys' {α : Type} {l : List (Nat × α)} {k : Nat} {x : α} (h : look k l = some x) : k ∈ keys l := mem_keys (look_mem h)
theorem ids_apply (e : Eff) (st : St) (i : Nat) : i ∈ (e.apply st).ids ↔ i ∈ e.outIds ∨ i ∈ st.ids := by
 simp only [St.ids, Eff.apply, Eff.outIds, slotIds, objIds, List.flatMap_append, List.mem_append]
 constructor
 ·rintro ((h | h) | (h | h))
  ·exact .inl (.inl h)
  ·exact .inr (.inl h)
  ·exact .inl (.inr h)
  ·exact .inr (.inr h)
 ·rintro ((h | h) | (h | h))
  ·exact .inl (.inl h)
  ·exact .inr (.inl h)
  ·exact .inl (.inr h)
  ·exact .inr (.inr h)
theorem Indep.swap {e f : Eff} (h : Indep e f) {st : St} (he : e.pre st) (hf : f.pre (e.apply st)) :
  f.pre st ∧ e.pre (f.apply st) ∧ St.Alike (f.apply (e.apply st)) (e.apply (f.apply st)) := by
 have hf0 : f.pre st := by
  refine ⟨?_, ?_, ?_, fun i hi => by rw [← brk_ok he (h.x1 i hi)]; exact hf.2.2.2 i hi⟩
  ·intro p hp
   have := hf.1 p hp
   rw [slot_apply, look_keys (fun hk => (h.wr _ hk).1 (mem_keys hp))] at this
   simpa using this
  ·intro p hp
   have := hf.2.1 p hp
   rw [obj_apply, look_keys (fun hk => (h.up _ hk).1 (mem_keys hp))] at this
   exact this
  ·intro i hi hin
   exact hf.2.2.1 i hi ((ids_apply e st i).2 (.inr hin))
 refine ⟨hf0, ⟨?_, ?_, ?_, fun i hi => by rw [brk_ok hf0 (h.x2 i hi)]; exact he.2.2.2 i hi⟩, ?_⟩
 ·intro p hp
  rw [slot_apply, look_keys (fun hk => h.rw _ hk (mem_keys hp))]
  simpa using he.1 p hp
 ·intro p hp
  rw [obj_apply, look_keys (fun hk => h.ob _ hk (mem_keys hp))]
  exact he.2.1 p hp
 ·intro i hi hin
  rcases (ids_apply f st i).1 hin with h1 | h1
  ·exact h.n1 i hi h1
  ·exact he.2.2.1 i hi h1
 ·refine ⟨rfl, ?_, ?_, ?_⟩
  ·intro s
   simp only [slot_apply]
   cases h1 : look s e.wr with
   | none => simp
   | some x =>
    have := (h.wr s (look_keys' h1)).2
    rw [look_keys this]; simp
  ·intro i
   simp only [obj_apply]
   cases h1 : look i e.up with
   | none => rfl
   | some x =>
    have := (h.up i (look_keys' h1)).2
    rw [look_keys this]
  ·intro i
   simp only [ids_apply]
   constructor
   ·rintro (h | h | h)
    ·exact .inr (.inl h)
    ·exact .inl h
    ·exact .inr (.inr h)
   ·rintro (h | h | h)
    ·exact .inr (.inl h)
    ·exact .inl h
    ·exact .inr (.inr h)
theorem St.Alike.refl (st : St) : St.Alike st st := ⟨rfl, fun _ => rfl, fun _ => rfl, fun _ => Iff.rfl⟩
theorem St.Alike.trans {a b c : St} (h : St.Alike a b) (h' : St.Alike b c) : St.Alike a c :=
 ⟨h'.n.trans h.n, fun s => (h'.slot s).trans (h.slot s), fun i => (h'.obj i).trans (h.obj i), fun i => (h'.ids i).trans (h.ids i)⟩
theorem St.Alike.symm {a b : St} (h : St.Alike a b) : St.Alike b a :=
 ⟨h.n.symm, fun s => (h.slot s).symm, fun i => (h.obj i).symm, fun i => (h.ids i).symm⟩
theorem St.Alike.pre {a b : St} (h : St.Alike a b) {e : Eff} (he : e.pre a) : e.pre b :=
 ⟨fun p hp => by rw [h.slot]; exact he.1 p hp, fun p hp => by rw [h.obj]; exact he.2.1 p hp, fun i hi hin => he.2.2.1 i hi ((h.ids i).1 hin), fun i hi => by rw [h.obj]; exact he.2.2.2 i hi⟩
theorem St.Alike.apply {a b : St} (h : St.Alike a b) (e : Eff) : St.Alike (e.apply a) (e.apply b) :=
 ⟨h.n, fun s => by simp only [slot_apply, h.slot], fun i => by simp only [obj_apply, h.obj], fun i => by simp only [ids_apply, h.ids]⟩
def SoundI (P : Program) (w0 : World) (lab0 : Labs) (ops : Array Oper) (n : Nat) (i : Nat) (e : Eff) : Prop :=
 ∀ st a w, st.n = n → e.pre st → Rep w0 lab0 st a w → ∀ (rest : List Nat) (Q : Exit → Act → World → Prop),
  (∀ a' w', Rep w0 lab0 (e.apply st) a' w' → wpOps P ops Q rest a' w') → wpOps P ops Q (i :: rest) a w
def Chain (P : Program) (w0 : World) (lab0 : Labs) (ops : Array Oper) : St → List (Nat × Eff) → St → Prop
 | st, [], st' => st' = st
 | st, (i, e) :: r, st' => e.pre st ∧ SoundI P w0 lab0 ops st.n i e ∧ Chain P w0 lab0 ops (e.apply st) r st'
section
variable {P : Program} {w0 : World} {lab0 : Labs} {ops : Array Oper}
theorem Chain.sound {es : List (Nat × Eff)} {st st' : St} (h : Chain P w0 lab0 ops st es st') {a : Act} {w : World} (hr : Rep w0 lab0 st a w) {Q : Exit → Act → World → Prop}
  (hq : ∀ a' w', Rep w0 lab0 st' a' w' → Q .normal a' w') : wpOps P ops Q (es.map (·.1)) a w := by
 induction es generalizing st a w with
 | nil => simp only [Chain] at h; subst h; exact hq _ _ hr
 | cons p es ih =>
  obtain ⟨i, e⟩ := p
  obtain ⟨h1, h2, h3⟩ := h
  exact h2 st a w rfl h1 hr _ _ fun a' w' hr' => ih h3 hr'
theorem Chain.alike {es : List (Nat × Eff)} {s s' t : St} (h : Chain P w0 lab0 ops s es s') (ha : St.Alike s t) : ∃ t', Chain P w0 lab0 ops t es t' ∧ St.Alike s' t' := by
 induction es generalizing s t with
 | nil => simp only [Chain] at h; subst h; exact ⟨t, rfl, ha⟩
 | cons p es ih =>
  obtain ⟨i, e⟩ := p
  obtain ⟨h1, h2, h3⟩ := h
  obtain ⟨t', h4, h5⟩ := ih h3 (ha.apply e)
  exact ⟨t', ⟨ha.pre h1, by rw [ha.n]; exact h2, h4⟩, h5⟩
theorem Chain.front {es1 es2 : List (Nat × Eff)} {p : Nat × Eff} {st st' : St} (h : Chain P w0 lab0 ops st (es1 ++ p :: es2) st') (hi : ∀ q ∈ es1, Indep q.2 p.2) :
  ∃ st'', Chain P w0 lab0 ops st (p :: (es1 ++ es2)) st'' ∧ St.Alike st' st'' := by
 induction es1 generalizing st with
 | nil => exact ⟨st', h, .refl _⟩
 | cons q es1 ih =>
  obtain ⟨i, e⟩ := p
  obtain ⟨j, f⟩ := q
  obtain ⟨h1, h2, h3⟩ := h
  obtain ⟨s2, ⟨h4, h5, h6⟩, h7⟩ := ih h3 fun q hq => hi q (List.mem_cons_of_mem _ hq)
  obtain ⟨g1, g2, g3⟩ := (hi (j, f) List.mem_cons_self).swap h1 h4
  obtain ⟨t', h8, h9⟩ := h6.alike g3
  exact ⟨t', ⟨g1, h5, g2, h2, h8⟩, h7.trans h9⟩
inductive Mix : List Nat → List (Nat × Eff) → Prop
 | nil : Mix [] []
 | cons (l : List Nat) (es1 es2 : List (Nat × Eff)) (p : Nat × Eff) (hi : ∀ q ∈ es1, Indep q.2 p.2) (h : Mix l (es1 ++ es2)) : Mix (p.1 :: l) (es1 ++ p :: es2)
theorem Mix.chain {l : List Nat} {es : List (Nat × Eff)} (h : Mix l es) : ∀ {st st' : St}, Chain P w0 lab0 ops st es st' → ∃ es' st'', es'.map (·.1) = l ∧ Chain P w0 lab0 ops st es' st'' ∧ St.Alike st' st'' := by
 induction h with
 | nil => exact fun h => ⟨[], _, rfl, h, .refl _⟩
 | cons l es1 es2 p hi _ ih =>
  intro st st' hc
  obtain ⟨s2, h1, h2⟩ := hc.front hi
  obtain ⟨i, e⟩ := p
  obtain ⟨h3, h4, h5⟩ := h1
  obtain ⟨es', s3, h6, h7, h8⟩ := ih h5
  exact ⟨(i, e) :: es', s3, by simp [h6], ⟨h3, h4, h7⟩, h2.trans h8⟩
end
def maskOf (B : Array Nat) (o : Oper) : Nat := o.after.toList.foldl (fun s e => if Region.binds .any e then s ||| 2 ^ e.on ||| B.getD e.on 0 else s) 0
def masks (ops : Array Oper) : Array Nat := ops.foldl (fun B o => B.push (maskOf B o)) #[]
def pairsOk (B : Array Nat) : List (Nat × Eff) → Bool
 | [] => true
 | p :: r => (r.all fun q => decide (p.1 < q.1) && ((B.getD q.1 0).testBit p.1 || indepB p.2 q.2)) && pairsOk B r
def rankL (l : List Nat) (i : Nat) : Nat := l.findIdx (· == i)
def ordOk (ops : Array Oper) : Bool :=
 ((List.range ops.size).all fun i => match ops[i]? with
  | some o => o.after.toList.all fun e => decide (e.on < i)
  | none => false) ||
 (let g := Region.linearise .gc ops 0
  (List.range ops.size).all fun i => match ops[i]? with
  | some o => o.after.toList.all fun e => decide (e.on < ops.size) && (decide (e.on < i) || !Region.binds .text e && !Region.binds .any e) && (!Region.binds .gc e || decide (rankL g e.on < rankL g i))
  | none => false)
theorem ordOk_rank {ops : Array Oper} (h : ordOk ops = true) (m : Region.Mode) : ∃ rk : Nat → Nat, ∀ i o, ops[i]? = some o → ∀ e ∈ o.after.toList, Region.binds m e = true → e.on < ops.size ∧ rk e.on < rk i := by
 unfold ordOk at h
 rw [Bool.or_eq_true] at h
 rcases h with h | h
 ·refine ⟨id, ?_⟩
  intro i o ho e he _
  have hi : i < ops.size := (Array.getElem?_eq_some_iff.1 ho).1
  have := List.all_eq_true.1 h i (List.mem_range.2 hi)
  rw [ho] at this
  have := List.all_eq_true.1 this e he
  rw [decide_eq_true_eq] at this
  exact ⟨by omega, this⟩
 ·have key : ∀ i o, ops[i]? = some o → ∀ e ∈ o.after.toList, e.on < ops.size ∧ (e.on < i ∨ (Region.binds .text e = false ∧ Region.binds .any e = false)) ∧ (Region.binds .gc e = true → rankL (Region.linearise .gc ops 0) e.on < rankL (Region.linearise .gc ops 0) i) := by
   intro i o ho e he
   have hi : i < ops.size := (Array.getElem?_eq_some_iff.1 ho).1
   have := List.all_eq_true.1 h i (List.mem_range.2 hi)
   rw [ho] at this
   have := List.all_eq_true.1 this e he
   simp only [Bool.and_eq_true, Bool.or_eq_true, decide_eq_true_eq, Bool.not_eq_true'] at this
   refine ⟨this.1.1, this.1.2, fun hb => ?_⟩
   rcases this.2 with h2 | h2
   ·rw [h2] at hb; cases hb
   ·exact h2
  cases m with
  | text =>
   refine ⟨id, fun i o ho e he hb => ⟨(key i o ho e he).1, ?_⟩⟩
   rcases (key i o ho e he).2.1 with h2 | h2
   ·exact h2
   ·rw [h2.1] at hb; cases hb
  | any =>
   refine ⟨id, fun i o ho e he hb => ⟨(key i o ho e he).1, ?_⟩⟩
   rcases (key i o ho e he).2.1 with h2 | h2
   ·exact h2
   ·rw [h2.2] at hb; cases hb
  | gc => exact ⟨_, fun i o ho e he hb => ⟨(key i o ho e he).1, (key i o ho e he).2.2 hb⟩⟩
theorem min_rank {α : Type} (rk : α → Nat) : ∀ (l : List α), l ≠ [] → ∃ x ∈ l, ∀ y ∈ l, rk x ≤ rk y := by
 intro l
 induction l with
 | nil => intro h; exact absurd rfl h
 | cons x l ih =>
  intro _
  by_cases hl : l = []
  ·subst hl; exact ⟨x, List.mem_cons_self, fun y hy => by simp at hy; subst hy; exact Nat.le_refl _⟩
  ·obtain ⟨z, hz, hm⟩ := ih hl
   by_cases h : rk x ≤ rk z
   ·exact ⟨x, List.mem_cons_self, fun y hy => by
     rcases List.mem_cons.1 hy with rfl | hy
     ·exact Nat.le_refl _
     ·exact Nat.le_trans h (hm y hy)⟩
   ·exact ⟨z, List.mem_cons_of_mem _ hz, fun y hy => by
     rcases List.mem_cons.1 hy with rfl | hy
     ·omega
     ·exact hm y hy⟩
def drawOk (ops : Array Oper) (es : List (Nat × Eff)) : Bool :=
 let B := masks ops
 ((List.range ops.size).all fun i => match ops[i]? with
  | some o => decide (B.getD i 0 = maskOf B o)
  | none => false) && ordOk ops && decide (es.map (·.1) = List.range ops.size) && pairsOk B es
structure KE where
 rd : List Nat
 wr : List Nat
 ob : List Nat
 up : List Nat
 new : List Nat
 out : List Nat
 ex : List Nat
 brk : List Nat
def kOf (p : Nat × Eff) : Nat × KE := (p.1, ⟨keys p.2.rd, keys p.2.wr, keys p.2.ob, keys p.2.up, p.2.new, p.2.outIds, p.2.ex, brkL p.2.ob p.2.up⟩)
def indepK (e f : KE) : Bool :=
 away e.wr f.rd && away e.wr f.wr && away f.wr e.rd && away e.up f.ob && away e.up f.up && away f.up e.ob &&
 (match e.new with | [] => true | n => away n f.out) && (match f.new with | [] => true | n => away n e.out) && (away f.ex e.brk && away e.ex f.brk)
def pairsK (B : Array Nat) : List (Nat × KE) → Bool
 | [] => true
 | p :: r => (r.all fun q => decide (p.1 < q.1) && ((B.getD q.1 0).testBit p.1 || indepK p.2 q.2)) && pairsK B r
def drawK (ops : Array Oper) (ks : List (Nat × KE)) : Bool :=
 let B := masks ops
 ((List.range ops.size).all fun i => match ops[i]? with
  | some o => decide (B.getD i 0 = maskOf B o)
  | none => false) && ordOk ops && decide (ks.map (·.1) = List.range ops.size) && pairsK B ks
theorem pairsK_eq (B : Array Nat) (es : List (Nat × Eff)) : pairsK B (es.map kOf) = pairsOk B es := by
 induction es with
 | nil => rfl
 | cons p r ih =>
  simp only [List.map_cons, pairsK, pairsOk, ih, List.all_map]
  rfl
theorem drawK_ok {ops : Array Oper} {es : List (Nat × Eff)} (h : drawK ops (es.map kOf) = true) : drawOk ops es = true := by
 have e : (es.map kOf).map (·.1) = es.map (·.1) := by rw [List.map_map]; rfl
 simp only [drawK, pairsK_eq, e] at h
 exact h
theorem binds_any {m : Region.Mode} {e : Edge} (h : Region.binds .any e = true) : Region.binds m e = true := by
 unfold Region.binds at *
 split at h <;> simp_all
theorem maskOf_bit {B : Array Nat} {o : Oper} {j : Nat} (h : (maskOf B o).testBit j = true) : ∃ e ∈ o.after.toList, Region.binds .any e = true ∧ (j = e.on ∨ (B.getD e.on 0).testBit j = true) := by
 have key : ∀ (l : List Edge) (s : Nat), (l.foldl (fun s e => if Region.binds .any e then s ||| 2 ^ e.on ||| B.getD e.on 0 else s) s).testBit j = true → s.testBit j = true ∨ ∃ e ∈ l, Region.binds .any e = true ∧ (j = e.on ∨ (B.getD e.on 0).testBit j = true) := by
  intro l
  induction l with
  | nil => intro s h; exact .inl h
  | cons e l ih =>
   intro s h
   rw [List.foldl_cons] at h
   rcases ih _ h with h | ⟨e', he', h1, h2⟩
   ·by_cases hb : Region.binds .any e = true
    ·rw [if_pos hb] at h
     rw [Nat.testBit_or, Nat.testBit_or, Nat.testBit_two_pow, Bool.or_eq_true, Bool.or_eq_true] at h
     rcases h with (h | h) | h
     ·exact .inl h
     ·exact .inr ⟨e, List.mem_cons_self, hb, .inl (by simpa using (of_decide_eq_true h).symm)⟩
     ·exact .inr ⟨e, List.mem_cons_self, hb, .inr h⟩
    ·rw [if_neg hb] at h; exact .inl h
   ·exact .inr ⟨e', List.mem_cons_of_mem _ he', h1, h2⟩
 rcases key _ _ h with h | h
 ·simp at h
 ·exact h
theorem pairsOk_pw {B : Array Nat} {es : List (Nat × Eff)} (h : pairsOk B es = true) : es.Pairwise fun p q => p.1 < q.1 ∧ ((B.getD q.1 0).testBit p.1 = true ∨ Indep p.2 q.2) := by
 induction es with
 | nil => exact .nil
 | cons p r ih =>
  simp only [pairsOk, Bool.and_eq_true, List.all_eq_true] at h
  refine .cons ?_ (ih h.2)
  intro q hq
  have := h.1 q hq
  simp only [Bool.or_eq_true, decide_eq_true_eq] at this
  exact ⟨this.1, this.2.imp id indepB_sound⟩
theorem lin_go {m : Region.Mode} {ops : Array Oper} {B : Array Nat} (hB : ∀ i o, ops[i]? = some o → B.getD i 0 = maskOf B o) {rk : Nat → Nat} (hrk : ∀ i o, ops[i]? = some o → ∀ e ∈ o.after.toList, Region.binds m e = true → e.on < ops.size ∧ rk e.on < rk i) :
  ∀ (fuel t : Nat) (listed : Array Bool) (acc : List Nat) (rem : List (Nat × Eff)), listed.size = ops.size →
   rem.Pairwise (fun p q => p.1 < q.1 ∧ ((B.getD q.1 0).testBit p.1 = true ∨ Indep p.2 q.2)) →
   (∀ i, i ∈ rem.map (·.1) ↔ i < ops.size ∧ listed.getD i true = false) →
   (∀ i, listed.getD i false = true → ∀ j, (B.getD i 0).testBit j = true → listed.getD j false = true) → rem.length ≤ fuel →
   ∃ l, Region.linearise.go m ops fuel t listed acc = acc.reverse ++ l ∧ Mix l rem := by
 intro fuel
 induction fuel with
 | zero =>
  intro t listed acc rem _ _ _ _ hf
  have : rem = [] := List.length_eq_zero_iff.1 (Nat.le_zero.1 hf)
  subst this
  exact ⟨[], by simp [Region.linearise.go], .nil⟩
 | succ fuel ih =>
  intro t listed acc rem hsz hpw hmem hcl hf
  rw [Region.linearise.go]
  generalize hrs : ((List.range ops.size).filter fun i => !listed.getD i true && ((ops[i]?).map (·.after.all fun e => !Region.binds m e || listed.getD e.on false)).getD false) = rs
  have hrs' : ∀ i, i ∈ rs ↔ i < ops.size ∧ listed.getD i true = false ∧ ∀ o, ops[i]? = some o → ∀ e ∈ o.after.toList, Region.binds m e = true → listed.getD e.on false = true := by
   intro i
   rw [← hrs, List.mem_filter, List.mem_range]
   constructor
   ·rintro ⟨h1, h2⟩
    rw [Bool.and_eq_true] at h2
    refine ⟨h1, by simpa using h2.1, ?_⟩
    intro o ho e he hb
    have h3 := h2.2
    rw [ho] at h3
    simp only [Option.map_some, Option.getD_some, Array.all_eq_true_iff_forall_mem] at h3
    have := h3 e (by simpa using he)
    rw [hb] at this
    simpa using this
   ·rintro ⟨h1, h2, h3⟩
    refine ⟨h1, ?_⟩
    rw [Bool.and_eq_true]
    refine ⟨by simpa using h2, ?_⟩
    rw [Array.getElem?_eq_getElem h1]
    simp only [Option.map_some, Option.getD_some, Array.all_eq_true_iff_forall_mem]
    intro e he
    cases hb : Region.binds m e with
    | false => rfl
    | true => simpa using h3 _ (Array.getElem?_eq_getElem h1) e (by simpa using he) hb
  cases hr : rs[t % rs.length]? with
  | none =>
   have hz : rs.length = 0 := by
    rcases Nat.eq_zero_or_pos rs.length with h | h
    ·exact h
    ·rw [List.getElem?_eq_getElem (Nat.mod_lt _ h)] at hr; cases hr
   have hz' : rs = [] := List.length_eq_zero_iff.1 hz
   have hrem : rem = [] := by
    apply Classical.byContradiction
    intro hne
    obtain ⟨p, hpm, hmin⟩ := min_rank (fun q : Nat × Eff => rk q.1) rem hne
    have hp := (hmem p.1).1 (List.mem_map_of_mem hpm)
    have : p.1 ∈ rs := by
     rw [hrs']
     refine ⟨hp.1, hp.2, ?_⟩
     intro o ho e he hb
     obtain ⟨hsz1, hlt⟩ := hrk _ _ ho e he hb
     cases hl : listed.getD e.on false with
     | true => rfl
     | false =>
      exfalso
      have hls : e.on < listed.size := by rw [hsz]; omega
      have h1 : e.on ∈ rem.map (·.1) := (hmem e.on).2 ⟨by omega, by rw [← hl]; simp [hls]⟩
      obtain ⟨q, hq, hq2⟩ := List.mem_map.1 h1
      have := hmin q hq
      simp only [hq2] at this
      omega
    rw [hz'] at this; cases this
   subst hrem
   exact ⟨[], by simp, .nil⟩
  | some i =>
   have hi : i ∈ rs := List.mem_of_getElem? hr
   obtain ⟨hin, hil, hie⟩ := (hrs' i).1 hi
   obtain ⟨p, hp, hpi⟩ := List.mem_map.1 ((hmem i).2 ⟨hin, hil⟩)
   obtain ⟨es1, es2, hrem⟩ := List.append_of_mem hp
   subst hpi
   subst hrem
   have hanc : ∀ j, (B.getD p.1 0).testBit j = true → listed.getD j false = true := by
    intro j hj
    have ho := Array.getElem?_eq_getElem hin
    rw [hB _ _ ho] at hj
    obtain ⟨e, he, hb, h | h⟩ := maskOf_bit hj
    ·rw [h]; exact hie _ ho e he (binds_any hb)
    ·exact hcl _ (hie _ ho e he (binds_any hb)) j h
   have hsub : (es1 ++ es2).Sublist (es1 ++ p :: es2) := List.Sublist.append_left (List.sublist_cons_self _ _) _
   have hne : ∀ q ∈ es1 ++ es2, q.1 ≠ p.1 := by
    intro q hq
    rcases List.mem_append.1 hq with hq | hq
    ·have := ((List.pairwise_append.1 hpw).2.2 q hq p List.mem_cons_self).1
     omega
    ·have := ((List.pairwise_cons.1 (List.pairwise_append.1 hpw).2.1).1 q hq).1
     omega
   have hset : ∀ j d, (listed.setIfInBounds p.1 true).getD j d = if j = p.1 then true else listed.getD j d := by
    intro j d
    have hls : p.1 < listed.size := by rw [hsz]; exact hin
    simp only [Array.getD_eq_getD_getElem?, Array.getElem?_setIfInBounds]
    by_cases h : p.1 = j
    ·subst h; simp [hls]
    ·rw [if_neg h, if_neg (fun e => h e.symm)]
   obtain ⟨l, hl, hm⟩ := ih (t / rs.length) (listed.setIfInBounds p.1 true) (p.1 :: acc) (es1 ++ es2) (by simp [hsz]) (hpw.sublist hsub) (by
    intro j
    rw [hset]
    constructor
    ·intro hj
     obtain ⟨q, hq, rfl⟩ := List.mem_map.1 hj
     have := (hmem q.1).1 (List.mem_map_of_mem (hsub.subset hq))
     exact ⟨this.1, by rw [if_neg (hne q hq)]; exact this.2⟩
    ·rintro ⟨h1, h2⟩
     split at h2
     ·cases h2
     ·rename_i hjp
      obtain ⟨q, hq, hqj⟩ := List.mem_map.1 ((hmem j).2 ⟨h1, h2⟩)
      refine List.mem_map.2 ⟨q, ?_, hqj⟩
      rcases List.mem_append.1 hq with h | h
      ·exact List.mem_append_left _ h
      ·rcases List.mem_cons.1 h with rfl | h
       ·exact absurd hqj.symm hjp
       ·exact List.mem_append_right _ h) (by
    intro j hj k hk
    rw [hset] at hj ⊢
    split
    ·rfl
    ·split at hj
     ·rename_i h1; subst h1; exact hanc k hk
     ·exact hcl j hj k hk) (by simp at hf ⊢; omega)
   refine ⟨p.1 :: l, by simp only [hl]; simp, .cons l es1 es2 p ?_ hm⟩
   intro q hq
   rcases ((List.pairwise_append.1 hpw).2.2 q hq p List.mem_cons_self).2 with h | h
   ·exfalso
    have h1 := hanc _ h
    have h2 := (hmem q.1).1 (List.mem_map_of_mem (List.mem_append_left _ hq))
    have hls : q.1 < listed.size := by rw [hsz]; exact h2.1
    have h3 := h2.2
    simp [hls] at h1 h3
    rw [h1] at h3; cases h3
   ·exact h
theorem drawOk_mix {ops : Array Oper} {es : List (Nat × Eff)} (h : drawOk ops es = true) (mixed : Bool) (t : Nat) : Mix (Region.schedule mixed ops t) es := by
 simp only [drawOk, Bool.and_eq_true, List.all_eq_true, decide_eq_true_eq] at h
 obtain ⟨⟨⟨h1, h0⟩, h2⟩, h3⟩ := h
 have hB : ∀ i o, ops[i]? = some o → (masks ops).getD i 0 = maskOf (masks ops) o := by
  intro i o ho
  have hi : i < ops.size := (Array.getElem?_eq_some_iff.1 ho).1
  have := h1 i (List.mem_range.2 hi)
  rw [ho] at this
  simpa using this
 have key : ∀ m t, Mix (Region.linearise m ops t) es := by
  intro m t
  obtain ⟨rk, hrk⟩ := ordOk_rank h0 m
  obtain ⟨l, hl, hm⟩ := lin_go (m := m) hB hrk ops.size t (Array.replicate ops.size false) [] es (by simp) (pairsOk_pw h3) (by
   intro i
   rw [h2, List.mem_range]
   constructor
   ·intro h; exact ⟨h, by simp [h]⟩
   ·exact fun h => h.1) (by
   intro i hi
   simp only [Array.getD_eq_getD_getElem?, Array.getElem?_replicate] at hi
   split at hi <;> simp at hi) (by
   have := congrArg List.length h2
   simp at this; omega)
  rw [Region.linearise, hl]
  exact hm
 unfold Region.schedule
 split
 ·exact key _ _
 ·exact key _ _
end Go.AM
namespace Go.AM
inductive Dep.{u} {α : Sort u} (x : α) : Type | mk
def Way (b want : Bool) (A B : Prop) (_ : Dep A) (_ : Dep B) : Prop := (b = want → A) ∧ (b = (!want) → B)
theorem Way_tt {A B : Prop} {dA : Dep A} {dB : Dep B} : Way true true A B dA dB = A := by simp [Way]
theorem Way_ff {A B : Prop} {dA : Dep A} {dB : Dep B} : Way false false A B dA dB = A := by simp [Way]
theorem Way_tf {A B : Prop} {dA : Dep A} {dB : Dep B} : Way true false A B dA dB = B := by simp [Way]
theorem Way_ft {A B : Prop} {dA : Dep A} {dB : Dep B} : Way false true A B dA dB = B := by simp [Way]
theorem Way_t {b : Bool} {A B : Prop} {dA : Dep A} {dB : Dep B} : Way b true A B dA dB = ((b = true → A) ∧ (b = false → B)) := by simp [Way]
theorem Way_f {b : Bool} {A B : Prop} {dA : Dep A} {dB : Dep B} : Way b false A B dA dB = ((b = false → A) ∧ (b = true → B)) := by simp [Way]
def CallK (P : Program) (o : Oper) (st : St) (ow : List Nat) (ci : CallIn) (vs : List AV) (k : Eff → Prop) (_ : Dep k) : Prop :=
 ∃ res muts, DC P ci.f ci.ts res muts ∧ ci.ok ∧ match callOut st o ow ci vs res muts with
  | some (e, ok) => ok ∧ k e
  | none => False
theorem CallK.intro {P : Program} {o : Oper} {st : St} {ow : List Nat} {ci : CallIn} {vs : List AV} {k : Eff → Prop} {d : Dep k} {res : AV} {muts : List (Nat × AV)} (h : DC P ci.f ci.ts res muts)
  (h2 : ci.ok ∧ match callOut st o ow ci vs res muts with
   | some (e, ok) => ok ∧ k e
   | none => False) : CallK P o st ow ci vs k d := ⟨res, muts, h, h2⟩
def opRun (P : Program) (ti : TI) (ow : List Nat) (o : Oper) (st : St) (id : Nat) (k : Eff → Prop) (_ : Dep k) : Prop :=
 match o.op with
 | .pick c a b => match opA st c with
  | some (.bool t) => dstOk st o.dst = true ∧
   Way t true (match opA st a with | some x => k { rd := rdOf st [c, a], wr := wrD o.dst x } | none => False)
    (match opA st b with | some x => k { rd := rdOf st [c, b], wr := wrD o.dst x } | none => False) .mk .mk
  | _ => False
 | _ => match callIn st o ow with
  | some ci => match evs st o.op.operands.toList with
   | some vs => CallK P o st ow ci vs k .mk
   | none => False
  | none => match opEff ti o st id with
   | some (e, ok) => ok ∧ k e
   | none => False
def gd (ops : Array Oper) (o : Oper) (st : St) : Option (Bool × Bool × List (Nat × AV)) :=
 match o.guard with
 | none => some (true, true, [])
 | some (j, want) => match (ops[j]?).bind (·.dst) with
  | some d => match st.slot d with
   | some (.bool b) => if d < st.n then some (b, want, [(d, .bool b)]) else none
   | some (.tup []) => if d < st.n then some (!want, want, [(d, .tup [])]) else none
   | _ => none
  | none => none
def grdE (g : List (Nat × AV)) (e : Eff) : Eff := { e with rd := g ++ e.rd }
def opsRun (P : Program) (ti : TI) (ow : Nat → List Nat) (ops : Array Oper) : List Nat → St → (List (Nat × Eff) → St → Prop) → Prop
 | [], st, k => k [] st
 | i :: rest, st, k => match ops[i]? with
  | none => False
  | some o => match gd ops o st with
   | none => False
   | some (b, want, grd) =>
    (b = want → opRun P ti (ow i) o st (o.dst.getD i) (fun e => opsRun P ti ow ops rest ((grdE grd e).apply st) fun es st' => k ((i, grdE grd e) :: es) st') .mk) ∧
    (b = (!want) → dstOk st o.dst = true ∧ opsRun P ti ow ops rest (Eff.apply { rd := grd, wr := wrD o.dst (.tup []) } st) fun es st' => k ((i, { rd := grd, wr := wrD o.dst (.tup []) }) :: es) st')
theorem bnot {b w : Bool} (h : ¬ b = w) : b = (!w) := by revert h; cases b <;> cases w <;> simp
theorem beq_not {b w : Bool} (h : ¬ b = w) : (b == w) = false := by revert h; cases b <;> cases w <;> simp
def opsGo (P : Program) (ti : TI) (ow : Nat → List Nat) (ops : Array Oper) : Nat → List Oper → St → (k : List (Nat × Eff) → St → Prop) → Dep k → Prop
 | _, [], st, k, _ => k [] st
 | i, o :: rest, st, k, _ => match o.guard with
  | none => opRun P ti (ow i) o st (o.dst.getD i) (fun e => opsGo P ti ow ops (i + 1) rest (e.apply st) (fun es st' => k ((i, e) :: es) st') .mk) .mk
  | some g => match gd ops { o with guard := some g } st with
   | none => False
   | some (b, want, grd) => Way b want
    (opRun P ti (ow i) o st (o.dst.getD i) (fun e => opsGo P ti ow ops (i + 1) rest ((grdE grd e).apply st) (fun es st' => k ((i, grdE grd e) :: es) st') .mk) .mk)
    (dstOk st o.dst = true ∧ opsGo P ti ow ops (i + 1) rest (Eff.apply { rd := grd, wr := wrD o.dst (.tup []) } st) (fun es st' => k ((i, { rd := grd, wr := wrD o.dst (.tup []) }) :: es) st') .mk) .mk .mk
theorem opRun_k {P : Program} {ti : TI} {ow : List Nat} {o : Oper} {st : St} {id : Nat} {k k' : Eff → Prop} (h : k = k') : opRun P ti ow o st id k .mk = opRun P ti ow o st id k' .mk := by subst h; rfl
theorem opsGo_run {P : Program} {ti : TI} {ow : Nat → List Nat} {ops : Array Oper} : ∀ (l : List Oper) (i : Nat) (st : St) (k : List (Nat × Eff) → St → Prop), (∀ j : Nat, j < l.length → ops[i + j]? = l[j]?) →
  opsGo P ti ow ops i l st k .mk = opsRun P ti ow ops (List.range' i l.length) st k := by
 intro l
 induction l with
 | nil => intro i st k _; rfl
 | cons o rest ih =>
  intro i st k h
  have h0 := h 0 (by simp)
  simp only [Nat.add_zero, List.getElem?_cons_zero] at h0
  have hr : ∀ st k, opsGo P ti ow ops (i + 1) rest st k .mk = opsRun P ti ow ops (List.range' (i + 1) rest.length) st k := fun st k => ih (i + 1) st k fun j hj => by
   have := h (j + 1) (by simp; omega)
   rw [show i + 1 + j = i + (j + 1) by omega]; simpa using this
  rw [List.length_cons, List.range'_succ]
  simp only [opsGo, opsRun, h0]
  cases hg : o.guard with
  | none =>
   simp only [gd, hg]
   have e := opRun_k (P := P) (ti := ti) (ow := ow i) (o := o) (st := st) (id := o.dst.getD i) (k := fun e => opsGo P ti ow ops (i + 1) rest (e.apply st) (fun es st' => k ((i, e) :: es) st') .mk)
    (k' := fun e => opsRun P ti ow ops (List.range' (i + 1) rest.length) ((grdE [] e).apply st) fun es st' => k ((i, grdE [] e) :: es) st') (funext fun e => hr _ _)
   exact propext ⟨fun h => ⟨fun _ => Eq.mp e h, fun h => by cases h⟩, fun h => Eq.mpr e (h.1 trivial)⟩
  | some g =>
   have : ({ o with guard := some g } : Oper) = o := by cases o; simp at hg; simp [hg]
   simp only [this]
   cases gd ops o st with
   | none => rfl
   | some g =>
    obtain ⟨b, want, grd⟩ := g
    have e := opRun_k (P := P) (ti := ti) (ow := ow i) (o := o) (st := st) (id := o.dst.getD i) (k := fun e => opsGo P ti ow ops (i + 1) rest ((grdE grd e).apply st) (fun es st' => k ((i, grdE grd e) :: es) st') .mk)
     (k' := fun e => opsRun P ti ow ops (List.range' (i + 1) rest.length) ((grdE grd e).apply st) fun es st' => k ((i, grdE grd e) :: es) st') (funext fun e => hr _ _)
    simp only [Way, hr]
    exact propext ⟨fun h => ⟨fun hb => Eq.mp e (h.1 hb), h.2⟩, fun h => ⟨fun hb => Eq.mpr e (h.1 hb), h.2⟩⟩
theorem opsGo_all {P : Program} {ti : TI} {ow : Nat → List Nat} {ops : Array Oper} {st : St} {k : List (Nat × Eff) → St → Prop} (h : opsGo P ti ow ops 0 ops.toList st k .mk) : opsRun P ti ow ops (List.range ops.size) st k := by
 rw [opsGo_run _ _ _ _ (by intro j _; simp)] at h
 rw [List.range_eq_range']
 simpa using h
theorem opA_V {w0 : World} {lab0 : Labs} {st : St} {a : Act} {w : World} {lab : Labs} {loc : Locs} (h : RepL w0 lab0 st a w lab loc) {x : Operand} {y : AV} (he : opA st x = some y) : V w lab loc y (a.eval x) := by
 have := (evs_V (xs := [x]) (vs := [y]) h (by simp [evs, he])).2 0 y (a.eval x) rfl rfl
 exact this
theorem opA_pre {st st' : St} {x : Operand} {y : AV} (he : opA st x = some y) (hp : ∀ p ∈ rdOf st [x], st'.slot p.1 = some p.2) : opA st' x = some y := by
 have := evs_pre (st := st) (st' := st') (xs := [x]) (vs := [y]) (by simp [evs, he]) hp
 simp only [evs] at this
 split at this <;> first | (cases this; done) | skip
 rename_i z l hz hl
 simp at this hl
 rw [hz, this.1]
section
variable {P : Program} {ti : TI} (hT : TOk P ti) {w0 : World} {lab0 : Labs}
theorem rdOf_cons {st : St} {x : Operand} {xs : List Operand} : ∀ p, p ∈ rdOf st (x :: xs) ↔ p ∈ rdOf st [x] ∨ p ∈ rdOf st xs := by
 intro p
 cases x with
 | tmp t =>
  simp only [rdOf]
  split <;> simp
 | _ => simp [rdOf]
theorem pick_sound {o : Oper} {st : St} {c a b x : Operand} {t : Bool} {y : AV} (hop : o.op = .pick c a b) (hc : opA st c = some (.bool t)) (hx : x = if t then a else b)
  (hy : opA st x = some y) (hd : dstOk st o.dst = true) :
  Eff.pre { rd := rdOf st [c, x], wr := wrD o.dst y } st ∧ Sound P w0 lab0 st.n o { rd := rdOf st [c, x], wr := wrD o.dst y } := by
 refine ⟨⟨rdOf_self _, by simp, by simp⟩, ?_⟩
 intro st' ac w hn hp ⟨lab, loc, hR⟩ next Q hnext
 have hc' : opA st' c = some (.bool t) := opA_pre hc fun p hp' => hp.1 p ((rdOf_cons p).2 (.inl hp'))
 have hy' : opA st' x = some y := opA_pre hy fun p hp' => hp.1 p ((rdOf_cons p).2 (.inr hp'))
 have hcv := opA_V hR hc'
 have hyv := opA_V hR hy'
 have hcv' : ac.eval c = .bool t := hcv.inv_bool
 have hrun : (execOp ac.eval o).run P w = .ok (.value (ac.eval x)) w := by
  simp only [execOp, hop, hcv', asBool]
  subst hx
  cases t <;> simp
 unfold Oper.wp
 rw [hrun]
 exact hnext _ _ ⟨lab, loc, step_pure hR _ rfl rfl (dstOk_lt hd hn) hyv rfl rfl rfl⟩
include hT in
theorem opRun_sound {ow : List Nat} {o : Oper} {st : St} {id : Nat} {k : Eff → Prop} (h : opRun P ti ow o st id k .mk) : ∃ e, k e ∧ e.pre st ∧ Sound P w0 lab0 st.n o e := by
 unfold opRun at h
 split at h
 ·rename_i c a b hop
  split at h <;> first | exact h.elim | skip
  rename_i t hc
  obtain ⟨hd, h1, h2⟩ := h
  cases t with
  | true =>
   have := h1 rfl
   split at this <;> first | exact this.elim | skip
   rename_i x hx
   exact ⟨_, this, pick_sound hop hc rfl hx hd⟩
  | false =>
   have := h2 rfl
   split at this <;> first | exact this.elim | skip
   rename_i x hx
   exact ⟨_, this, pick_sound hop hc rfl hx hd⟩
 ·split at h
  ·rename_i ci hci
   split at h <;> first | exact h.elim | skip
   rename_i vs hvs
   obtain ⟨res, muts, hdc, hok, h⟩ := h
   split at h <;> first | exact h.elim | skip
   rename_i e ok hco
   obtain ⟨h1, h2⟩ := h
   obtain ⟨h3, h4⟩ := call_sound (P := P) (w0 := w0) (lab0 := lab0) hci hok hdc hvs hco h1
   exact ⟨e, h2, h3, h4⟩
  split at h <;> first | exact h.elim | skip
  rename_i e ok he
  obtain ⟨h3, h4⟩ := opEff_sound (w0 := w0) (lab0 := lab0) hT he h.1
  exact ⟨e, h.2, h3, h4⟩
theorem gd_sound {ops : Array Oper} {o : Oper} {st st' : St} {b want : Bool} {grd : List (Nat × AV)} (h : gd ops o st = some (b, want, grd)) :
  (∀ p ∈ grd, st.slot p.1 = some p.2) ∧ ∀ a w, st'.n = st.n → (∀ p ∈ grd, st'.slot p.1 = some p.2) → Rep w0 lab0 st' a w → Region.wanted o (yielded ops a.tmps) = (b == want) := by
 unfold gd at h
 split at h
 ·rename_i hg
  cases h
  exact ⟨by simp, fun a w _ _ _ => by simp [Region.wanted, hg]⟩
 ·rename_i j want hg
  split at h <;> first | (cases h; done) | skip
  rename_i d hd
  split at h <;> first | (cases h; done) | skip
  ·rename_i b' hb
   split at h <;> first | (cases h; done) | cases h
   rename_i hlt
   refine ⟨by simpa using hb, ?_⟩
   intro a w hn hp ⟨lab, loc, hR⟩
   have := hR.slots d (.bool b) (by simpa using hp)
   have hv := this.inv_bool
   have hlt' : d < a.tmps.size := by rw [hR.size, hn]; exact hlt
   have : a.tmps[d]? = some (.bool b) := by
    rw [Array.getElem?_eq_getElem hlt']
    simp [hlt'] at hv
    simp [hv]
   simp only [Region.wanted, hg, yielded, hd, Option.bind_some, this]
   cases b <;> cases want <;> rfl
  ·rename_i hb
   split at h <;> first | (cases h; done) | cases h
   rename_i hlt
   refine ⟨by simpa using hb, ?_⟩
   intro a w hn hp ⟨lab, loc, hR⟩
   have := hR.slots d (.tup []) (by simpa using hp)
   obtain ⟨vs, hv, hl, _⟩ := this.inv_tup
   have hvs : vs = [] := by cases vs; rfl; simp at hl
   subst hvs
   have hlt' : d < a.tmps.size := by rw [hR.size, hn]; exact hlt
   have : a.tmps[d]? = some (.tuple #[]) := by
    rw [Array.getElem?_eq_getElem hlt']
    simp [hlt'] at hv
    simp [hv]
   simp only [Region.wanted, hg, yielded, hd, Option.bind_some, this]
   cases want <;> rfl
include hT in
theorem opsRun_sound {ow : Nat → List Nat} {ops : Array Oper} : ∀ (l : List Nat) (st : St) (k : List (Nat × Eff) → St → Prop), opsRun P ti ow ops l st k →
  ∃ es st', es.map (·.1) = l ∧ Chain P w0 lab0 ops st es st' ∧ k es st' := by
 intro l
 induction l with
 | nil => intro st k h; exact ⟨[], st, rfl, rfl, h⟩
 | cons i rest ih =>
  intro st k h
  simp only [opsRun] at h
  split at h <;> first | exact h.elim | skip
  rename_i o ho
  split at h <;> first | exact h.elim | skip
  rename_i b want grd hg
  obtain ⟨hg1, _⟩ := gd_sound (w0 := w0) (lab0 := lab0) (st' := st) hg
  by_cases hbw : b = want
  ·obtain ⟨e, h1, h2, h3⟩ := opRun_sound hT (w0 := w0) (lab0 := lab0) (h.1 hbw)
   obtain ⟨es, st', h4, h5, h6⟩ := ih _ _ h1
   refine ⟨(i, grdE grd e) :: es, st', by simp [h4], ?_, h6⟩
   refine ⟨⟨?_, h2.2.1, h2.2.2⟩, ?_, h5⟩
   ·intro p hp
    rcases List.mem_append.1 hp with hp | hp
    ·exact hg1 p hp
    ·exact h2.1 p hp
   ·intro s a w hn hp hR rest' Q hnext
    have hp' : e.pre s := ⟨fun p hp' => hp.1 p (List.mem_append_right _ hp'), hp.2.1, hp.2.2⟩
    have hw := (gd_sound (w0 := w0) (lab0 := lab0) (st' := s) hg).2 a w hn (fun p hp' => hp.1 p (List.mem_append_left _ hp')) hR
    simp only [wpOps, ho, hw, hbw, beq_self_eq_true, if_true]
    exact .inl (h3 s a w hn hp' hR _ Q hnext)
  ·have hbw' : b = (!want) := bnot hbw
   obtain ⟨hd, h1⟩ := h.2 hbw'
   obtain ⟨es, st', h4, h5, h6⟩ := ih _ _ h1
   refine ⟨_, st', ?_, ?_, h6⟩
   ·simp [h4]
   refine ⟨⟨hg1, by simp, by simp⟩, ?_, h5⟩
   intro s a w hn hp hR rest' Q hnext
   have hw := (gd_sound (w0 := w0) (lab0 := lab0) (st' := s) hg).2 a w hn hp.1 hR
   have hw2 : (b == want) = false := beq_not hbw
   obtain ⟨lab, loc, hR⟩ := hR
   simp only [wpOps, ho, hw, hw2, Bool.false_eq_true, if_false]
   exact hnext _ _ ⟨lab, loc, step_pure hR _ rfl rfl (dstOk_lt hd hn) (.tup [] [] rfl (by intro j x y hx; simp at hx)) rfl rfl rfl⟩
end
def noWo (s : Nat) (o : Oper) : Bool := !decide (o.dst = some s)
def noW (s : Nat) : Code → Bool
 | .region _ ops _ => ops.all (noWo s)
 | .seq a b => noW s a && noW s b
 | .cond _ a b => noW s a && noW s b
 | .block _ b => noW s b
 | .loop b => noW s b
 | .skip => true
 | .exit _ => true
 | .ret => true
 | .label _ => true
 | _ => false
def Pin (c : Code) (a : Act) (e : Exit) (a' : Act) : Prop := e = .outgrown ∨ ∀ s, noW s c = true → a'.tmps.getD s undef = a.tmps.getD s undef
theorem Pin.refl {c : Code} {a : Act} {e : Exit} : Pin c a e a := Or.inr fun _ _ => rfl
theorem upon_mono {P : Program} {o : Oper} {a : Act} {next next' : Act → World → Prop} {Q Q' : Exit → Act → World → Prop} {r : Result Next} (h : o.upon P a next Q r)
  (hn : ∀ v d w, next ({ a with defers := d }.put o.dst v) w → next' ({ a with defers := d }.put o.dst v) w) (hq : ∀ c w, Q (.panic c) a w → Q' (.panic c) a w) (ho : LetsOut Q → LetsOut Q') :
  o.upon P a next' Q' r := by
 cases r with
 | ok x w =>
  cases x with
  | value v => exact hn v a.defers w h
  | skip => exact hn undef a.defers w h
  | defer d => exact hn undef (d :: a.defers) w h
  | enter f args =>
   refine Calls.mono (P := P) (f := f) (args := args) (w := w) h ?_
   intro e w' he
   cases e with
   | returned v => exact hn v a.defers w' he
   | panicked ch => exact hq ch w' he
   | outgrown => exact ho he
  | row row args => exact Rows.mono (P := P) (row := row) (args := args) (w := w) h fun v w' hv => hn v a.defers w' hv
  | _ => exact False.elim h
 | halt x w =>
  cases x with
  | panic v => exact hq _ w h
  | _ => exact False.elim h
theorem put_getD {a : Act} {d : List Deferred} {dst : Option Tmp} {v : Value} {s : Nat} (h : dst ≠ some s) : ({ a with defers := d }.put dst v).tmps.getD s undef = a.tmps.getD s undef :=
 put_other { a with defers := d } v h
theorem wpOps_pin {P : Program} {ops : Array Oper} {Q : Exit → Act → World → Prop} (a0 : Act) : ∀ (l : List Nat) (a : Act) (w : World), (∀ s, ops.all (noWo s) = true → a.tmps.getD s undef = a0.tmps.getD s undef) →
  wpOps P ops Q l a w → wpOps P ops (fun e a' w' => Q e a' w' ∧ (e = .outgrown ∨ ∀ s, ops.all (noWo s) = true → a'.tmps.getD s undef = a0.tmps.getD s undef)) l a w := by
 intro l
 induction l with
 | nil => intro a w ha h; exact ⟨h, Or.inr ha⟩
 | cons i rest ih =>
  intro a w ha h
  simp only [wpOps] at h ⊢
  split at h
  ·exact ih a w ha h
  ·rename_i o hi
   have hput : ∀ v d s, ops.all (noWo s) = true → ({ a with defers := d }.put o.dst v).tmps.getD s undef = a0.tmps.getD s undef := by
    intro v d s hs
    rw [← ha s hs]
    apply put_getD
    obtain ⟨hlt, rfl⟩ := Array.getElem?_eq_some_iff.1 hi
    have := Array.all_eq_true.1 hs i hlt
    simpa [noWo] using this
   have hout : LetsOut Q → LetsOut (fun e a' w' => Q e a' w' ∧ (e = .outgrown ∨ ∀ s, ops.all (noWo s) = true → a'.tmps.getD s undef = a0.tmps.getD s undef)) := by
    rintro ⟨a1, w1, h1⟩; exact ⟨a1, w1, h1, Or.inl rfl⟩
   split at h
   ·rename_i hw
    rw [if_pos hw]
    rcases h with h | h
    ·exact Or.inl (upon_mono h (fun v d w' h' => ih _ _ (hput v d) h') (fun c w' h' => ⟨h', Or.inr ha⟩) hout)
    ·exact Or.inr ⟨h.1, hout h.2⟩
   ·rename_i hw
    rw [if_neg hw]
    exact ih _ _ (hput undef a.defers) h
structure AW (P : Program) (c : Code) (st : St) (K : Exit → St → Prop) : Prop where
 go : ∀ w0 lab0 a w, Rep w0 lab0 st a w → c.wp P (fun e a' w' => (∃ st', K e st' ∧ Rep w0 lab0 st' a' w') ∧ Pin c a e a') a w
section
variable {P : Program} {ti : TI} {st : St} {K : Exit → St → Prop}
theorem AW.mono {c : Code} {K' : Exit → St → Prop} (h : AW P c st K) (hk : ∀ e s, K e s → K' e s) : AW P c st K' :=
 ⟨fun w0 lab0 a w hR => wp_mono (h.go w0 lab0 a w hR) fun _ _ _ ⟨⟨s, h1, h2⟩, h3⟩ => ⟨⟨s, hk _ _ h1, h2⟩, h3⟩⟩
theorem AW.less {c : Code} {st' : St} (hl : St.Less st st') (h : AW P c st' K) : AW P c st K :=
 ⟨fun w0 lab0 a w hR => h.go w0 lab0 a w (hR.less hl)⟩
theorem Rep.drawn {w0 : World} {lab0 : Labs} {a : Act} {w : World} (h : Rep w0 lab0 st a w) (n : Nat) : Rep w0 lab0 st a { w with drawn := n } := by
 obtain ⟨lab, loc, h⟩ := h
 have := step_pure (w' := { w with drawn := n }) (dst := none) (x := .undef) (v := undef) h {} rfl rfl (by simp) (.undef _) rfl rfl rfl
 exact ⟨lab, loc, this⟩
theorem AW.region (hT : TOk P ti) (ow : Nat → List Nat) {id : Nat} {ops : Array Oper} {draw : Bool} (h : opsRun P ti ow ops (List.range ops.size) st fun es s => (draw = true → drawOk ops es = true) ∧ K .normal s) :
  AW P (.region id ops draw) st K := by
 refine ⟨?_⟩
 intro w0 lab0 a w hR
 obtain ⟨es, s, h1, h2, h3, h4⟩ := opsRun_sound hT (w0 := w0) (lab0 := lab0) _ _ _ h
 cases draw with
 | false =>
  refine wp_region (wpOps_pin a _ _ _ (fun _ _ => rfl) ?_)
  rw [← h1]
  exact h2.sound hR fun a' w' hR' => ⟨s, h4, hR'⟩
 | true =>
  refine wp_region_draw fun t => ?_
  obtain ⟨es', s', h5, h6, h7⟩ := (drawOk_mix (h3 rfl) (P.follows .mixedOrders) t).chain h2
  refine wpOps_pin a _ _ _ (fun _ _ => rfl) ?_
  rw [← h5]
  exact h6.sound (hR.drawn _) fun a' w' hR' => ⟨s, h4, hR'.alike h7.symm⟩
theorem AW.skip (h : K .normal st) : AW P .skip st K := ⟨fun _ _ _ _ hR => wp_skip ⟨⟨st, h, hR⟩, .refl⟩⟩
theorem AW.exit {id : Nat} (h : K (.exit id) st) : AW P (.exit id) st K := ⟨fun _ _ _ _ hR => wp_exit ⟨⟨st, h, hR⟩, .refl⟩⟩
theorem AW.ret (h : K .ret st) : AW P .ret st K := ⟨fun _ _ _ _ hR => wp_ret ⟨⟨st, h, hR⟩, .refl⟩⟩
theorem AW.label {l : Nat} (h : K .normal st) : AW P (.label l) st K := ⟨fun _ _ _ _ hR => wp_label ⟨⟨st, h, hR⟩, .refl⟩⟩
def thenK (next : St → Prop) (K : Exit → St → Prop) : Exit → St → Prop
 | .normal, s => next s
 | e, s => K e s
theorem AW.seq {x y : Code} (h : AW P x st (thenK (fun s => AW P y s K) K)) : AW P (.seq x y) st K := by
 refine ⟨?_⟩
 intro w0 lab0 a w hR
 refine wp_seq (wp_mono (h.go w0 lab0 a w hR) ?_)
 rintro e a' w' ⟨⟨s, h1, h2⟩, h3⟩
 have hx : ∀ e', Pin x a e' a' → Pin (.seq x y) a e' a' := fun e' h => h.imp id fun h s hs => h s (by simp only [noW, Bool.and_eq_true] at hs; exact hs.1)
 cases e with
 | normal =>
  refine wp_mono (h1.go w0 lab0 a' w' h2) ?_
  rintro e2 a2 w2 ⟨h4, h5⟩
  refine ⟨h4, ?_⟩
  have h3 := h3.resolve_left (by simp)
  rcases h5 with h5 | h5
  ·exact Or.inl h5
  ·refine Or.inr fun s hs => ?_
   simp only [noW, Bool.and_eq_true] at hs
   rw [h5 s hs.2, h3 s hs.1]
 | _ => exact ⟨⟨s, h1, h2⟩, hx _ h3⟩
theorem AW.cut {x y : Code} (st1 : St) (h : AW P x st (thenK (fun s => St.Less s st1) K)) (h2 : AW P y st1 K) : AW P (.seq x y) st K := by
 refine AW.seq (h.mono ?_)
 intro e s hs
 cases e with
 | normal => exact h2.less hs
 | _ => exact hs
theorem AW.cond {c : Operand} {x y : Code} {t : Bool} (hc : opA st c = some (.bool t)) (ht : t = true → AW P x st K) (hf : t = false → AW P y st K) : AW P (.cond c x y) st K := by
 refine ⟨?_⟩
 intro w0 lab0 a w hR
 obtain ⟨lab, loc, hR'⟩ := hR
 refine wp_cond_split (opA_V hR' hc).inv_bool (fun h => wp_mono ((ht h).go w0 lab0 a w ⟨lab, loc, hR'⟩) ?_) (fun h => wp_mono ((hf h).go w0 lab0 a w ⟨lab, loc, hR'⟩) ?_)
 ·rintro e a' w' ⟨h1, h2⟩
  exact ⟨h1, h2.imp id fun h s hs => h s (by simp only [noW, Bool.and_eq_true] at hs; exact hs.1)⟩
 ·rintro e a' w' ⟨h1, h2⟩
  exact ⟨h1, h2.imp id fun h s hs => h s (by simp only [noW, Bool.and_eq_true] at hs; exact hs.2)⟩
def blockK (id : Nat) (K : Exit → St → Prop) : Exit → St → Prop
 | .exit i, s => if i = id then K .normal s else K (.exit i) s
 | e, s => K e s
theorem AW.block {id : Nat} {c : Code} (h : AW P c st (blockK id K)) : AW P (.block id c) st K := by
 refine ⟨?_⟩
 intro w0 lab0 a w hR
 refine wp_block (wp_mono (h.go w0 lab0 a w hR) ?_)
 rintro e a' w' ⟨⟨s, h1, h2⟩, h3⟩
 cases e with
 | exit i =>
  have h3' := h3.resolve_left (by simp)
  simp only [blockK] at h1
  simp only [Exit.inBlock]
  split
  ·rename_i hi; rw [if_pos hi] at h1; exact ⟨⟨s, h1, h2⟩, Or.inr h3'⟩
  ·rename_i hi; rw [if_neg hi] at h1; exact ⟨⟨s, h1, h2⟩, Or.inr h3'⟩
 | _ => exact ⟨⟨s, h1, h2⟩, h3⟩
theorem AW.loop {ι : Type} (S : ι → St) (KK : ι → Exit → St → Prop) (μ : ι → Nat) {c : Code}
  (h : ∀ i, AW P c (S i) (thenK (fun s => ∃ j, μ j < μ i ∧ St.Less s (S j) ∧ ∀ e s, KK j e s → KK i e s) (KK i))) (i : ι) : AW P (.loop c) (S i) (KK i) := by
 refine ⟨?_⟩
 intro w0 lab0 a w hR b k cs
 have key : ∀ n i a w, μ i = n → Rep w0 lab0 (S i) a w →
   ∃ e a' w', ((∃ st', KK i e st' ∧ Rep w0 lab0 st' a' w') ∧ Pin c a e a') ∧ Arrives P (lone (b.at a (.code c :: .inLoop c :: k)) cs w) b k cs e a' w' := by
  intro n
  induction n using Nat.strongRecOn with
  | _ n ih =>
   intro i a w hn hR
   obtain ⟨e, a₁, w₁, hq, harr⟩ := (h i).go w0 lab0 a w hR b (.inLoop c :: k) cs
   obtain ⟨⟨s, h1, h2⟩, h9⟩ := hq
   cases e with
   | normal =>
    obtain ⟨j, hlt, hl, hk⟩ := h1
    obtain ⟨e₂, a₂, w₂, ⟨⟨s2, h3, h4⟩, h5⟩, harr₂⟩ := ih (μ j) (hn ▸ hlt) j a₁ w₁ rfl (h2.less hl)
    have h9 := h9.resolve_left (by simp)
    exact ⟨e₂, a₂, w₂, ⟨⟨s2, hk _ _ h3, h4⟩, h5.imp id fun h s hs => by rw [h s hs, h9 s hs]⟩, .of_steps (Steps.trans harr (.one step_inLoop)) harr₂⟩
   | exit id => exact ⟨_, a₁, w₁, ⟨⟨s, h1, h2⟩, h9⟩, .pass (x := .inLoop c) rfl (fun _ _ => .inl (by simp)) harr⟩
   | goto l => exact ⟨_, a₁, w₁, ⟨⟨s, h1, h2⟩, h9⟩, .pass (x := .inLoop c) rfl (fun _ _ => .inl (by simp)) harr⟩
   | ret => exact ⟨_, a₁, w₁, ⟨⟨s, h1, h2⟩, h9⟩, .pass (x := .inLoop c) rfl (fun _ _ => .inl (by simp)) harr⟩
   | panic ch => exact ⟨_, a₁, w₁, ⟨⟨s, h1, h2⟩, h9⟩, .pass (x := .inLoop c) rfl (fun _ _ => .inl (by simp)) harr⟩
   | outgrown => exact ⟨_, a₁, w₁, ⟨⟨s, h1, h2⟩, h9⟩, .pass (x := .inLoop c) rfl (fun _ _ => .inl (by simp)) harr⟩
 obtain ⟨e, a', w', ⟨hq, hp⟩, harr⟩ := key _ i a w rfl hR
 exact ⟨e, a', w', ⟨hq, hp.imp id fun h s hs => h s (by simpa [noW] using hs)⟩, .of_steps (.one step_loop) harr⟩
theorem Less.of {st' : St} (hn : st'.n = st.n) (hs : ∀ p ∈ st'.slots, st.slot p.1 = some p.2) (ho : ∀ p ∈ st'.objs, ∀ nd, p.2 = some nd → st.obj p.1 = some nd) : St.Less st st' :=
 ⟨hn, fun s x hx => hs (s, x) (look_mem hx), fun i nd hi => ho (i, some nd) (look_mem (obj_look hi)) nd rfl⟩
end
end Go.AM
