/- The abstract machine, part 16: a region's operations, one behind the other, and in any order that the edges leave. -/
import Derived.Test.YtefkpiameojpoaaAm15
set_option linter.unusedVariables false
set_option linter.unusedSimpArgs false
namespace Go.AM

/-! ### effects that do not touch each other -/
def keys {α : Type} (l : List (Nat × α)) : List Nat := l.map (·.1)

def away (a b : List Nat) : Bool := a.all fun x => !b.contains x

theorem away_iff {a b : List Nat} : away a b = true ↔ ∀ x ∈ a, x ∉ b := by
  simp [away]

def Eff.outIds (e : Eff) : List Nat := slotIds e.wr ++ objIds e.up

/-- two effects that may change places -/
def indepB (e f : Eff) : Bool :=
  away (keys e.wr) (keys f.rd) && away (keys e.wr) (keys f.wr) && away (keys f.wr) (keys e.rd) &&
  away (keys e.up) (keys f.ob) && away (keys e.up) (keys f.up) && away (keys f.up) (keys e.ob) &&
  (match e.new with | [] => true | n => away n f.outIds) && (match f.new with | [] => true | n => away n e.outIds)

structure Indep (e f : Eff) : Prop where
  wr : ∀ s, s ∈ keys e.wr → s ∉ keys f.rd ∧ s ∉ keys f.wr
  rw : ∀ s, s ∈ keys f.wr → s ∉ keys e.rd
  up : ∀ i, i ∈ keys e.up → i ∉ keys f.ob ∧ i ∉ keys f.up
  ob : ∀ i, i ∈ keys f.up → i ∉ keys e.ob
  n1 : ∀ i, i ∈ e.new → i ∉ f.outIds
  n2 : ∀ i, i ∈ f.new → i ∉ e.outIds

theorem indepB_sound {e f : Eff} (h : indepB e f = true) : Indep e f := by
  simp only [indepB, Bool.and_eq_true, away_iff] at h
  obtain ⟨⟨⟨⟨⟨⟨⟨h1, h2⟩, h3⟩, h4⟩, h5⟩, h6⟩, h7⟩, h8⟩ := h
  refine ⟨fun s hs => ⟨h1 s hs, h2 s hs⟩, h3, fun s hs => ⟨h4 s hs, h5 s hs⟩, h6, ?_, ?_⟩
  · intro i hi
    split at h7
    · rename_i hn; rw [hn] at hi; cases hi
    · exact away_iff.1 h7 i hi
  · intro i hi
    split at h8
    · rename_i hn; rw [hn] at hi; cases hi
    · exact away_iff.1 h8 i hi

theorem mem_keys {α : Type} {l : List (Nat × α)} {p : Nat × α} (h : p ∈ l) : p.1 ∈ keys l := List.mem_map_of_mem h
theorem look_keys {α : Type} {l : List (Nat × α)} {k : Nat} (h : k ∉ keys l) : look k l = none := look_none h
theorem look_keys' {α : Type} {l : List (Nat × α)} {k : Nat} {x : α} (h : look k l = some x) : k ∈ keys l := mem_keys (look_mem h)

theorem ids_apply (e : Eff) (st : St) (i : Nat) : i ∈ (e.apply st).ids ↔ i ∈ e.outIds ∨ i ∈ st.ids := by
  simp only [St.ids, Eff.apply, Eff.outIds, slotIds, objIds, List.flatMap_append, List.mem_append]
  constructor
  · rintro ((h | h) | (h | h))
    · exact .inl (.inl h)
    · exact .inr (.inl h)
    · exact .inl (.inr h)
    · exact .inr (.inr h)
  · rintro ((h | h) | (h | h))
    · exact .inl (.inl h)
    · exact .inr (.inl h)
    · exact .inl (.inr h)
    · exact .inr (.inr h)

theorem Indep.swap {e f : Eff} (h : Indep e f) {st : St} (he : e.pre st) (hf : f.pre (e.apply st)) :
    f.pre st ∧ e.pre (f.apply st) ∧ St.Alike (f.apply (e.apply st)) (e.apply (f.apply st)) := by
  refine ⟨⟨?_, ?_, ?_⟩, ⟨?_, ?_, ?_⟩, ?_⟩
  · intro p hp
    have := hf.1 p hp
    rw [slot_apply, look_keys (fun hk => (h.wr _ hk).1 (mem_keys hp))] at this
    simpa using this
  · intro p hp
    have := hf.2.1 p hp
    rw [obj_apply, look_keys (fun hk => (h.up _ hk).1 (mem_keys hp))] at this
    exact this
  · intro i hi hin
    exact hf.2.2 i hi ((ids_apply e st i).2 (.inr hin))
  · intro p hp
    rw [slot_apply, look_keys (fun hk => h.rw _ hk (mem_keys hp))]
    simpa using he.1 p hp
  · intro p hp
    rw [obj_apply, look_keys (fun hk => h.ob _ hk (mem_keys hp))]
    exact he.2.1 p hp
  · intro i hi hin
    rcases (ids_apply f st i).1 hin with h1 | h1
    · exact h.n1 i hi h1
    · exact he.2.2 i hi h1
  · refine ⟨rfl, ?_, ?_, ?_⟩
    · intro s
      simp only [slot_apply]
      cases h1 : look s e.wr with
      | none => simp
      | some x =>
        have := (h.wr s (look_keys' h1)).2
        rw [look_keys this]; simp
    · intro i
      simp only [obj_apply]
      cases h1 : look i e.up with
      | none => rfl
      | some x =>
        have := (h.up i (look_keys' h1)).2
        rw [look_keys this]
    · intro i
      simp only [ids_apply]
      constructor
      · rintro (h | h | h)
        · exact .inr (.inl h)
        · exact .inl h
        · exact .inr (.inr h)
      · rintro (h | h | h)
        · exact .inr (.inl h)
        · exact .inl h
        · exact .inr (.inr h)

theorem St.Alike.refl (st : St) : St.Alike st st := ⟨rfl, fun _ => rfl, fun _ => rfl, fun _ => Iff.rfl⟩
theorem St.Alike.trans {a b c : St} (h : St.Alike a b) (h' : St.Alike b c) : St.Alike a c :=
  ⟨h'.n.trans h.n, fun s => (h'.slot s).trans (h.slot s), fun i => (h'.obj i).trans (h.obj i), fun i => (h'.ids i).trans (h.ids i)⟩
theorem St.Alike.symm {a b : St} (h : St.Alike a b) : St.Alike b a :=
  ⟨h.n.symm, fun s => (h.slot s).symm, fun i => (h.obj i).symm, fun i => (h.ids i).symm⟩

theorem St.Alike.pre {a b : St} (h : St.Alike a b) {e : Eff} (he : e.pre a) : e.pre b :=
  ⟨fun p hp => by rw [h.slot]; exact he.1 p hp, fun p hp => by rw [h.obj]; exact he.2.1 p hp, fun i hi hin => he.2.2 i hi ((h.ids i).1 hin)⟩

theorem St.Alike.apply {a b : St} (h : St.Alike a b) (e : Eff) : St.Alike (e.apply a) (e.apply b) :=
  ⟨h.n, fun s => by simp only [slot_apply, h.slot], fun i => by simp only [obj_apply, h.obj], fun i => by simp only [ids_apply, h.ids]⟩

/-! ### a row of effects -/
/-- what the i-th operation of a region does, guard and all -/
def SoundI (P : Program) (w0 : World) (lab0 : Labs) (ops : Array Oper) (n : Nat) (i : Nat) (e : Eff) : Prop :=
  ∀ st a w, st.n = n → e.pre st → Rep w0 lab0 st a w → ∀ (rest : List Nat) (Q : Exit → Act → World → Prop),
    (∀ a' w', Rep w0 lab0 (e.apply st) a' w' → wpOps P ops Q rest a' w') → wpOps P ops Q (i :: rest) a w

def Chain (P : Program) (w0 : World) (lab0 : Labs) (ops : Array Oper) : St → List (Nat × Eff) → St → Prop
  | st, [], st' => st' = st
  | st, (i, e) :: r, st' => e.pre st ∧ SoundI P w0 lab0 ops st.n i e ∧ Chain P w0 lab0 ops (e.apply st) r st'

section
variable {P : Program} {w0 : World} {lab0 : Labs} {ops : Array Oper}

theorem Chain.sound {es : List (Nat × Eff)} {st st' : St} (h : Chain P w0 lab0 ops st es st') {a : Act} {w : World} (hr : Rep w0 lab0 st a w) {Q : Exit → Act → World → Prop}
    (hq : ∀ a' w', Rep w0 lab0 st' a' w' → Q .normal a' w') : wpOps P ops Q (es.map (·.1)) a w := by
  induction es generalizing st a w with
  | nil => simp only [Chain] at h; subst h; exact hq _ _ hr
  | cons p es ih =>
    obtain ⟨i, e⟩ := p
    obtain ⟨h1, h2, h3⟩ := h
    exact h2 st a w rfl h1 hr _ _ fun a' w' hr' => ih h3 hr'

theorem Chain.alike {es : List (Nat × Eff)} {s s' t : St} (h : Chain P w0 lab0 ops s es s') (ha : St.Alike s t) : ∃ t', Chain P w0 lab0 ops t es t' ∧ St.Alike s' t' := by
  induction es generalizing s t with
  | nil => simp only [Chain] at h; subst h; exact ⟨t, rfl, ha⟩
  | cons p es ih =>
    obtain ⟨i, e⟩ := p
    obtain ⟨h1, h2, h3⟩ := h
    obtain ⟨t', h4, h5⟩ := ih h3 (ha.apply e)
    exact ⟨t', ⟨ha.pre h1, by rw [ha.n]; exact h2, h4⟩, h5⟩

theorem Chain.front {es1 es2 : List (Nat × Eff)} {p : Nat × Eff} {st st' : St} (h : Chain P w0 lab0 ops st (es1 ++ p :: es2) st') (hi : ∀ q ∈ es1, Indep q.2 p.2) :
    ∃ st'', Chain P w0 lab0 ops st (p :: (es1 ++ es2)) st'' ∧ St.Alike st' st'' := by
  induction es1 generalizing st with
  | nil => exact ⟨st', h, .refl _⟩
  | cons q es1 ih =>
    obtain ⟨i, e⟩ := p
    obtain ⟨j, f⟩ := q
    obtain ⟨h1, h2, h3⟩ := h
    obtain ⟨s2, ⟨h4, h5, h6⟩, h7⟩ := ih h3 fun q hq => hi q (List.mem_cons_of_mem _ hq)
    obtain ⟨g1, g2, g3⟩ := (hi (j, f) List.mem_cons_self).swap h1 h4
    obtain ⟨t', h8, h9⟩ := h6.alike g3
    exact ⟨t', ⟨g1, h5, g2, h2, h8⟩, h7.trans h9⟩

/-- an order that comes from another by moving ahead what may be moved -/
inductive Mix : List Nat → List (Nat × Eff) → Prop
  | nil : Mix [] []
  | cons (l : List Nat) (es1 es2 : List (Nat × Eff)) (p : Nat × Eff) (hi : ∀ q ∈ es1, Indep q.2 p.2) (h : Mix l (es1 ++ es2)) : Mix (p.1 :: l) (es1 ++ p :: es2)

theorem Mix.chain {l : List Nat} {es : List (Nat × Eff)} (h : Mix l es) : ∀ {st st' : St}, Chain P w0 lab0 ops st es st' → ∃ es' st'', es'.map (·.1) = l ∧ Chain P w0 lab0 ops st es' st'' ∧ St.Alike st' st'' := by
  induction h with
  | nil => exact fun h => ⟨[], _, rfl, h, .refl _⟩
  | cons l es1 es2 p hi _ ih =>
    intro st st' hc
    obtain ⟨s2, h1, h2⟩ := hc.front hi
    obtain ⟨i, e⟩ := p
    obtain ⟨h3, h4, h5⟩ := h1
    obtain ⟨es', s3, h6, h7, h8⟩ := ih h5
    exact ⟨(i, e) :: es', s3, by simp [h6], ⟨h3, h4, h7⟩, h2.trans h8⟩
end

/-! ### the orders that a region may take -/
def maskOf (B : Array Nat) (o : Oper) : Nat := o.after.toList.foldl (fun s e => if Region.binds .any e then s ||| 2 ^ e.on ||| B.getD e.on 0 else s) 0
def masks (ops : Array Oper) : Array Nat := ops.foldl (fun B o => B.push (maskOf B o)) #[]

def pairsOk (B : Array Nat) : List (Nat × Eff) → Bool
  | [] => true
  | p :: r => (r.all fun q => decide (p.1 < q.1) && ((B.getD q.1 0).testBit p.1 || indepB p.2 q.2)) && pairsOk B r

def rankL (l : List Nat) (i : Nat) : Nat := l.findIdx (· == i)
/-- each operation comes behind what it waits for, in each mode -/
def ordOk (ops : Array Oper) : Bool :=
  ((List.range ops.size).all fun i => match ops[i]? with
    | some o => o.after.toList.all fun e => decide (e.on < i)
    | none => false) ||
  (let g := Region.linearise .gc ops 0
   (List.range ops.size).all fun i => match ops[i]? with
    | some o => o.after.toList.all fun e => decide (e.on < ops.size) && (decide (e.on < i) || !Region.binds .text e && !Region.binds .any e) && (!Region.binds .gc e || decide (rankL g e.on < rankL g i))
    | none => false)
theorem ordOk_rank {ops : Array Oper} (h : ordOk ops = true) (m : Region.Mode) : ∃ rk : Nat → Nat, ∀ i o, ops[i]? = some o → ∀ e ∈ o.after.toList, Region.binds m e = true → e.on < ops.size ∧ rk e.on < rk i := by
  unfold ordOk at h
  rw [Bool.or_eq_true] at h
  rcases h with h | h
  · refine ⟨id, ?_⟩
    intro i o ho e he _
    have hi : i < ops.size := (Array.getElem?_eq_some_iff.1 ho).1
    have := List.all_eq_true.1 h i (List.mem_range.2 hi)
    rw [ho] at this
    have := List.all_eq_true.1 this e he
    rw [decide_eq_true_eq] at this
    exact ⟨by omega, this⟩
  · have key : ∀ i o, ops[i]? = some o → ∀ e ∈ o.after.toList, e.on < ops.size ∧ (e.on < i ∨ (Region.binds .text e = false ∧ Region.binds .any e = false)) ∧ (Region.binds .gc e = true → rankL (Region.linearise .gc ops 0) e.on < rankL (Region.linearise .gc ops 0) i) := by
      intro i o ho e he
      have hi : i < ops.size := (Array.getElem?_eq_some_iff.1 ho).1
      have := List.all_eq_true.1 h i (List.mem_range.2 hi)
      rw [ho] at this
      have := List.all_eq_true.1 this e he
      simp only [Bool.and_eq_true, Bool.or_eq_true, decide_eq_true_eq, Bool.not_eq_true'] at this
      refine ⟨this.1.1, this.1.2, fun hb => ?_⟩
      rcases this.2 with h2 | h2
      · rw [h2] at hb; cases hb
      · exact h2
    cases m with
    | text =>
      refine ⟨id, fun i o ho e he hb => ⟨(key i o ho e he).1, ?_⟩⟩
      rcases (key i o ho e he).2.1 with h2 | h2
      · exact h2
      · rw [h2.1] at hb; cases hb
    | any =>
      refine ⟨id, fun i o ho e he hb => ⟨(key i o ho e he).1, ?_⟩⟩
      rcases (key i o ho e he).2.1 with h2 | h2
      · exact h2
      · rw [h2.2] at hb; cases hb
    | gc => exact ⟨_, fun i o ho e he hb => ⟨(key i o ho e he).1, (key i o ho e he).2.2 hb⟩⟩
theorem min_rank {α : Type} (rk : α → Nat) : ∀ (l : List α), l ≠ [] → ∃ x ∈ l, ∀ y ∈ l, rk x ≤ rk y := by
  intro l
  induction l with
  | nil => intro h; exact absurd rfl h
  | cons x l ih =>
    intro _
    by_cases hl : l = []
    · subst hl; exact ⟨x, List.mem_cons_self, fun y hy => by simp at hy; subst hy; exact Nat.le_refl _⟩
    · obtain ⟨z, hz, hm⟩ := ih hl
      by_cases h : rk x ≤ rk z
      · exact ⟨x, List.mem_cons_self, fun y hy => by
          rcases List.mem_cons.1 hy with rfl | hy
          · exact Nat.le_refl _
          · exact Nat.le_trans h (hm y hy)⟩
      · exact ⟨z, List.mem_cons_of_mem _ hz, fun y hy => by
          rcases List.mem_cons.1 hy with rfl | hy
          · omega
          · exact hm y hy⟩

/-- the check of a region whose order is drawn -/
def drawOk (ops : Array Oper) (es : List (Nat × Eff)) : Bool :=
  let B := masks ops
  ((List.range ops.size).all fun i => match ops[i]? with
    | some o => decide (B.getD i 0 = maskOf B o)
    | none => false) && ordOk ops && decide (es.map (·.1) = List.range ops.size) && pairsOk B es

/-- the same check on the keys alone -/
structure KE where
  rd : List Nat
  wr : List Nat
  ob : List Nat
  up : List Nat
  new : List Nat
  out : List Nat

def kOf (p : Nat × Eff) : Nat × KE := (p.1, ⟨keys p.2.rd, keys p.2.wr, keys p.2.ob, keys p.2.up, p.2.new, p.2.outIds⟩)
def indepK (e f : KE) : Bool :=
  away e.wr f.rd && away e.wr f.wr && away f.wr e.rd && away e.up f.ob && away e.up f.up && away f.up e.ob &&
  (match e.new with | [] => true | n => away n f.out) && (match f.new with | [] => true | n => away n e.out)
def pairsK (B : Array Nat) : List (Nat × KE) → Bool
  | [] => true
  | p :: r => (r.all fun q => decide (p.1 < q.1) && ((B.getD q.1 0).testBit p.1 || indepK p.2 q.2)) && pairsK B r
def drawK (ops : Array Oper) (ks : List (Nat × KE)) : Bool :=
  let B := masks ops
  ((List.range ops.size).all fun i => match ops[i]? with
    | some o => decide (B.getD i 0 = maskOf B o)
    | none => false) && ordOk ops && decide (ks.map (·.1) = List.range ops.size) && pairsK B ks

theorem pairsK_eq (B : Array Nat) (es : List (Nat × Eff)) : pairsK B (es.map kOf) = pairsOk B es := by
  induction es with
  | nil => rfl
  | cons p r ih =>
    simp only [List.map_cons, pairsK, pairsOk, ih, List.all_map]
    rfl

theorem drawK_ok {ops : Array Oper} {es : List (Nat × Eff)} (h : drawK ops (es.map kOf) = true) : drawOk ops es = true := by
  have e : (es.map kOf).map (·.1) = es.map (·.1) := by rw [List.map_map]; rfl
  simp only [drawK, pairsK_eq, e] at h
  exact h

theorem binds_any {m : Region.Mode} {e : Edge} (h : Region.binds .any e = true) : Region.binds m e = true := by
  unfold Region.binds at *
  split at h <;> simp_all

theorem maskOf_bit {B : Array Nat} {o : Oper} {j : Nat} (h : (maskOf B o).testBit j = true) : ∃ e ∈ o.after.toList, Region.binds .any e = true ∧ (j = e.on ∨ (B.getD e.on 0).testBit j = true) := by
  have key : ∀ (l : List Edge) (s : Nat), (l.foldl (fun s e => if Region.binds .any e then s ||| 2 ^ e.on ||| B.getD e.on 0 else s) s).testBit j = true → s.testBit j = true ∨ ∃ e ∈ l, Region.binds .any e = true ∧ (j = e.on ∨ (B.getD e.on 0).testBit j = true) := by
    intro l
    induction l with
    | nil => intro s h; exact .inl h
    | cons e l ih =>
      intro s h
      rw [List.foldl_cons] at h
      rcases ih _ h with h | ⟨e', he', h1, h2⟩
      · by_cases hb : Region.binds .any e = true
        · rw [if_pos hb] at h
          rw [Nat.testBit_or, Nat.testBit_or, Nat.testBit_two_pow, Bool.or_eq_true, Bool.or_eq_true] at h
          rcases h with (h | h) | h
          · exact .inl h
          · exact .inr ⟨e, List.mem_cons_self, hb, .inl (by simpa using (of_decide_eq_true h).symm)⟩
          · exact .inr ⟨e, List.mem_cons_self, hb, .inr h⟩
        · rw [if_neg hb] at h; exact .inl h
      · exact .inr ⟨e', List.mem_cons_of_mem _ he', h1, h2⟩
  rcases key _ _ h with h | h
  · simp at h
  · exact h

theorem pairsOk_pw {B : Array Nat} {es : List (Nat × Eff)} (h : pairsOk B es = true) : es.Pairwise fun p q => p.1 < q.1 ∧ ((B.getD q.1 0).testBit p.1 = true ∨ Indep p.2 q.2) := by
  induction es with
  | nil => exact .nil
  | cons p r ih =>
    simp only [pairsOk, Bool.and_eq_true, List.all_eq_true] at h
    refine .cons ?_ (ih h.2)
    intro q hq
    have := h.1 q hq
    simp only [Bool.or_eq_true, decide_eq_true_eq] at this
    exact ⟨this.1, this.2.imp id indepB_sound⟩

theorem lin_go {m : Region.Mode} {ops : Array Oper} {B : Array Nat} (hB : ∀ i o, ops[i]? = some o → B.getD i 0 = maskOf B o) {rk : Nat → Nat} (hrk : ∀ i o, ops[i]? = some o → ∀ e ∈ o.after.toList, Region.binds m e = true → e.on < ops.size ∧ rk e.on < rk i) :
    ∀ (fuel t : Nat) (listed : Array Bool) (acc : List Nat) (rem : List (Nat × Eff)), listed.size = ops.size →
      rem.Pairwise (fun p q => p.1 < q.1 ∧ ((B.getD q.1 0).testBit p.1 = true ∨ Indep p.2 q.2)) →
      (∀ i, i ∈ rem.map (·.1) ↔ i < ops.size ∧ listed.getD i true = false) →
      (∀ i, listed.getD i false = true → ∀ j, (B.getD i 0).testBit j = true → listed.getD j false = true) → rem.length ≤ fuel →
      ∃ l, Region.linearise.go m ops fuel t listed acc = acc.reverse ++ l ∧ Mix l rem := by
  intro fuel
  induction fuel with
  | zero =>
    intro t listed acc rem _ _ _ _ hf
    have : rem = [] := List.length_eq_zero_iff.1 (Nat.le_zero.1 hf)
    subst this
    exact ⟨[], by simp [Region.linearise.go], .nil⟩
  | succ fuel ih =>
    intro t listed acc rem hsz hpw hmem hcl hf
    rw [Region.linearise.go]
    generalize hrs : ((List.range ops.size).filter fun i => !listed.getD i true && ((ops[i]?).map (·.after.all fun e => !Region.binds m e || listed.getD e.on false)).getD false) = rs
    have hrs' : ∀ i, i ∈ rs ↔ i < ops.size ∧ listed.getD i true = false ∧ ∀ o, ops[i]? = some o → ∀ e ∈ o.after.toList, Region.binds m e = true → listed.getD e.on false = true := by
      intro i
      rw [← hrs, List.mem_filter, List.mem_range]
      constructor
      · rintro ⟨h1, h2⟩
        rw [Bool.and_eq_true] at h2
        refine ⟨h1, by simpa using h2.1, ?_⟩
        intro o ho e he hb
        have h3 := h2.2
        rw [ho] at h3
        simp only [Option.map_some, Option.getD_some, Array.all_eq_true_iff_forall_mem] at h3
        have := h3 e (by simpa using he)
        rw [hb] at this
        simpa using this
      · rintro ⟨h1, h2, h3⟩
        refine ⟨h1, ?_⟩
        rw [Bool.and_eq_true]
        refine ⟨by simpa using h2, ?_⟩
        rw [Array.getElem?_eq_getElem h1]
        simp only [Option.map_some, Option.getD_some, Array.all_eq_true_iff_forall_mem]
        intro e he
        cases hb : Region.binds m e with
        | false => rfl
        | true => simpa using h3 _ (Array.getElem?_eq_getElem h1) e (by simpa using he) hb
    cases hr : rs[t % rs.length]? with
    | none =>
      have hz : rs.length = 0 := by
        rcases Nat.eq_zero_or_pos rs.length with h | h
        · exact h
        · rw [List.getElem?_eq_getElem (Nat.mod_lt _ h)] at hr; cases hr
      have hz' : rs = [] := List.length_eq_zero_iff.1 hz
      have hrem : rem = [] := by
        apply Classical.byContradiction
        intro hne
        obtain ⟨p, hpm, hmin⟩ := min_rank (fun q : Nat × Eff => rk q.1) rem hne
        have hp := (hmem p.1).1 (List.mem_map_of_mem hpm)
        have : p.1 ∈ rs := by
          rw [hrs']
          refine ⟨hp.1, hp.2, ?_⟩
          intro o ho e he hb
          obtain ⟨hsz1, hlt⟩ := hrk _ _ ho e he hb
          cases hl : listed.getD e.on false with
          | true => rfl
          | false =>
            exfalso
            have hls : e.on < listed.size := by rw [hsz]; omega
            have h1 : e.on ∈ rem.map (·.1) := (hmem e.on).2 ⟨by omega, by rw [← hl]; simp [hls]⟩
            obtain ⟨q, hq, hq2⟩ := List.mem_map.1 h1
            have := hmin q hq
            simp only [hq2] at this
            omega
        rw [hz'] at this; cases this
      subst hrem
      exact ⟨[], by simp, .nil⟩
    | some i =>
      have hi : i ∈ rs := List.mem_of_getElem? hr
      obtain ⟨hin, hil, hie⟩ := (hrs' i).1 hi
      obtain ⟨p, hp, hpi⟩ := List.mem_map.1 ((hmem i).2 ⟨hin, hil⟩)
      obtain ⟨es1, es2, hrem⟩ := List.append_of_mem hp
      subst hpi
      subst hrem
      have hanc : ∀ j, (B.getD p.1 0).testBit j = true → listed.getD j false = true := by
        intro j hj
        have ho := Array.getElem?_eq_getElem hin
        rw [hB _ _ ho] at hj
        obtain ⟨e, he, hb, h | h⟩ := maskOf_bit hj
        · rw [h]; exact hie _ ho e he (binds_any hb)
        · exact hcl _ (hie _ ho e he (binds_any hb)) j h
      have hsub : (es1 ++ es2).Sublist (es1 ++ p :: es2) := List.Sublist.append_left (List.sublist_cons_self _ _) _
      have hne : ∀ q ∈ es1 ++ es2, q.1 ≠ p.1 := by
        intro q hq
        rcases List.mem_append.1 hq with hq | hq
        · have := ((List.pairwise_append.1 hpw).2.2 q hq p List.mem_cons_self).1
          omega
        · have := ((List.pairwise_cons.1 (List.pairwise_append.1 hpw).2.1).1 q hq).1
          omega
      have hset : ∀ j d, (listed.setIfInBounds p.1 true).getD j d = if j = p.1 then true else listed.getD j d := by
        intro j d
        have hls : p.1 < listed.size := by rw [hsz]; exact hin
        simp only [Array.getD_eq_getD_getElem?, Array.getElem?_setIfInBounds]
        by_cases h : p.1 = j
        · subst h; simp [hls]
        · rw [if_neg h, if_neg (fun e => h e.symm)]
      obtain ⟨l, hl, hm⟩ := ih (t / rs.length) (listed.setIfInBounds p.1 true) (p.1 :: acc) (es1 ++ es2) (by simp [hsz]) (hpw.sublist hsub) (by
        intro j
        rw [hset]
        constructor
        · intro hj
          obtain ⟨q, hq, rfl⟩ := List.mem_map.1 hj
          have := (hmem q.1).1 (List.mem_map_of_mem (hsub.subset hq))
          exact ⟨this.1, by rw [if_neg (hne q hq)]; exact this.2⟩
        · rintro ⟨h1, h2⟩
          split at h2
          · cases h2
          · rename_i hjp
            obtain ⟨q, hq, hqj⟩ := List.mem_map.1 ((hmem j).2 ⟨h1, h2⟩)
            refine List.mem_map.2 ⟨q, ?_, hqj⟩
            rcases List.mem_append.1 hq with h | h
            · exact List.mem_append_left _ h
            · rcases List.mem_cons.1 h with rfl | h
              · exact absurd hqj.symm hjp
              · exact List.mem_append_right _ h) (by
        intro j hj k hk
        rw [hset] at hj ⊢
        split
        · rfl
        · split at hj
          · rename_i h1; subst h1; exact hanc k hk
          · exact hcl j hj k hk) (by simp at hf ⊢; omega)
      refine ⟨p.1 :: l, by simp only [hl]; simp, .cons l es1 es2 p ?_ hm⟩
      intro q hq
      rcases ((List.pairwise_append.1 hpw).2.2 q hq p List.mem_cons_self).2 with h | h
      · exfalso
        have h1 := hanc _ h
        have h2 := (hmem q.1).1 (List.mem_map_of_mem (List.mem_append_left _ hq))
        have hls : q.1 < listed.size := by rw [hsz]; exact h2.1
        have h3 := h2.2
        simp [hls] at h1 h3
        rw [h1] at h3; cases h3
      · exact h

theorem drawOk_mix {ops : Array Oper} {es : List (Nat × Eff)} (h : drawOk ops es = true) (mixed : Bool) (t : Nat) : Mix (Region.schedule mixed ops t) es := by
  simp only [drawOk, Bool.and_eq_true, List.all_eq_true, decide_eq_true_eq] at h
  obtain ⟨⟨⟨h1, h0⟩, h2⟩, h3⟩ := h
  have hB : ∀ i o, ops[i]? = some o → (masks ops).getD i 0 = maskOf (masks ops) o := by
    intro i o ho
    have hi : i < ops.size := (Array.getElem?_eq_some_iff.1 ho).1
    have := h1 i (List.mem_range.2 hi)
    rw [ho] at this
    simpa using this
  have key : ∀ m t, Mix (Region.linearise m ops t) es := by
    intro m t
    obtain ⟨rk, hrk⟩ := ordOk_rank h0 m
    obtain ⟨l, hl, hm⟩ := lin_go (m := m) hB hrk ops.size t (Array.replicate ops.size false) [] es (by simp) (pairsOk_pw h3) (by
      intro i
      rw [h2, List.mem_range]
      constructor
      · intro h; exact ⟨h, by simp [h]⟩
      · exact fun h => h.1) (by
      intro i hi
      simp only [Array.getD_eq_getD_getElem?, Array.getElem?_replicate] at hi
      split at hi <;> simp at hi) (by
      have := congrArg List.length h2
      simp at this; omega)
    rw [Region.linearise, hl]
    exact hm
  unfold Region.schedule
  split
  · exact key _ _
  · exact key _ _

end Go.AM
