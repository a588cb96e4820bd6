/- The abstract machine, part 12: a function's contract; what is handed to a call and what comes back. -/
import Derived.Test.YtefkpiameojpoaaAm11
set_option linter.unusedVariables false
set_option linter.unusedSimpArgs false
namespace Go.AM

mutual
/-- a tree of which nothing is owned -/
def unown : AV → AV
  | .osl es l => .isl es (unownLL l)
  | .op l => .ip (unownL l)
  | .agg cs => .agg (unownL cs)
  | .tup cs => .tup (unownL cs)
  | x => x
def unownL : List AV → List AV
  | [] => []
  | x :: xs => unown x :: unownL xs
def unownLL : List (List AV) → List (List AV)
  | [] => []
  | c :: cs => unownL c :: unownLL cs
end

theorem unownL_eq (l : List AV) : unownL l = l.map unown := by induction l with | nil => rfl | cons x l ih => simp [unownL, ih]
theorem unownLL_eq (l : List (List AV)) : unownLL l = l.map (·.map unown) := by induction l with | nil => rfl | cons x l ih => simp [unownLL, unownL_eq, ih]

theorem unown_plain {x : AV} (h : x.tree = true) : (unown x).plain = true := by
  cases x <;> simp [AV.tree] at h <;> simp [unown, AV.plain]

theorem I.unown {w : World} {lab : Labs} {x : AV} {v : Value} (h : I w lab x v) : Go.AM.unown x = x := by
  have key : ∀ (cs : List AV) (vs : List Value), cs.length = vs.length → (∀ (j : Nat) x y, cs[j]? = some x → vs[j]? = some y → Go.AM.unown x = x) → unownL cs = cs := by
    intro cs vs hl ih
    rw [unownL_eq]
    apply List.ext_getElem?
    intro j
    rw [List.getElem?_map]
    cases hj : cs[j]? with
    | none => rfl
    | some x =>
      have : j < vs.length := by rw [← hl]; exact (List.getElem?_eq_some_iff.1 hj).1
      simp [ih j x _ hj (List.getElem?_eq_getElem this)]
  induction h with
  | agg cs vs hl _ ih => simp only [Go.AM.unown]; rw [key cs vs hl ih]
  | tup cs vs hl _ ih => simp only [Go.AM.unown]; rw [key cs vs hl ih]
  | _ => rfl

theorem T.unown {w : World} {lab lab' : Labs} {p : Lab} {x : AV} {v : Value} (h : T w lab p x v) (h0 : ∀ b, lab b = none → lab' b = none) (h1 : ∀ b q, lab b = some (p.app q) → lab' b = none) :
    I w lab' (unown x) v := by
  induction h with
  | imm p x v h => rw [h.unown]; exact h.mono (fun b _ hb => ⟨h0 b hb, rfl⟩) (Nat.le_refl _)
  | osl p es l b off cap vals hb hk hc hes hp hv _ ih =>
    simp only [Go.AM.unown, unownLL_eq]
    have hlen : (l.map (·.map Go.AM.unown)).length = l.length := by simp
    have hres := I.isl (w := w) (lab := lab') es (l.map (·.map Go.AM.unown)) b off cap vals (h1 b [] (by rw [Lab.app_nil]; exact hb)) hk.lt (by rw [hlen]; exact hc)
      (by intro c hc; obtain ⟨c', hc', rfl⟩ := List.mem_map.1 hc; rw [List.length_map]; exact hes c' hc')
      (by
        intro c hc x hx
        obtain ⟨c', hc', rfl⟩ := List.mem_map.1 hc
        obtain ⟨y, hy, rfl⟩ := List.mem_map.1 hx
        exact unown_plain (hp c' hc' y hy))
      (by intro i j hi hj; exact hv i j (by rw [← hlen]; exact hi) hj)
      (by
        intro i c j x hi hj
        simp only [List.getElem?_map, Option.map_eq_some_iff] at hi
        obtain ⟨c', hc', rfl⟩ := hi
        simp only [List.getElem?_map, Option.map_eq_some_iff] at hj
        obtain ⟨y, hy, rfl⟩ := hj
        exact ih i c' j y hc' hy (fun b q hq => by rw [Lab.down_app] at hq; exact h1 b _ hq))
    rw [hlen] at hres
    exact hres
  | op p l b off vals hb hk hp hv _ ih =>
    simp only [Go.AM.unown, unownL_eq]
    refine .ip _ b off vals (h1 b [] (by rw [Lab.app_nil]; exact hb)) hk.lt (by intro j hj; exact hv j (by simpa using hj)) ?_
    intro j x hj
    simp only [List.getElem?_map, Option.map_eq_some_iff] at hj
    obtain ⟨y, hy, rfl⟩ := hj
    exact ih j y hy (fun b q hq => by rw [Lab.down_app] at hq; exact h1 b _ hq)
  | agg p cs vs hl _ ih =>
    simp only [Go.AM.unown, unownL_eq]
    refine .agg _ _ (by simpa using hl) ?_
    intro j x y hx hy
    simp only [List.getElem?_map, Option.map_eq_some_iff] at hx
    obtain ⟨z, hz, rfl⟩ := hx
    exact ih j z y hz hy (fun b q hq => by rw [Lab.down_app] at hq; exact h1 b _ hq)
  | tup p cs vs hl _ ih =>
    simp only [Go.AM.unown, unownL_eq]
    refine .tup _ _ (by simpa using hl) ?_
    intro j x y hx hy
    simp only [List.getElem?_map, Option.map_eq_some_iff] at hx
    obtain ⟨z, hz, rfl⟩ := hx
    exact ih j z y hz hy (fun b q hq => by rw [Lab.down_app] at hq; exact h1 b _ hq)

/-- a function that is entered -/
def HasBody (P : Program) (f : FuncId) : Prop := ∃ fn, P.funcs[f]? = some fn ∧ fn.body.isNone = false ∧ (fn.name == "runtime.NumGoroutine") = false

/-- a function's contract: arguments as trees; what it hands back, as a tree; the arguments that are written, as trees behind the call -/
structure DC (P : Program) (f : FuncId) (args : List AV) (res : AV) (muts : List (Nat × AV)) : Prop where
  body : HasBody P f
  calls : ∀ (w : World) (lab : Labs) (vals : List Value), args.length = vals.length → (∀ (k : Nat) x v, args[k]? = some x → vals[k]? = some v → T w lab (.arg k, []) x v) →
    (∀ b, lab b ≠ none → b < w.heap.size) →
    Calls P f ⟨vals⟩ w fun e w' => ∃ v lab', e = .returned v ∧ T w' lab' (.res, []) res v ∧ (∀ p ∈ muts, ∀ v, vals[p.1]? = some v → T w' lab' (.arg p.1, []) p.2 v) ∧
      Ext lab w lab' w' ∧ ∀ b, lab' b ≠ none → b < w'.heap.size

/-! ### what is handed to a call -/
abbrev PlanI := List (Nat × (Nat × List (Nat × Nat)))

/-- the labels that the callee sees: what it may write is an argument's; what is only read has none; all else is not its own -/
def labC (lab : Labs) (pl : PlanI) (ro : List Nat) : Labs := fun b => match lab b with
  | some (.obj id, p) => match look id pl with
    | some (k, pre) => some (.arg k, pre ++ p)
    | none => if id ∈ ro then none else some (.tmp, [])
  | none => none
  | some _ => some (.tmp, [])

theorem labC_none {lab : Labs} {pl : PlanI} {ro : List Nat} {b : Nat} (h : lab b = none) : labC lab pl ro b = none := by simp [labC, h]

/-- a simple argument -/
def frz0 (nodes : Nat → Option Node) (own : Bool) (k : Nat) (pre : List (Nat × Nat)) : AV → Option (AV × PlanI × Prop)
  | .sl id es i len => match nodes id with
    | some nd => if nd.es = es then
        match own with
        | true => if i = 0 then some (.osl es nd.l, [(id, (k, pre))], len = nd.l.length ∧ ∀ c ∈ nd.l, ∀ x ∈ c, AV.tree x = true) else none
        | false => some (.isl es (((nd.l.drop i).take len).map (·.map unown)), [], i + len ≤ nd.l.length ∧ ∀ c ∈ (nd.l.drop i).take len, ∀ x ∈ c, AV.tree x = true)
      else none
    | none => none
  | .ptr id es i j => match nodes id with
    | some nd => if nd.es = es then
        match own with
        | true => match nd.l with
          | [c] => if i = 0 ∧ j = 0 then some (.op c, [(id, (k, pre))], ∀ x ∈ c, AV.tree x = true) else none
          | _ => none
        | false => some (.ip (((nd.l.getD i []).drop j).map unown), [], i < nd.l.length ∧ j ≤ es ∧ ∀ x ∈ (nd.l.getD i []).drop j, AV.tree x = true)
      else none
    | none => none
  | .bool b => some (.bool b, [], True)
  | .int k n => some (.int k n, [], True)
  | .str s => some (.str s, [], True)
  | .nilp => some (.nilp, [], True)
  | .nils => some (.nils, [], True)
  | .zsl => some (.zsl, [], True)
  | .nel => some (.nel, [], True)
  | .isl es l => some (.isl es l, [], True)
  | .ip l => some (.ip l, [], True)
  | _ => none

def frzL (nodes : Nat → Option Node) (own : Bool) (k : Nat) (pre : Nat → List (Nat × Nat)) : Nat → List AV → Option (List AV × PlanI × Prop)
  | _, [] => some ([], [], True)
  | j, x :: xs => match frz0 nodes own k (pre j) x, frzL nodes own k pre (j + 1) xs with
    | some (t, p, ok), some (ts, ps, oks) => some (t :: ts, p ++ ps, ok ∧ oks)
    | _, _ => none

def frz (nodes : Nat → Option Node) (own : Bool) (k : Nat) : AV → Option (AV × PlanI × Prop)
  | .agg cs => match frzL nodes own k (fun j => [(0, j)]) 0 cs with
    | some (ts, p, ok) => some (.agg ts, p, ok)
    | none => none
  | .fn f cs => match frzL nodes false k (fun _ => []) 0 cs with
    | some (ts, _, ok) => some (.fn f ts, [], ok)
    | none => none
  | x => frz0 nodes own k [] x

section snd
variable {w : World} {lab : Labs} {loc : Locs} {nodes : Nat → Option Node} (hn : ∀ id nd, nodes id = some nd → ∃ b base, loc id = some (b, base) ∧ ObjOk w lab loc id nd b base)
  {pl : PlanI} {ro : List Nat}

theorem Cell.tree {p : Lab} {x : AV} {v : Value} (h : Cell w lab loc p x v) (hx : x.tree = true) : T w lab p x v := by
  rcases h with h | h
  · cases h with
    | imm _ _ h => exact .imm _ _ _ h
    | _ => simp [AV.tree] at hx
  · exact h

include hn in
theorem frz0_sound {own : Bool} {k : Nat} {pre : List (Nat × Nat)} {x t : AV} {p : PlanI} {ok : Prop} (h : frz0 nodes own k pre x = some (t, p, ok)) (hok : ok)
    {v : Value} (hx : V w lab loc x v) (hp : ∀ e ∈ p, look e.1 pl = some e.2) (hro : own = false → ∀ id ∈ x.ids, look id pl = none ∧ id ∈ ro) :
    T w (labC lab pl ro) (.arg k, pre) t v ∧ (own = false → I w (labC lab pl ro) t v) := by
  have hsc : ∀ y, I w lab y v → T w (labC lab pl ro) (.arg k, pre) y v ∧ (own = false → I w (labC lab pl ro) y v) := by
    intro y hy
    have := hy.mono (w' := w) (lab' := labC lab pl ro) (fun b _ hb => ⟨labC_none hb, rfl⟩) (Nat.le_refl _)
    exact ⟨.imm _ _ _ this, fun _ => this⟩
  unfold frz0 at h
  split at h
  · rename_i id es i len
    split at h <;> first | (cases h; done) | skip
    rename_i nd hnd
    split at h <;> first | (cases h; done) | skip
    rename_i hes
    obtain ⟨b, base, hl, ho⟩ := hn id nd hnd
    obtain ⟨a, cap, rfl, h1, h2, h3⟩ := hx.inv_sl hl
    split at h
    · split at h <;> first | (cases h; done) | cases h
      rename_i hi
      subst hi
      obtain ⟨hlen, htree⟩ := hok
      have ha : a = ⟨b, base, none⟩ := by rcases h2 with h | h; omega; simpa using h
      subst ha
      have hlk := hp (id, (k, pre)) (by simp)
      have hlabc : ∀ b' q, lab b' = some (.obj id, q) → labC lab pl ro b' = some (.arg k, pre ++ q) := by
        intro b' q hq; simp only [labC, hq]; simp only at hlk; rw [hlk]
      subst hlen
      refine ⟨?_, fun h => by cases h⟩
      subst hes
      refine .osl _ nd.es nd.l b base cap (fun i j => (w.cell? ⟨b, base + i * nd.es + j, none⟩).getD undef) ?_ (by simpa using h3) h1 ho.es htree ?_ ?_
      · rw [hlabc b [] ho.hlab]; simp
      · intro i j hi hj
        have hc : nd.l[i]? = some nd.l[i] := List.getElem?_eq_getElem hi
        have hcl := ho.es _ (List.mem_of_getElem? hc)
        obtain ⟨v, hv, _⟩ := ho.cells i _ j _ hc (List.getElem?_eq_getElem (by omega))
        rw [hv]; rfl
      · intro i c j x hi hj
        obtain ⟨v, hv, hcv⟩ := ho.cells i c j x hi hj
        simp only [hv, Option.getD_some]
        refine (hcv.tree (htree c (List.mem_of_getElem? hi) x (List.mem_of_getElem? hj))).move (fun b _ hb => ⟨labC_none hb, rfl⟩) ?_ (Nat.le_refl _)
        intro b' q _ hq
        refine ⟨?_, rfl⟩
        rw [hlabc b' _ hq]
        simp [Lab.app, Lab.down]
    · cases h
      obtain ⟨hlen, htree⟩ := hok
      obtain ⟨hnone, hin⟩ := hro rfl id (by simp only [AV.ids]; exact List.mem_singleton.2 rfl)
      have hlabc : ∀ b' q, lab b' = some (.obj id, q) → labC lab pl ro b' = none := by
        intro b' q hq; simp only [labC, hq, hnone, hin, if_true]
      have key : I w (labC lab pl ro) (.isl es (((nd.l.drop i).take len).map (·.map unown))) (.slice (some a) len cap) := by
        have hll : ((nd.l.drop i).take len).length = len := by simp; omega
        by_cases hz : len = 0
        · subst hz
          simp only [List.take_zero, List.map_nil]
          exact .esl _ _ _
        have ha : a = ⟨b, base + i * es, none⟩ := by rcases h2 with h | h; omega; exact h
        subst ha
        have hres := I.isl (w := w) (lab := labC lab pl ro) es (((nd.l.drop i).take len).map (·.map unown)) b (base + i * es) cap
          (fun i' j => (w.cell? ⟨b, base + i * es + i' * es + j, none⟩).getD undef) (hlabc b [] ho.hlab) ho.blk.lt (by rw [List.length_map, hll]; exact h1)
          (by
            intro c hc
            obtain ⟨c', hc', rfl⟩ := List.mem_map.1 hc
            rw [List.length_map, ← hes]
            exact ho.es c' (List.mem_of_mem_drop (List.mem_of_mem_take hc')))
          (by
            intro c hc x hx
            obtain ⟨c', hc', rfl⟩ := List.mem_map.1 hc
            obtain ⟨y, hy, rfl⟩ := List.mem_map.1 hx
            exact unown_plain (htree c' hc' y hy))
          (by
            intro m j hm hj
            rw [List.length_map, hll] at hm
            have hc : nd.l[i + m]? = some nd.l[i + m] := List.getElem?_eq_getElem (by omega)
            have hcl := ho.es _ (List.mem_of_getElem? hc)
            obtain ⟨v, hv, _⟩ := ho.cells (i + m) _ j _ hc (List.getElem?_eq_getElem (by omega))
            rw [hes, Nat.add_mul, ← Nat.add_assoc] at hv
            rw [hv]; rfl)
          (by
            intro m c j x hm hj
            simp only [List.getElem?_map, Option.map_eq_some_iff] at hm
            obtain ⟨c', hc', rfl⟩ := hm
            simp only [List.getElem?_map, Option.map_eq_some_iff] at hj
            obtain ⟨y, hy, rfl⟩ := hj
            have hml : m < len := by
              have := (List.getElem?_eq_some_iff.1 hc').1
              omega
            have hc2 : nd.l[i + m]? = some c' := by
              rw [List.getElem?_take, if_pos hml, List.getElem?_drop] at hc'; exact hc'
            obtain ⟨v, hv, hcv⟩ := ho.cells (i + m) c' j y hc2 hy
            rw [hes, Nat.add_mul, ← Nat.add_assoc] at hv
            simp only [hv, Option.getD_some]
            exact (hcv.tree (htree c' (List.mem_of_getElem? hc') y (List.mem_of_getElem? hy))).unown (fun b hb => labC_none hb) (fun b' q hq => hlabc b' _ hq))
        rw [List.length_map, hll] at hres
        exact hres
      exact ⟨.imm _ _ _ key, fun _ => key⟩
  · rename_i id es i j
    split at h <;> first | (cases h; done) | skip
    rename_i nd hnd
    split at h <;> first | (cases h; done) | skip
    rename_i hes
    obtain ⟨b, base, hl, ho⟩ := hn id nd hnd
    rw [hx.inv_ptr hl]
    split at h
    · split at h <;> first | (cases h; done) | skip
      rename_i c hc1
      split at h <;> first | (cases h; done) | cases h
      rename_i hij
      obtain ⟨rfl, rfl⟩ := hij
      have hlk := hp (id, (k, pre)) (by simp)
      have hlabc : ∀ b' q, lab b' = some (.obj id, q) → labC lab pl ro b' = some (.arg k, pre ++ q) := by
        intro b' q hq; simp only [labC, hq]; simp only at hlk; rw [hlk]
      have hcl : c.length = nd.es := ho.es c (by rw [hc1]; exact List.mem_singleton.2 rfl)
      have hblk := ho.blk
      rw [hc1] at hblk
      refine ⟨?_, fun h => by cases h⟩
      simp only [Nat.zero_mul, Nat.add_zero]
      refine .op _ c b base (fun j => (w.cell? ⟨b, base + j, none⟩).getD undef) ?_ (hblk.le (by simp; omega)) hok ?_ ?_
      · rw [hlabc b [] ho.hlab]; simp
      · intro j hj
        obtain ⟨v, hv, _⟩ := ho.cells 0 c j _ (by rw [hc1]; rfl) (List.getElem?_eq_getElem hj)
        simp only [Nat.zero_mul, Nat.add_zero] at hv
        rw [hv]; rfl
      · intro j x hj
        obtain ⟨v, hv, hcv⟩ := ho.cells 0 c j x (by rw [hc1]; rfl) hj
        simp only [Nat.zero_mul, Nat.add_zero] at hv
        simp only [hv, Option.getD_some]
        refine (hcv.tree (hok x (List.mem_of_getElem? hj))).move (fun b _ hb => ⟨labC_none hb, rfl⟩) ?_ (Nat.le_refl _)
        intro b' q _ hq
        refine ⟨?_, rfl⟩
        rw [hlabc b' _ hq]
        simp [Lab.app, Lab.down]
    · cases h
      obtain ⟨hi, hj, htree⟩ := hok
      obtain ⟨hnone, hin⟩ := hro rfl id (by simp only [AV.ids]; exact List.mem_singleton.2 rfl)
      have hlabc : ∀ b' q, lab b' = some (.obj id, q) → labC lab pl ro b' = none := by
        intro b' q hq; simp only [labC, hq, hnone, hin, if_true]
      have hci : nd.l[i]? = some (nd.l.getD i []) := getD_lt hi
      have hcl : (nd.l.getD i []).length = es := by rw [← hes]; exact ho.es _ (List.mem_of_getElem? hci)
      have key : I w (labC lab pl ro) (.ip (((nd.l.getD i []).drop j).map unown)) (.pointer (some ⟨b, base + i * es + j, none⟩)) := by
        refine .ip _ b (base + i * es + j) (fun m => (w.cell? ⟨b, base + i * es + j + m, none⟩).getD undef) (hlabc b [] ho.hlab) ho.blk.lt ?_ ?_
        · intro m hm
          rw [List.length_map, List.length_drop] at hm
          obtain ⟨v, hv, _⟩ := ho.cells i _ (j + m) _ hci (List.getElem?_eq_getElem (by omega))
          rw [hes, ← Nat.add_assoc] at hv
          rw [hv]; rfl
        · intro m x hm
          simp only [List.getElem?_map, Option.map_eq_some_iff] at hm
          obtain ⟨y, hy, rfl⟩ := hm
          have hy2 := hy
          rw [List.getElem?_drop] at hy2
          obtain ⟨v, hv, hcv⟩ := ho.cells i _ (j + m) y hci hy2
          rw [hes, ← Nat.add_assoc] at hv
          simp only [hv, Option.getD_some]
          exact (hcv.tree (htree y (List.mem_of_getElem? hy))).unown (fun b hb => labC_none hb) (fun b' q hq => hlabc b' _ hq)
      exact ⟨.imm _ _ _ key, fun _ => key⟩
  all_goals first
    | (cases h; done)
    | (cases h
       cases hx with
       | imm _ _ hi => exact hsc _ hi)

include hn in
theorem frzL_sound {own : Bool} {k : Nat} {pre : Nat → List (Nat × Nat)} : ∀ (xs : List AV) (vs : List Value) (j : Nat) (ts : List AV) (p : PlanI) (ok : Prop), frzL nodes own k pre j xs = some (ts, p, ok) → ok →
    xs.length = vs.length → (∀ (i : Nat) x v, xs[i]? = some x → vs[i]? = some v → V w lab loc x v) → (∀ e ∈ p, look e.1 pl = some e.2) → (own = false → ∀ id ∈ idsL xs, look id pl = none ∧ id ∈ ro) →
    ts.length = vs.length ∧ ∀ (i : Nat) t v, ts[i]? = some t → vs[i]? = some v → T w (labC lab pl ro) (.arg k, pre (j + i)) t v ∧ (own = false → I w (labC lab pl ro) t v) := by
  intro xs
  induction xs with
  | nil =>
    intro vs j ts p ok h _ hl _ _ _
    simp [frzL] at h
    obtain ⟨rfl, _, _⟩ := h
    exact ⟨hl, by intro i t v hi; simp at hi⟩
  | cons x xs ih =>
    intro vs j ts p ok h hok hl hv hp hro
    simp only [frzL] at h
    split at h <;> first | (cases h; done) | cases h
    rename_i t p1 ok1 ts' ps oks h1 h2
    cases vs with
    | nil => simp at hl
    | cons v vs =>
      obtain ⟨hk1, hk2⟩ := hok
      have hA := frz0_sound hn h1 hk1 (hv 0 x v rfl rfl) (fun e he => hp e (List.mem_append_left _ he)) (fun ho id hid => hro ho id (by simp only [idsL]; exact List.mem_append_left _ hid))
      obtain ⟨hB1, hB2⟩ := ih vs (j + 1) ts' ps oks h2 hk2 (by simpa using hl) (fun i y u hy hu => hv (i + 1) y u (by simpa using hy) (by simpa using hu))
        (fun e he => hp e (List.mem_append_right _ he)) (fun ho id hid => hro ho id (by simp only [idsL]; exact List.mem_append_right _ hid))
      refine ⟨by simp [hB1], ?_⟩
      intro i t' v' ht hv'
      cases i with
      | zero => simp at ht hv'; subst ht; subst hv'; exact hA
      | succ i =>
        have := hB2 i t' v' (by simpa using ht) (by simpa using hv')
        rw [show j + 1 + i = j + (i + 1) by omega] at this
        exact this

include hn in
theorem frz_sound {own : Bool} {k : Nat} {x t : AV} {p : PlanI} {ok : Prop} (h : frz nodes own k x = some (t, p, ok)) (hok : ok)
    {v : Value} (hx : V w lab loc x v) (hp : ∀ e ∈ p, look e.1 pl = some e.2) (hro : own = false ∨ (∃ f cs, x = .fn f cs) → ∀ id ∈ x.ids, look id pl = none ∧ id ∈ ro) :
    T w (labC lab pl ro) (.arg k, []) t v := by
  unfold frz at h
  split at h
  · rename_i cs
    split at h <;> first | (cases h; done) | cases h
    rename_i ts ps h1
    obtain ⟨vs, rfl, hl, hr⟩ := hx.inv_agg
    obtain ⟨h2, h3⟩ := frzL_sound hn cs vs 0 _ _ _ h1 hok hl hr hp (fun ho id hid => hro (Or.inl ho) id (by simpa [AV.ids] using hid))
    refine .agg _ _ _ h2 ?_
    intro j y u hy hu
    have := (h3 j y u hy hu).1
    simpa [Lab.down] using this
  · rename_i f cs
    split at h <;> first | (cases h; done) | cases h
    rename_i ts ps okk h1
    obtain ⟨vs, rfl, hl, hr⟩ := hx.inv_fn
    obtain ⟨h2, h3⟩ := frzL_sound (pl := pl) (ro := ro) hn cs vs 0 _ _ _ h1 hok hl hr (by
      -- a plan of what is only read is empty
      have key : ∀ (xs : List AV) (j : Nat) ts ps ok, frzL nodes false k (fun _ => []) j xs = some (ts, ps, ok) → ps = [] := by
        intro xs
        induction xs with
        | nil => intro j ts ps ok h; simp [frzL] at h; exact h.2.1
        | cons y ys ih =>
          intro j ts ps ok h
          simp only [frzL] at h
          split at h <;> first | (cases h; done) | cases h
          rename_i t p1 ok1 ts' ps' oks h1 h2
          have e1 : p1 = [] := by
            unfold frz0 at h1
            split at h1
            · split at h1 <;> first | (cases h1; done) | skip
              split at h1 <;> first | (cases h1; done) | (cases h1; rfl)
            · split at h1 <;> first | (cases h1; done) | skip
              split at h1 <;> first | (cases h1; done) | (cases h1; rfl)
            all_goals first | (cases h1; rfl) | (cases h1; done)
          rw [e1, ih _ _ _ _ h2]; rfl
      rw [key cs 0 _ _ _ h1]
      intro e he; cases he) (fun _ id hid => hro (Or.inr ⟨f, cs, rfl⟩) id (by simpa [AV.ids] using hid))
    refine .imm _ _ _ (.fn f _ vs h2 ?_)
    intro j y u hy hu
    exact (h3 j y u hy hu).2 rfl
  · exact (frz0_sound hn h hok hx hp (fun ho => hro (Or.inl ho))).1
end snd

end Go.AM
