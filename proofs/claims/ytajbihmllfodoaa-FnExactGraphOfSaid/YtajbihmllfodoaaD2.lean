/- Joined texts: Am12 Am13 Am14 Am15 Am16 Am17 Am18 Am19 Am20 Am21 Am22. -/
import Derived.Test.YtajbihmllfodoaaD1
import Derived.WalkKit
import Derived.ProofKit
import Derived.ChangeSame
set_option linter.unusedVariables false
set_option linter.unusedSimpArgs false
namespace Go.AM

mutual
/-- a tree of which nothing is owned -/
def unown : AV → AV
  | .osl es l => .isl es (unownLL l)
  | .op l => .ip (unownL l)
  | .agg cs => .agg (unownL cs)
  | .tup cs => .tup (unownL cs)
  | x => x
def unownL : List AV → List AV
  | [] => []
  | x :: xs => unown x :: unownL xs
def unownLL : List (List AV) → List (List AV)
  | [] => []
  | c :: cs => unownL c :: unownLL cs
end

theorem unownL_eq (l : List AV) : unownL l = l.map unown := by induction l with | nil => rfl | cons x l ih => simp [unownL, ih]
theorem unownLL_eq (l : List (List AV)) : unownLL l = l.map (·.map unown) := by induction l with | nil => rfl | cons x l ih => simp [unownLL, unownL_eq, ih]

theorem unown_plain {x : AV} (h : x.tree = true) : (unown x).plain = true := by
  cases x <;> simp [AV.tree] at h <;> simp [unown, AV.plain]

theorem I.unown {w : World} {lab : Labs} {x : AV} {v : Value} (h : I w lab x v) : Go.AM.unown x = x := by
  have key : ∀ (cs : List AV) (vs : List Value), cs.length = vs.length → (∀ (j : Nat) x y, cs[j]? = some x → vs[j]? = some y → Go.AM.unown x = x) → unownL cs = cs := by
    intro cs vs hl ih
    rw [unownL_eq]
    apply List.ext_getElem?
    intro j
    rw [List.getElem?_map]
    cases hj : cs[j]? with
    | none => rfl
    | some x =>
      have : j < vs.length := by rw [← hl]; exact (List.getElem?_eq_some_iff.1 hj).1
      simp [ih j x _ hj (List.getElem?_eq_getElem this)]
  induction h with
  | agg cs vs hl _ ih => simp only [Go.AM.unown]; rw [key cs vs hl ih]
  | tup cs vs hl _ ih => simp only [Go.AM.unown]; rw [key cs vs hl ih]
  | _ => rfl

theorem T.unown {w : World} {lab lab' : Labs} {p : Lab} {x : AV} {v : Value} (h : T w lab p x v) (h0 : ∀ b, lab b = none → lab' b = none) (h1 : ∀ b q, lab b = some (p.app q) → lab' b = none) :
    I w lab' (unown x) v := by
  induction h with
  | imm p x v h => rw [h.unown]; exact h.mono (fun b _ hb => ⟨h0 b hb, rfl⟩) (Nat.le_refl _)
  | osl p es l b off cap vals hb hk hc hes hp hv _ ih =>
    simp only [Go.AM.unown, unownLL_eq]
    have hlen : (l.map (·.map Go.AM.unown)).length = l.length := by simp
    have hres := I.isl (w := w) (lab := lab') es (l.map (·.map Go.AM.unown)) b off cap vals (h1 b [] (by rw [Lab.app_nil]; exact hb)) hk.lt (by rw [hlen]; exact hc)
      (by intro c hc; obtain ⟨c', hc', rfl⟩ := List.mem_map.1 hc; rw [List.length_map]; exact hes c' hc')
      (by
        intro c hc x hx
        obtain ⟨c', hc', rfl⟩ := List.mem_map.1 hc
        obtain ⟨y, hy, rfl⟩ := List.mem_map.1 hx
        exact unown_plain (hp c' hc' y hy))
      (by intro i j hi hj; exact hv i j (by rw [← hlen]; exact hi) hj)
      (by
        intro i c j x hi hj
        simp only [List.getElem?_map, Option.map_eq_some_iff] at hi
        obtain ⟨c', hc', rfl⟩ := hi
        simp only [List.getElem?_map, Option.map_eq_some_iff] at hj
        obtain ⟨y, hy, rfl⟩ := hj
        exact ih i c' j y hc' hy (fun b q hq => by rw [Lab.down_app] at hq; exact h1 b _ hq))
    rw [hlen] at hres
    exact hres
  | op p l b off vals hb hk hp hv _ ih =>
    simp only [Go.AM.unown, unownL_eq]
    refine .ip _ b off vals (h1 b [] (by rw [Lab.app_nil]; exact hb)) hk.lt (by intro j hj; exact hv j (by simpa using hj)) ?_
    intro j x hj
    simp only [List.getElem?_map, Option.map_eq_some_iff] at hj
    obtain ⟨y, hy, rfl⟩ := hj
    exact ih j y hy (fun b q hq => by rw [Lab.down_app] at hq; exact h1 b _ hq)
  | agg p cs vs hl _ ih =>
    simp only [Go.AM.unown, unownL_eq]
    refine .agg _ _ (by simpa using hl) ?_
    intro j x y hx hy
    simp only [List.getElem?_map, Option.map_eq_some_iff] at hx
    obtain ⟨z, hz, rfl⟩ := hx
    exact ih j z y hz hy (fun b q hq => by rw [Lab.down_app] at hq; exact h1 b _ hq)
  | tup p cs vs hl _ ih =>
    simp only [Go.AM.unown, unownL_eq]
    refine .tup _ _ (by simpa using hl) ?_
    intro j x y hx hy
    simp only [List.getElem?_map, Option.map_eq_some_iff] at hx
    obtain ⟨z, hz, rfl⟩ := hx
    exact ih j z y hz hy (fun b q hq => by rw [Lab.down_app] at hq; exact h1 b _ hq)

/-- a function that is entered -/
def HasBody (P : Program) (f : FuncId) : Prop := ∃ fn, P.funcs[f]? = some fn ∧ fn.body.isNone = false ∧ (fn.name == "runtime.NumGoroutine") = false

/-- a function's contract: arguments as trees; what it hands back, as a tree; the arguments that are written, as trees behind the call -/
structure DC (P : Program) (f : FuncId) (args : List AV) (res : AV) (muts : List (Nat × AV)) : Prop where
  body : HasBody P f
  calls : ∀ (w : World) (lab : Labs) (vals : List Value), args.length = vals.length → (∀ (k : Nat) x v, args[k]? = some x → vals[k]? = some v → T w lab (.arg k, []) x v) →
    (∀ b, lab b ≠ none → b < w.heap.size) →
    Calls P f ⟨vals⟩ w fun e w' => ∃ v lab', e = .returned v ∧ T w' lab' (.res, []) res v ∧ (∀ p ∈ muts, ∀ v, vals[p.1]? = some v → T w' lab' (.arg p.1, []) p.2 v) ∧
      Ext lab w lab' w' ∧ ∀ b, lab' b ≠ none → b < w'.heap.size

/-! ### what is handed to a call -/
abbrev PlanI := List (Nat × (Nat × List (Nat × Nat)))

/-- the labels that the callee sees: what it may write is an argument's; what is only read has none; all else is not its own -/
def labC (lab : Labs) (pl : PlanI) (ro : List Nat) : Labs := fun b => match lab b with
  | some (.obj id, p) => match look id pl with
    | some (k, pre) => some (.arg k, pre ++ p)
    | none => if id ∈ ro then none else some (.tmp, [])
  | none => none
  | some _ => some (.tmp, [])

theorem labC_none {lab : Labs} {pl : PlanI} {ro : List Nat} {b : Nat} (h : lab b = none) : labC lab pl ro b = none := by simp [labC, h]

/-- a simple argument -/
def frz0 (nodes : Nat → Option Node) (own : Bool) (k : Nat) (pre : List (Nat × Nat)) : AV → Option (AV × PlanI × Prop)
  | .sl id es i len => match nodes id with
    | some nd => if nd.es = es then
        match own with
        | true => if i = 0 then some (.osl es nd.l, [(id, (k, pre))], len = nd.l.length ∧ ∀ c ∈ nd.l, ∀ x ∈ c, AV.tree x = true) else none
        | false => some (.isl es (((nd.l.drop i).take len).map (·.map unown)), [], i + len ≤ nd.l.length ∧ ∀ c ∈ (nd.l.drop i).take len, ∀ x ∈ c, AV.tree x = true)
      else none
    | none => none
  | .ptr id es i j => match nodes id with
    | some nd => if nd.es = es then
        match own with
        | true => match nd.l with
          | [c] => if i = 0 ∧ j = 0 then some (.op c, [(id, (k, pre))], ∀ x ∈ c, AV.tree x = true) else none
          | _ => none
        | false => some (.ip (((nd.l.getD i []).drop j).map unown), [], i < nd.l.length ∧ j ≤ es ∧ ∀ x ∈ (nd.l.getD i []).drop j, AV.tree x = true)
      else none
    | none => none
  | .bool b => some (.bool b, [], True)
  | .int k n => some (.int k n, [], True)
  | .str s => some (.str s, [], True)
  | .nilp => some (.nilp, [], True)
  | .nils => some (.nils, [], True)
  | .zsl => some (.zsl, [], True)
  | .nel => some (.nel, [], True)
  | .lns n => some (.lns n, [], True)
  | .val v => some (.val v, [], True)
  | .isl es l => some (.isl es l, [], True)
  | .ip l => some (.ip l, [], True)
  | _ => none

def frzL (nodes : Nat → Option Node) (own : Bool) (k : Nat) (pre : Nat → List (Nat × Nat)) : Nat → List AV → Option (List AV × PlanI × Prop)
  | _, [] => some ([], [], True)
  | j, x :: xs => match frz0 nodes own k (pre j) x, frzL nodes own k pre (j + 1) xs with
    | some (t, p, ok), some (ts, ps, oks) => some (t :: ts, p ++ ps, ok ∧ oks)
    | _, _ => none

def frz (nodes : Nat → Option Node) (own : Bool) (k : Nat) : AV → Option (AV × PlanI × Prop)
  | .agg cs => match frzL nodes own k (fun j => [(0, j)]) 0 cs with
    | some (ts, p, ok) => some (.agg ts, p, ok)
    | none => none
  | .fn f cs => match frzL nodes false k (fun _ => []) 0 cs with
    | some (ts, _, ok) => some (.fn f ts, [], ok)
    | none => none
  | x => frz0 nodes own k [] x

section snd
variable {w : World} {lab : Labs} {loc : Locs} {nodes : Nat → Option Node} (hn : ∀ id nd, nodes id = some nd → ∃ b base, loc id = some (b, base) ∧ ObjOk w lab loc id nd b base)
  {pl : PlanI} {ro : List Nat}

theorem Cell.tree {p : Lab} {x : AV} {v : Value} (h : Cell w lab loc p x v) (hx : x.tree = true) : T w lab p x v := by
  rcases h with h | h
  · cases h with
    | imm _ _ h => exact .imm _ _ _ h
    | _ => simp [AV.tree] at hx
  · exact h

include hn in
theorem frz0_sound {own : Bool} {k : Nat} {pre : List (Nat × Nat)} {x t : AV} {p : PlanI} {ok : Prop} (h : frz0 nodes own k pre x = some (t, p, ok)) (hok : ok)
    {v : Value} (hx : V w lab loc x v) (hp : ∀ e ∈ p, look e.1 pl = some e.2) (hro : own = false → ∀ id ∈ x.ids, look id pl = none ∧ id ∈ ro) :
    T w (labC lab pl ro) (.arg k, pre) t v ∧ (own = false → I w (labC lab pl ro) t v) := by
  have hsc : ∀ y, I w lab y v → T w (labC lab pl ro) (.arg k, pre) y v ∧ (own = false → I w (labC lab pl ro) y v) := by
    intro y hy
    have := hy.mono (w' := w) (lab' := labC lab pl ro) (fun b _ hb => ⟨labC_none hb, rfl⟩) (Nat.le_refl _)
    exact ⟨.imm _ _ _ this, fun _ => this⟩
  unfold frz0 at h
  split at h
  · rename_i id es i len
    split at h <;> first | (cases h; done) | skip
    rename_i nd hnd
    split at h <;> first | (cases h; done) | skip
    rename_i hes
    obtain ⟨b, base, hl, ho⟩ := hn id nd hnd
    obtain ⟨a, cap, rfl, h1, h2, h3⟩ := hx.inv_sl hl
    split at h
    · split at h <;> first | (cases h; done) | cases h
      rename_i hi
      subst hi
      obtain ⟨hlen, htree⟩ := hok
      have ha : a = ⟨b, base, none⟩ := by rcases h2 with h | h; omega; simpa using h
      subst ha
      have hlk := hp (id, (k, pre)) (by simp)
      have hlabc : ∀ b' q, lab b' = some (.obj id, q) → labC lab pl ro b' = some (.arg k, pre ++ q) := by
        intro b' q hq; simp only [labC, hq]; simp only at hlk; rw [hlk]
      subst hlen
      refine ⟨?_, fun h => by cases h⟩
      subst hes
      refine .osl _ nd.es nd.l b base cap (fun i j => (w.cell? ⟨b, base + i * nd.es + j, none⟩).getD undef) ?_ (by simpa using h3) h1 ho.es htree ?_ ?_
      · rw [hlabc b [] ho.hlab]; simp
      · intro i j hi hj
        have hc : nd.l[i]? = some nd.l[i] := List.getElem?_eq_getElem hi
        have hcl := ho.es _ (List.mem_of_getElem? hc)
        obtain ⟨v, hv, _⟩ := ho.cells i _ j _ hc (List.getElem?_eq_getElem (by omega))
        rw [hv]; rfl
      · intro i c j x hi hj
        obtain ⟨v, hv, hcv⟩ := ho.cells i c j x hi hj
        simp only [hv, Option.getD_some]
        refine (hcv.tree (htree c (List.mem_of_getElem? hi) x (List.mem_of_getElem? hj))).move (fun b _ hb => ⟨labC_none hb, rfl⟩) ?_ (Nat.le_refl _)
        intro b' q _ hq
        refine ⟨?_, rfl⟩
        rw [hlabc b' _ hq]
        simp [Lab.app, Lab.down]
    · cases h
      obtain ⟨hlen, htree⟩ := hok
      obtain ⟨hnone, hin⟩ := hro rfl id (by simp only [AV.ids]; exact List.mem_singleton.2 rfl)
      have hlabc : ∀ b' q, lab b' = some (.obj id, q) → labC lab pl ro b' = none := by
        intro b' q hq; simp only [labC, hq, hnone, hin, if_true]
      have key : I w (labC lab pl ro) (.isl es (((nd.l.drop i).take len).map (·.map unown))) (.slice (some a) len cap) := by
        have hll : ((nd.l.drop i).take len).length = len := by simp; omega
        by_cases hz : len = 0
        · subst hz
          simp only [List.take_zero, List.map_nil]
          exact .esl _ _ _
        have ha : a = ⟨b, base + i * es, none⟩ := by rcases h2 with h | h; omega; exact h
        subst ha
        have hres := I.isl (w := w) (lab := labC lab pl ro) es (((nd.l.drop i).take len).map (·.map unown)) b (base + i * es) cap
          (fun i' j => (w.cell? ⟨b, base + i * es + i' * es + j, none⟩).getD undef) (hlabc b [] ho.hlab) ho.blk.lt (by rw [List.length_map, hll]; exact h1)
          (by
            intro c hc
            obtain ⟨c', hc', rfl⟩ := List.mem_map.1 hc
            rw [List.length_map, ← hes]
            exact ho.es c' (List.mem_of_mem_drop (List.mem_of_mem_take hc')))
          (by
            intro c hc x hx
            obtain ⟨c', hc', rfl⟩ := List.mem_map.1 hc
            obtain ⟨y, hy, rfl⟩ := List.mem_map.1 hx
            exact unown_plain (htree c' hc' y hy))
          (by
            intro m j hm hj
            rw [List.length_map, hll] at hm
            have hc : nd.l[i + m]? = some nd.l[i + m] := List.getElem?_eq_getElem (by omega)
            have hcl := ho.es _ (List.mem_of_getElem? hc)
            obtain ⟨v, hv, _⟩ := ho.cells (i + m) _ j _ hc (List.getElem?_eq_getElem (by omega))
            rw [hes, Nat.add_mul, ← Nat.add_assoc] at hv
            rw [hv]; rfl)
          (by
            intro m c j x hm hj
            simp only [List.getElem?_map, Option.map_eq_some_iff] at hm
            obtain ⟨c', hc', rfl⟩ := hm
            simp only [List.getElem?_map, Option.map_eq_some_iff] at hj
            obtain ⟨y, hy, rfl⟩ := hj
            have hml : m < len := by
              have := (List.getElem?_eq_some_iff.1 hc').1
              omega
            have hc2 : nd.l[i + m]? = some c' := by
              rw [List.getElem?_take, if_pos hml, List.getElem?_drop] at hc'; exact hc'
            obtain ⟨v, hv, hcv⟩ := ho.cells (i + m) c' j y hc2 hy
            rw [hes, Nat.add_mul, ← Nat.add_assoc] at hv
            simp only [hv, Option.getD_some]
            exact (hcv.tree (htree c' (List.mem_of_getElem? hc') y (List.mem_of_getElem? hy))).unown (fun b hb => labC_none hb) (fun b' q hq => hlabc b' _ hq))
        rw [List.length_map, hll] at hres
        exact hres
      exact ⟨.imm _ _ _ key, fun _ => key⟩
  · rename_i id es i j
    split at h <;> first | (cases h; done) | skip
    rename_i nd hnd
    split at h <;> first | (cases h; done) | skip
    rename_i hes
    obtain ⟨b, base, hl, ho⟩ := hn id nd hnd
    rw [hx.inv_ptr hl]
    split at h
    · split at h <;> first | (cases h; done) | skip
      rename_i c hc1
      split at h <;> first | (cases h; done) | cases h
      rename_i hij
      obtain ⟨rfl, rfl⟩ := hij
      have hlk := hp (id, (k, pre)) (by simp)
      have hlabc : ∀ b' q, lab b' = some (.obj id, q) → labC lab pl ro b' = some (.arg k, pre ++ q) := by
        intro b' q hq; simp only [labC, hq]; simp only at hlk; rw [hlk]
      have hcl : c.length = nd.es := ho.es c (by rw [hc1]; exact List.mem_singleton.2 rfl)
      have hblk := ho.blk
      rw [hc1] at hblk
      refine ⟨?_, fun h => by cases h⟩
      simp only [Nat.zero_mul, Nat.add_zero]
      refine .op _ c b base (fun j => (w.cell? ⟨b, base + j, none⟩).getD undef) ?_ (hblk.le (by simp; omega)) hok ?_ ?_
      · rw [hlabc b [] ho.hlab]; simp
      · intro j hj
        obtain ⟨v, hv, _⟩ := ho.cells 0 c j _ (by rw [hc1]; rfl) (List.getElem?_eq_getElem hj)
        simp only [Nat.zero_mul, Nat.add_zero] at hv
        rw [hv]; rfl
      · intro j x hj
        obtain ⟨v, hv, hcv⟩ := ho.cells 0 c j x (by rw [hc1]; rfl) hj
        simp only [Nat.zero_mul, Nat.add_zero] at hv
        simp only [hv, Option.getD_some]
        refine (hcv.tree (hok x (List.mem_of_getElem? hj))).move (fun b _ hb => ⟨labC_none hb, rfl⟩) ?_ (Nat.le_refl _)
        intro b' q _ hq
        refine ⟨?_, rfl⟩
        rw [hlabc b' _ hq]
        simp [Lab.app, Lab.down]
    · cases h
      obtain ⟨hi, hj, htree⟩ := hok
      obtain ⟨hnone, hin⟩ := hro rfl id (by simp only [AV.ids]; exact List.mem_singleton.2 rfl)
      have hlabc : ∀ b' q, lab b' = some (.obj id, q) → labC lab pl ro b' = none := by
        intro b' q hq; simp only [labC, hq, hnone, hin, if_true]
      have hci : nd.l[i]? = some (nd.l.getD i []) := getD_lt hi
      have hcl : (nd.l.getD i []).length = es := by rw [← hes]; exact ho.es _ (List.mem_of_getElem? hci)
      have key : I w (labC lab pl ro) (.ip (((nd.l.getD i []).drop j).map unown)) (.pointer (some ⟨b, base + i * es + j, none⟩)) := by
        refine .ip _ b (base + i * es + j) (fun m => (w.cell? ⟨b, base + i * es + j + m, none⟩).getD undef) (hlabc b [] ho.hlab) ho.blk.lt ?_ ?_
        · intro m hm
          rw [List.length_map, List.length_drop] at hm
          obtain ⟨v, hv, _⟩ := ho.cells i _ (j + m) _ hci (List.getElem?_eq_getElem (by omega))
          rw [hes, ← Nat.add_assoc] at hv
          rw [hv]; rfl
        · intro m x hm
          simp only [List.getElem?_map, Option.map_eq_some_iff] at hm
          obtain ⟨y, hy, rfl⟩ := hm
          have hy2 := hy
          rw [List.getElem?_drop] at hy2
          obtain ⟨v, hv, hcv⟩ := ho.cells i _ (j + m) y hci hy2
          rw [hes, ← Nat.add_assoc] at hv
          simp only [hv, Option.getD_some]
          exact (hcv.tree (htree y (List.mem_of_getElem? hy))).unown (fun b hb => labC_none hb) (fun b' q hq => hlabc b' _ hq)
      exact ⟨.imm _ _ _ key, fun _ => key⟩
  all_goals first
    | (cases h; done)
    | (cases h
       cases hx with
       | imm _ _ hi => exact hsc _ hi)

include hn in
theorem frzL_sound {own : Bool} {k : Nat} {pre : Nat → List (Nat × Nat)} : ∀ (xs : List AV) (vs : List Value) (j : Nat) (ts : List AV) (p : PlanI) (ok : Prop), frzL nodes own k pre j xs = some (ts, p, ok) → ok →
    xs.length = vs.length → (∀ (i : Nat) x v, xs[i]? = some x → vs[i]? = some v → V w lab loc x v) → (∀ e ∈ p, look e.1 pl = some e.2) → (own = false → ∀ id ∈ idsL xs, look id pl = none ∧ id ∈ ro) →
    ts.length = vs.length ∧ ∀ (i : Nat) t v, ts[i]? = some t → vs[i]? = some v → T w (labC lab pl ro) (.arg k, pre (j + i)) t v ∧ (own = false → I w (labC lab pl ro) t v) := by
  intro xs
  induction xs with
  | nil =>
    intro vs j ts p ok h _ hl _ _ _
    simp [frzL] at h
    obtain ⟨rfl, _, _⟩ := h
    exact ⟨hl, by intro i t v hi; simp at hi⟩
  | cons x xs ih =>
    intro vs j ts p ok h hok hl hv hp hro
    simp only [frzL] at h
    split at h <;> first | (cases h; done) | cases h
    rename_i t p1 ok1 ts' ps oks h1 h2
    cases vs with
    | nil => simp at hl
    | cons v vs =>
      obtain ⟨hk1, hk2⟩ := hok
      have hA := frz0_sound hn h1 hk1 (hv 0 x v rfl rfl) (fun e he => hp e (List.mem_append_left _ he)) (fun ho id hid => hro ho id (by simp only [idsL]; exact List.mem_append_left _ hid))
      obtain ⟨hB1, hB2⟩ := ih vs (j + 1) ts' ps oks h2 hk2 (by simpa using hl) (fun i y u hy hu => hv (i + 1) y u (by simpa using hy) (by simpa using hu))
        (fun e he => hp e (List.mem_append_right _ he)) (fun ho id hid => hro ho id (by simp only [idsL]; exact List.mem_append_right _ hid))
      refine ⟨by simp [hB1], ?_⟩
      intro i t' v' ht hv'
      cases i with
      | zero => simp at ht hv'; subst ht; subst hv'; exact hA
      | succ i =>
        have := hB2 i t' v' (by simpa using ht) (by simpa using hv')
        rw [show j + 1 + i = j + (i + 1) by omega] at this
        exact this

include hn in
theorem frz_sound {own : Bool} {k : Nat} {x t : AV} {p : PlanI} {ok : Prop} (h : frz nodes own k x = some (t, p, ok)) (hok : ok)
    {v : Value} (hx : V w lab loc x v) (hp : ∀ e ∈ p, look e.1 pl = some e.2) (hro : own = false ∨ (∃ f cs, x = .fn f cs) → ∀ id ∈ x.ids, look id pl = none ∧ id ∈ ro) :
    T w (labC lab pl ro) (.arg k, []) t v := by
  unfold frz at h
  split at h
  · rename_i cs
    split at h <;> first | (cases h; done) | cases h
    rename_i ts ps h1
    obtain ⟨vs, rfl, hl, hr⟩ := hx.inv_agg
    obtain ⟨h2, h3⟩ := frzL_sound hn cs vs 0 _ _ _ h1 hok hl hr hp (fun ho id hid => hro (Or.inl ho) id (by simpa [AV.ids] using hid))
    refine .agg _ _ _ h2 ?_
    intro j y u hy hu
    have := (h3 j y u hy hu).1
    simpa [Lab.down] using this
  · rename_i f cs
    split at h <;> first | (cases h; done) | cases h
    rename_i ts ps okk h1
    obtain ⟨vs, rfl, hl, hr⟩ := hx.inv_fn
    obtain ⟨h2, h3⟩ := frzL_sound (pl := pl) (ro := ro) hn cs vs 0 _ _ _ h1 hok hl hr (by
      -- a plan of what is only read is empty
      have key : ∀ (xs : List AV) (j : Nat) ts ps ok, frzL nodes false k (fun _ => []) j xs = some (ts, ps, ok) → ps = [] := by
        intro xs
        induction xs with
        | nil => intro j ts ps ok h; simp [frzL] at h; exact h.2.1
        | cons y ys ih =>
          intro j ts ps ok h
          simp only [frzL] at h
          split at h <;> first | (cases h; done) | cases h
          rename_i t p1 ok1 ts' ps' oks h1 h2
          have e1 : p1 = [] := by
            unfold frz0 at h1
            split at h1
            · split at h1 <;> first | (cases h1; done) | skip
              split at h1 <;> first | (cases h1; done) | (cases h1; rfl)
            · split at h1 <;> first | (cases h1; done) | skip
              split at h1 <;> first | (cases h1; done) | (cases h1; rfl)
            all_goals first | (cases h1; rfl) | (cases h1; done)
          rw [e1, ih _ _ _ _ h2]; rfl
      rw [key cs 0 _ _ _ h1]
      intro e he; cases he) (fun _ id hid => hro (Or.inr ⟨f, cs, rfl⟩) id (by simpa [AV.ids] using hid))
    refine .imm _ _ _ (.fn f _ vs h2 ?_)
    intro j y u hy hu
    exact (h3 j y u hy hu).2 rfl
  · exact (frz0_sound hn h hok hx hp (fun ho => hro (Or.inl ho))).1
end snd

end Go.AM
namespace Go.AM

mutual
/-- no memory but its own -/
def AV.ownd : AV → Bool
  | .isl _ l => l.isEmpty
  | .ip _ => false
  | .osl _ l => owndLL l
  | .op l => owndL l
  | .fn _ cs => owndL cs
  | .agg cs => owndL cs
  | .tup cs => owndL cs
  | _ => true
def owndL : List AV → Bool
  | [] => true
  | x :: xs => x.ownd && owndL xs
def owndLL : List (List AV) → Bool
  | [] => true
  | c :: cs => owndL c && owndLL cs
end

theorem owndL_eq (l : List AV) : owndL l = l.all AV.ownd := by induction l with | nil => rfl | cons x l ih => simp [owndL, ih]
theorem owndLL_eq (l : List (List AV)) : owndLL l = l.all (·.all AV.ownd) := by induction l with | nil => rfl | cons x l ih => simp [owndLL, owndL_eq, ih]

theorem I.ownd {w : World} {lab lab' : Labs} {x : AV} {v : Value} (h : I w lab x v) (ho : x.ownd = true) : I w lab' x v := by
  induction h with
  | bool b => exact .bool b
  | int k n => exact .int k n
  | str s => exact .str s
  | nilp => exact .nilp
  | nils => exact .nils
  | zsl a => exact .zsl a
  | nel a cap => exact .nel a cap
  | lns n a cap => exact .lns n a cap
  | any v => exact .any v
  | val a n cap => exact .val a n cap
  | nsl es => exact .nsl es
  | esl es a cap => exact .esl es a cap
  | isl es l b off cap vals hb hs hc hes hp hv _ ih =>
    have : l = [] := by simpa [AV.ownd] using ho
    subst this
    exact .esl _ _ _
  | ip => simp [AV.ownd] at ho
  | fn f cs vs hl _ ih =>
    simp only [AV.ownd, owndL_eq, List.all_eq_true] at ho
    exact .fn f cs vs hl fun j x y hx hy => ih j x y hx hy (ho x (List.mem_of_getElem? hx))
  | agg cs vs hl _ ih =>
    simp only [AV.ownd, owndL_eq, List.all_eq_true] at ho
    exact .agg cs vs hl fun j x y hx hy => ih j x y hx hy (ho x (List.mem_of_getElem? hx))
  | tup cs vs hl _ ih =>
    simp only [AV.ownd, owndL_eq, List.all_eq_true] at ho
    exact .tup cs vs hl fun j x y hx hy => ih j x y hx hy (ho x (List.mem_of_getElem? hx))

/-- a tree under other labels, in one world -/
theorem T.relab {w : World} {lab lab' : Labs} {p p' : Lab} {x : AV} {v : Value} (h : T w lab p x v)
    (hk : x.ownd = true ∨ ∀ b, b < w.heap.size → lab b = none → lab' b = none)
    (hm : ∀ b q, b < w.heap.size → lab b = some (p.app q) → lab' b = some (p'.app q)) : T w lab' p' x v := by
  induction h generalizing p' with
  | imm p x v h =>
    rcases hk with hk | hk
    · exact .imm _ _ _ (h.ownd hk)
    · exact .imm _ _ _ (h.mono (fun b hb hl => ⟨hk b hb hl, rfl⟩) (Nat.le_refl _))
  | osl p es l b off cap vals hb hk1 hc hes hp hv _ ih =>
    refine .osl p' es l b off cap vals (by have := hm b [] hk1.lt (by rw [Lab.app_nil]; exact hb); rw [this, Lab.app_nil]) hk1 hc hes hp hv ?_
    intro i c j x hi hj
    refine ih i c j x hi hj (hk.imp (fun ho => ?_) id) (p' := p'.down i j) ?_
    · simp only [AV.ownd, owndLL_eq, List.all_eq_true] at ho
      exact ho c (List.mem_of_getElem? hi) x (List.mem_of_getElem? hj)
    · intro b q hb hq
      rw [Lab.down_app] at hq
      rw [Lab.down_app]
      exact hm b _ hb hq
  | op p l b off vals hb hk1 hp hv _ ih =>
    refine .op p' l b off vals (by have := hm b [] hk1.lt (by rw [Lab.app_nil]; exact hb); rw [this, Lab.app_nil]) hk1 hp hv ?_
    intro j x hj
    refine ih j x hj (hk.imp (fun ho => ?_) id) (p' := p'.down 0 j) ?_
    · simp only [AV.ownd, owndL_eq, List.all_eq_true] at ho
      exact ho x (List.mem_of_getElem? hj)
    · intro b q hb hq
      rw [Lab.down_app] at hq
      rw [Lab.down_app]
      exact hm b _ hb hq
  | agg p cs vs hl _ ih =>
    refine .agg p' cs vs hl ?_
    intro j x y hx hy
    refine ih j x y hx hy (hk.imp (fun ho => ?_) id) (p' := p'.down 0 j) ?_
    · simp only [AV.ownd, owndL_eq, List.all_eq_true] at ho
      exact ho x (List.mem_of_getElem? hx)
    · intro b q hb hq
      rw [Lab.down_app] at hq
      rw [Lab.down_app]
      exact hm b _ hb hq
  | tup p cs vs hl _ ih =>
    refine .tup p' cs vs hl ?_
    intro j x y hx hy
    refine ih j x y hx hy (hk.imp (fun ho => ?_) id) (p' := p'.down 1 j) ?_
    · simp only [AV.ownd, owndL_eq, List.all_eq_true] at ho
      exact ho x (List.mem_of_getElem? hx)
    · intro b q hb hq
      rw [Lab.down_app] at hq
      rw [Lab.down_app]
      exact hm b _ hb hq

/-- where an object is to be found in a tree: its place, its id, itself -/
structure Ent where
  lab : Lab
  id : Nat
  nd : Node
  own : Bool      -- its cells' imm parts need nothing

structure NodeAt (w : World) (lab : Labs) (p : Lab) (nd : Node) (b base : Nat) : Prop where
  hlab : lab b = some p
  blk : Blk w b (base + nd.l.length * nd.es)
  es : ∀ c ∈ nd.l, c.length = nd.es
  cells : ∀ (i : Nat) c (j : Nat) x, nd.l[i]? = some c → c[j]? = some x → ∃ v, w.cell? ⟨b, base + i * nd.es + j, none⟩ = some v ∧ T w lab (p.down i j) x v

theorem NodeAt.osl {w : World} {lab : Labs} {p : Lab} {es : Nat} {l : List (List AV)} {v : Value} (h : T w lab p (.osl es l) v) :
    ∃ b base cap, v = .slice (some ⟨b, base, none⟩) l.length cap ∧ l.length ≤ cap ∧ Blk w b (base + cap * es) ∧ NodeAt w lab p ⟨es, l⟩ b base := by
  cases h with
  | imm _ _ _ h => cases h
  | osl _ _ _ b off cap vals hb hk hc hes hp hv hr =>
    refine ⟨b, off, cap, rfl, hc, hk, hb, hk.le ?_, hes, ?_⟩
    · have := Nat.mul_le_mul_right es hc; simp only; omega
    · intro i c j x hi hj
      have hi' := (List.getElem?_eq_some_iff.1 hi).1
      have hj' := (List.getElem?_eq_some_iff.1 hj).1
      have hcl := hes c (List.mem_of_getElem? hi)
      exact ⟨vals i j, hv i j hi' (by omega), hr i c j x hi hj⟩

theorem NodeAt.op {w : World} {lab : Labs} {p : Lab} {l : List AV} {v : Value} (h : T w lab p (.op l) v) :
    ∃ b base, v = .pointer (some ⟨b, base, none⟩) ∧ NodeAt w lab p ⟨l.length, [l]⟩ b base := by
  cases h with
  | imm _ _ _ h => cases h
  | op _ _ b off vals hb hk hp hv hr =>
    refine ⟨b, off, rfl, hb, hk.le (by simp), by intro c hc; simp at hc; rw [hc], ?_⟩
    intro i c j x hi hj
    cases i with
    | succ i => simp at hi
    | zero =>
      simp at hi; subst hi
      have hj' := (List.getElem?_eq_some_iff.1 hj).1
      exact ⟨vals j, by simpa using hv j hj', hr j x hj⟩

/-- a part of a result becomes an object of the caller's -/
def thw0 (d c : Nat) (p : Lab) : AV → Option (AV × List (Lab × Nat × Node) × Nat)
  | .osl es l => some (.sl (1000 * c + d) es 0 l.length, [(p, 1000 * c + d, ⟨es, l⟩)], c + 1)
  | .op l => some (.ptr (1000 * c + d) l.length 0 0, [(p, 1000 * c + d, ⟨l.length, [l]⟩)], c + 1)
  | .bool b => some (.bool b, [], c)
  | .int k n => some (.int k n, [], c)
  | .str s => some (.str s, [], c)
  | .nilp => some (.nilp, [], c)
  | .nils => some (.nils, [], c)
  | .zsl => some (.zsl, [], c)
  | .nel => some (.nel, [], c)
  | .lns n => some (.lns n, [], c)
  | .val v => some (.val v, [], c)
  | .any => some (.any, [], c)
  | .isl es l => some (.isl es l, [], c)
  | .ip l => some (.ip l, [], c)
  | _ => none

def thwL (d : Nat) (p : Lab) (tag : Nat) : Nat → Nat → List AV → Option (List AV × List (Lab × Nat × Node) × Nat)
  | _, c, [] => some ([], [], c)
  | j, c, x :: xs => match thw0 d c (p.down tag j) x with
    | some (y, po, c1) => match thwL d p tag (j + 1) c1 xs with
      | some (ys, po2, c2) => some (y :: ys, po ++ po2, c2)
      | none => none
    | none => none

def thw1 (d c : Nat) (p : Lab) : AV → Option (AV × List (Lab × Nat × Node) × Nat)
  | .agg cs => match thwL d p 0 0 c cs with
    | some (ys, po, c1) => some (.agg ys, po, c1)
    | none => none
  | x => thw0 d c p x

def thwT (d : Nat) (p : Lab) : Nat → Nat → List AV → Option (List AV × List (Lab × Nat × Node) × Nat)
  | _, c, [] => some ([], [], c)
  | j, c, x :: xs => match thw1 d c (p.down 1 j) x with
    | some (y, po, c1) => match thwT d p (j + 1) c1 xs with
      | some (ys, po2, c2) => some (y :: ys, po ++ po2, c2)
      | none => none
    | none => none

def thw (d : Nat) (p : Lab) : AV → Option (AV × List (Lab × Nat × Node) × Nat)
  | .tup vs => match thwT d p 0 1 vs with
    | some (ys, po, c1) => some (.tup ys, po, c1)
    | none => none
  | x => thw1 d 1 p x

/-- the entries' places -/
def Places (w : World) (lab : Labs) (po : List (Lab × Nat × Node)) (L : List (Nat × (Nat × Nat))) : Prop :=
  L.length = po.length ∧ ∀ (k : Nat) e l, po[k]? = some e → L[k]? = some l → l.1 = e.2.1 ∧ NodeAt w lab e.1 e.2.2 l.2.1 l.2.2

theorem Places.nil {w : World} {lab : Labs} : Places w lab [] [] := ⟨rfl, by intro k e l h; simp at h⟩
theorem Places.append {w : World} {lab : Labs} {po po2 : List (Lab × Nat × Node)} {L L2 : List (Nat × (Nat × Nat))} (h : Places w lab po L) (h2 : Places w lab po2 L2) : Places w lab (po ++ po2) (L ++ L2) := by
  refine ⟨by simp [h.1, h2.1], ?_⟩
  intro k e l he hl
  rw [List.getElem?_append] at he hl
  rw [h.1] at hl
  split at he
  · rename_i hk; rw [if_pos hk] at hl; exact h.2 k e l he hl
  · rename_i hk; rw [if_neg hk] at hl; exact h2.2 _ e l he hl

/-- what the caller sees of a part: given where the objects are -/
def Shows (w : World) (lab : Labs) (own : Prop) (L : List (Nat × (Nat × Nat))) (y : AV) (v : Value) : Prop :=
  ∀ lab' loc', (own ∨ ∀ b, b < w.heap.size → lab b = none → lab' b = none) → (∀ l ∈ L, loc' l.1 = some l.2) → V w lab' loc' y v

theorem thw0_sound {w : World} {lab : Labs} {d c : Nat} {p : Lab} {x y : AV} {po : List (Lab × Nat × Node)} {c' : Nat} {v : Value} (h : thw0 d c p x = some (y, po, c')) (hx : T w lab p x v) :
    ∃ L, Places w lab po L ∧ Shows w lab (x.ownd = true) L y v := by
  have hsc : ∀ z, I w lab z v → Shows w lab (z.ownd = true) [] z v := by
    intro z hz lab' loc' hk _
    rcases hk with hk | hk
    · exact .imm _ _ (hz.ownd hk)
    · exact .imm _ _ (hz.mono (fun b hb hl => ⟨hk b hb hl, rfl⟩) (Nat.le_refl _))
  unfold thw0 at h
  split at h
  · rename_i es l
    cases h
    obtain ⟨b, base, cap, rfl, h1, h2, h3⟩ := NodeAt.osl hx
    refine ⟨[(1000 * c + d, (b, base))], ⟨rfl, ?_⟩, ?_⟩
    · intro k e l he hl
      cases k with
      | zero => simp at he hl; subst he; subst hl; exact ⟨rfl, h3⟩
      | succ k => simp at he
    · intro lab' loc' _ hL
      have := hL (1000 * c + d, (b, base)) (by simp)
      simp only at this
      refine .sl _ _ _ _ _ fun b' base' hl => ?_
      rw [this] at hl; cases hl
      exact ⟨_, cap, rfl, h1, Or.inr (by simp), by simpa using h2⟩
  · rename_i l
    cases h
    obtain ⟨b, base, rfl, h3⟩ := NodeAt.op hx
    refine ⟨[(1000 * c + d, (b, base))], ⟨rfl, ?_⟩, ?_⟩
    · intro k e l he hl
      cases k with
      | zero => simp at he hl; subst he; subst hl; exact ⟨rfl, h3⟩
      | succ k => simp at he
    · intro lab' loc' _ hL
      have := hL (1000 * c + d, (b, base)) (by simp)
      simp only at this
      refine .ptr _ _ _ _ _ fun b' base' hl => ?_
      rw [this] at hl; cases hl
      simp
  all_goals first
    | (cases h; done)
    | (cases h
       cases hx with
       | imm _ _ _ hi => exact ⟨[], Places.nil, hsc _ hi⟩)

theorem thwL_sound {w : World} {lab : Labs} {d : Nat} {p : Lab} {tag : Nat} : ∀ (xs : List AV) (vs : List Value) (j c : Nat) (ys : List AV) (po : List (Lab × Nat × Node)) (c' : Nat), thwL d p tag j c xs = some (ys, po, c') →
    xs.length = vs.length → (∀ (i : Nat) x v, xs[i]? = some x → vs[i]? = some v → T w lab (p.down tag (j + i)) x v) →
    ∃ L, Places w lab po L ∧ ys.length = vs.length ∧ ∀ (i : Nat) y v, ys[i]? = some y → vs[i]? = some v → Shows w lab (owndL xs = true) L y v := by
  intro xs
  induction xs with
  | nil =>
    intro vs j c ys po c' h hl _
    simp [thwL] at h
    obtain ⟨rfl, rfl, _⟩ := h
    exact ⟨[], Places.nil, hl, by intro i y v hi; simp at hi⟩
  | cons x xs ih =>
    intro vs j c ys po c' h hl hv
    simp only [thwL] at h
    split at h <;> first | (cases h; done) | skip
    rename_i y po1 c1 h1
    split at h <;> first | (cases h; done) | cases h
    rename_i ys' po2 h2
    cases vs with
    | nil => simp at hl
    | cons v vs =>
      obtain ⟨L1, hP1, hS1⟩ := thw0_sound h1 (hv 0 x v rfl rfl)
      obtain ⟨L2, hP2, hl2, hS2⟩ := ih vs (j + 1) c1 ys' po2 c' h2 (by simpa using hl) (fun i z u hz hu => by
        have := hv (i + 1) z u (by simpa using hz) (by simpa using hu)
        rw [show j + (i + 1) = j + 1 + i by omega] at this; exact this)
      refine ⟨L1 ++ L2, hP1.append hP2, by simp [hl2], ?_⟩
      intro i y' v' hy hv' lab' loc' hk hL
      cases i with
      | zero =>
        simp at hy hv'; subst hy; subst hv'
        exact hS1 lab' loc' (hk.imp (fun ho => by simp [owndL] at ho; exact ho.1) id) (fun l hl => hL l (List.mem_append_left _ hl))
      | succ i =>
        exact hS2 i y' v' (by simpa using hy) (by simpa using hv') lab' loc' (hk.imp (fun ho => by simp [owndL] at ho; exact ho.2) id) (fun l hl => hL l (List.mem_append_right _ hl))

theorem thw1_sound {w : World} {lab : Labs} {d c : Nat} {p : Lab} {x y : AV} {po : List (Lab × Nat × Node)} {c' : Nat} {v : Value} (h : thw1 d c p x = some (y, po, c')) (hx : T w lab p x v) :
    ∃ L, Places w lab po L ∧ Shows w lab (x.ownd = true) L y v := by
  unfold thw1 at h
  split at h
  · rename_i cs
    split at h <;> first | (cases h; done) | cases h
    rename_i ys h1
    have hx' : ∃ vs : List Value, v = .agg ⟨vs⟩ ∧ cs.length = vs.length ∧ ∀ (j : Nat) x y, cs[j]? = some x → vs[j]? = some y → T w lab (p.down 0 j) x y := by
      cases hx with
      | imm _ _ _ hi => cases hi with | agg _ vs hl hr => exact ⟨vs, rfl, hl, fun j x y hx hy => .imm _ _ _ (hr j x y hx hy)⟩
      | agg _ _ vs hl hr => exact ⟨vs, rfl, hl, hr⟩
    obtain ⟨vs, rfl, hl, hr⟩ := hx'
    obtain ⟨L, hP, hl2, hS⟩ := thwL_sound cs vs 0 c ys po _ h1 hl (fun i x v hx hv => by simpa using hr i x v hx hv)
    refine ⟨L, hP, fun lab' loc' hk hL => .agg _ _ hl2 fun j z u hz hu => hS j z u hz hu lab' loc' (hk.imp (fun ho => by simpa [AV.ownd] using ho) id) hL⟩
  · exact thw0_sound h hx

theorem thwT_sound {w : World} {lab : Labs} {d : Nat} {p : Lab} : ∀ (xs : List AV) (vs : List Value) (j c : Nat) (ys : List AV) (po : List (Lab × Nat × Node)) (c' : Nat), thwT d p j c xs = some (ys, po, c') →
    xs.length = vs.length → (∀ (i : Nat) x v, xs[i]? = some x → vs[i]? = some v → T w lab (p.down 1 (j + i)) x v) →
    ∃ L, Places w lab po L ∧ ys.length = vs.length ∧ ∀ (i : Nat) y v, ys[i]? = some y → vs[i]? = some v → Shows w lab (owndL xs = true) L y v := by
  intro xs
  induction xs with
  | nil =>
    intro vs j c ys po c' h hl _
    simp [thwT] at h
    obtain ⟨rfl, rfl, _⟩ := h
    exact ⟨[], Places.nil, hl, by intro i y v hi; simp at hi⟩
  | cons x xs ih =>
    intro vs j c ys po c' h hl hv
    simp only [thwT] at h
    split at h <;> first | (cases h; done) | skip
    rename_i y po1 c1 h1
    split at h <;> first | (cases h; done) | cases h
    rename_i ys' po2 h2
    cases vs with
    | nil => simp at hl
    | cons v vs =>
      obtain ⟨L1, hP1, hS1⟩ := thw1_sound h1 (hv 0 x v rfl rfl)
      obtain ⟨L2, hP2, hl2, hS2⟩ := ih vs (j + 1) c1 ys' po2 c' h2 (by simpa using hl) (fun i z u hz hu => by
        have := hv (i + 1) z u (by simpa using hz) (by simpa using hu)
        rw [show j + (i + 1) = j + 1 + i by omega] at this; exact this)
      refine ⟨L1 ++ L2, hP1.append hP2, by simp [hl2], ?_⟩
      intro i y' v' hy hv' lab' loc' hk hL
      cases i with
      | zero =>
        simp at hy hv'; subst hy; subst hv'
        exact hS1 lab' loc' (hk.imp (fun ho => by simp [owndL] at ho; exact ho.1) id) (fun l hl => hL l (List.mem_append_left _ hl))
      | succ i =>
        exact hS2 i y' v' (by simpa using hy) (by simpa using hv') lab' loc' (hk.imp (fun ho => by simp [owndL] at ho; exact ho.2) id) (fun l hl => hL l (List.mem_append_right _ hl))

theorem thw_sound {w : World} {lab : Labs} {d : Nat} {p : Lab} {x y : AV} {po : List (Lab × Nat × Node)} {c' : Nat} {v : Value} (h : thw d p x = some (y, po, c')) (hx : T w lab p x v) :
    ∃ L, Places w lab po L ∧ Shows w lab (x.ownd = true) L y v := by
  unfold thw at h
  split at h
  · rename_i cs
    split at h <;> first | (cases h; done) | cases h
    rename_i ys h1
    have hx' : ∃ vs : List Value, v = .tuple ⟨vs⟩ ∧ cs.length = vs.length ∧ ∀ (j : Nat) x y, cs[j]? = some x → vs[j]? = some y → T w lab (p.down 1 j) x y := by
      cases hx with
      | imm _ _ _ hi => cases hi with | tup _ vs hl hr => exact ⟨vs, rfl, hl, fun j x y hx hy => .imm _ _ _ (hr j x y hx hy)⟩
      | tup _ _ vs hl hr => exact ⟨vs, rfl, hl, hr⟩
    obtain ⟨vs, rfl, hl, hr⟩ := hx'
    obtain ⟨L, hP, hl2, hS⟩ := thwT_sound cs vs 0 1 ys po _ h1 hl (fun i x v hx hv => by simpa using hr i x v hx hv)
    refine ⟨L, hP, fun lab' loc' hk hL => .tup _ _ hl2 fun j z u hz hu => hS j z u hz hu lab' loc' (hk.imp (fun ho => by simpa [AV.ownd] using ho) id) hL⟩
  · exact thw1_sound h hx

end Go.AM
namespace Go.AM

def strip : List (Nat × Nat) → List (Nat × Nat) → Option (List (Nat × Nat))
  | [], q => some q
  | a :: p, b :: q => if a = b then strip p q else none
  | _ :: _, [] => none

theorem strip_app (p q : List (Nat × Nat)) : strip p (p ++ q) = some q := by
  induction p with
  | nil => rfl
  | cons a p ih => simp [strip, ih]

def cmpb (a b : List (Nat × Nat)) : Bool := (strip a b).isSome || (strip b a).isSome

theorem strip_cmp {a b q r : List (Nat × Nat)} (h : strip a (b ++ q) = some r) : cmpb a b = true := by
  induction a generalizing b with
  | nil => simp [cmpb, strip]
  | cons x a ih =>
    cases b with
    | nil => simp [cmpb, strip]
    | cons y b =>
      simp only [List.cons_append, strip] at h
      split at h
      · rename_i e
        subst e
        have := ih h
        simpa [cmpb, strip] using this
      · cases h

abbrev PlanO := List (Lab × Nat × Node)

def findP : PlanO → Root → List (Nat × Nat) → Option Lab
  | [], _, _ => none
  | e :: l, r, p => if e.1.1 = r then match strip e.1.2 p with
      | some q => some (.obj e.2.1, q)
      | none => findP l r p
    else findP l r p

def apart : PlanO → Bool
  | [] => true
  | e :: l => l.all (fun f => !(decide (e.1.1 = f.1.1) && cmpb e.1.2 f.1.2)) && apart l

theorem findP_mem {po : PlanO} (h : apart po = true) {e : Lab × Nat × Node} (he : e ∈ po) (q : List (Nat × Nat)) : findP po e.1.1 (e.1.2 ++ q) = some (.obj e.2.1, q) := by
  induction po with
  | nil => cases he
  | cons f l ih =>
    simp only [apart, Bool.and_eq_true, List.all_eq_true] at h
    rcases List.mem_cons.1 he with rfl | he
    · simp [findP, strip_app]
    · have hne := h.1 e he
      have hi := ih h.2 he
      simp only [findP]
      by_cases hr : f.1.1 = e.1.1
      · rw [if_pos hr]
        cases hs : strip f.1.2 (e.1.2 ++ q) with
        | some r =>
          have := strip_cmp hs
          simp [hr, this] at hne
        | none => exact hi
      · rw [if_neg hr]; exact hi

/-! ### arguments that come back -/
def gb0 (p : Lab) (x t : AV) : Option PlanO :=
  match x with
  | .sl id es i _ => match t with
    | .osl es' l => if es' = es ∧ i = 0 then some [(p, id, ⟨es, l⟩)] else none
    | _ => none
  | .ptr id es i j => match t with
    | .op l => if l.length = es ∧ i = 0 ∧ j = 0 then some [(p, id, ⟨es, [l]⟩)] else none
    | _ => none
  | .agg _ | .tup _ | .fn _ _ | .gate _ _ => none
  | _ => some []

def gbL (p : Lab) : Nat → List AV → List AV → Option PlanO
  | _, [], [] => some []
  | j, x :: xs, t :: ts => match gb0 (p.down 0 j) x t, gbL p (j + 1) xs ts with
    | some a, some b => some (a ++ b)
    | _, _ => none
  | _, _, _ => none

def gb (p : Lab) (x t : AV) : Option PlanO :=
  match x with
  | .agg cs => match t with
    | .agg ts => gbL p 0 cs ts
    | _ => none
  | x => gb0 p x t

def gbAll (all : List AV) : List (Nat × AV) → Option PlanO
  | [] => some []
  | (k, t) :: r => match all[k]? with
    | some x => match gb (.arg k, []) x t, gbAll all r with
      | some a, some b => some (a ++ b)
      | _, _ => none
    | none => none

theorem gb0_sound {w w' : World} {lab labq : Labs} {loc : Locs} {p : Lab} {x t : AV} {po : PlanO} {v : Value} (h : gb0 p x t = some po) (hlive : ∀ i ∈ x.ids, ∃ bb, loc i = some bb)
    (hx : V w lab loc x v) (ht : T w' labq p t v) : ∃ L, Places w' labq po L ∧ ∀ l ∈ L, loc l.1 = some l.2 := by
  unfold gb0 at h
  split at h
  · rename_i id es i len
    split at h <;> first | (cases h; done) | skip
    rename_i es' l
    split at h <;> first | (cases h; done) | cases h
    rename_i hc
    obtain ⟨rfl, rfl⟩ := hc
    obtain ⟨⟨b, base⟩, hl⟩ := hlive id (by simp only [AV.ids]; exact List.mem_singleton.2 rfl)
    obtain ⟨a, cap, rfl, h1, h2, _⟩ := hx.inv_sl hl
    obtain ⟨b', base', cap', h3, _, _, h4⟩ := NodeAt.osl ht
    have ha : a = ⟨b, base, none⟩ := by rcases h2 with h | h; omega; simpa using h
    subst ha
    simp only [Value.slice.injEq, Option.some.injEq, Addr.mk.injEq, and_true] at h3
    obtain ⟨⟨rfl, rfl⟩, _, _⟩ := h3
    refine ⟨[(id, (b, base))], ⟨rfl, ?_⟩, by intro l hl'; simp at hl'; subst hl'; exact hl⟩
    intro k e l he hl'
    cases k with
    | zero => simp at he hl'; subst he; subst hl'; exact ⟨rfl, h4⟩
    | succ k => simp at he
  · rename_i id es i j
    split at h <;> first | (cases h; done) | skip
    rename_i l
    split at h <;> first | (cases h; done) | cases h
    rename_i hc
    obtain ⟨rfl, rfl, rfl⟩ := hc
    obtain ⟨⟨b, base⟩, hl⟩ := hlive id (by simp only [AV.ids]; exact List.mem_singleton.2 rfl)
    have h2 := hx.inv_ptr hl
    obtain ⟨b', base', h3, h4⟩ := NodeAt.op ht
    rw [h2] at h3
    simp only [Value.pointer.injEq, Option.some.injEq, Addr.mk.injEq, and_true, Nat.zero_mul, Nat.add_zero] at h3
    obtain ⟨rfl, rfl⟩ := h3
    refine ⟨[(id, (b, base))], ⟨rfl, ?_⟩, by intro l hl'; simp at hl'; subst hl'; exact hl⟩
    intro k e l' he hl'
    cases k with
    | zero => simp at he hl'; subst he; subst hl'; exact ⟨rfl, h4⟩
    | succ k => simp at he
  all_goals first
    | (cases h; done)
    | (cases h; exact ⟨[], Places.nil, by simp⟩)

theorem gbL_sound {w w' : World} {lab labq : Labs} {loc : Locs} {p : Lab} : ∀ (xs ts : List AV) (vs : List Value) (j : Nat) (po : PlanO), gbL p j xs ts = some po → (∀ i ∈ idsL xs, ∃ bb, loc i = some bb) →
    xs.length = vs.length → (∀ (i : Nat) x v, xs[i]? = some x → vs[i]? = some v → V w lab loc x v) → (∀ (i : Nat) t v, ts[i]? = some t → vs[i]? = some v → T w' labq (p.down 0 (j + i)) t v) →
    ∃ L, Places w' labq po L ∧ ∀ l ∈ L, loc l.1 = some l.2 := by
  intro xs
  induction xs with
  | nil =>
    intro ts vs j po h _ _ _ _
    cases ts with
    | nil => simp [gbL] at h; subst h; exact ⟨[], Places.nil, by simp⟩
    | cons => simp [gbL] at h
  | cons x xs ih =>
    intro ts vs j po h hlive hl hv ht
    cases ts with
    | nil => simp [gbL] at h
    | cons t ts =>
      simp only [gbL] at h
      split at h <;> first | (cases h; done) | cases h
      rename_i a b h1 h2
      cases vs with
      | nil => simp at hl
      | cons v vs =>
        obtain ⟨L1, hP1, hl1⟩ := gb0_sound h1 (fun i hi => hlive i (by simp only [idsL]; exact List.mem_append_left _ hi)) (hv 0 x v rfl rfl) (ht 0 t v rfl rfl)
        obtain ⟨L2, hP2, hl2⟩ := ih ts vs (j + 1) b h2 (fun i hi => hlive i (by simp only [idsL]; exact List.mem_append_right _ hi)) (by simpa using hl)
          (fun i y u hy hu => hv (i + 1) y u (by simpa using hy) (by simpa using hu))
          (fun i y u hy hu => by have := ht (i + 1) y u (by simpa using hy) (by simpa using hu); rw [show j + (i + 1) = j + 1 + i by omega] at this; exact this)
        refine ⟨L1 ++ L2, hP1.append hP2, ?_⟩
        intro l hl
        rcases List.mem_append.1 hl with hl | hl
        · exact hl1 l hl
        · exact hl2 l hl

theorem gb_sound {w w' : World} {lab labq : Labs} {loc : Locs} {p : Lab} {x t : AV} {po : PlanO} {v : Value} (h : gb p x t = some po) (hlive : ∀ i ∈ x.ids, ∃ bb, loc i = some bb)
    (hx : V w lab loc x v) (ht : T w' labq p t v) : ∃ L, Places w' labq po L ∧ ∀ l ∈ L, loc l.1 = some l.2 := by
  unfold gb at h
  split at h
  · rename_i cs
    split at h <;> first | (cases h; done) | skip
    rename_i ts
    obtain ⟨vs, rfl, hl, hr⟩ := hx.inv_agg
    have ht' : ∀ (j : Nat) x y, ts[j]? = some x → vs[j]? = some y → T w' labq (p.down 0 j) x y := by
      cases ht with
      | imm _ _ _ hi => cases hi with | agg _ _ hl hr => exact fun j x y hx hy => .imm _ _ _ (hr j x y hx hy)
      | agg _ _ _ hl hr => exact hr
    exact gbL_sound cs ts vs 0 po h (by simpa [AV.ids] using hlive) hl hr (fun i t v h1 h2 => by simpa using ht' i t v h1 h2)
  · exact gb0_sound h hlive hx ht

theorem gbAll_sound {w w' : World} {lab labq : Labs} {loc : Locs} {all : List AV} {vals : List Value} (hlive : ∀ i ∈ idsL all, ∃ bb, loc i = some bb) (hl : all.length = vals.length)
    (hv : ∀ (k : Nat) x v, all[k]? = some x → vals[k]? = some v → V w lab loc x v) : ∀ (muts : List (Nat × AV)) (po : PlanO), gbAll all muts = some po →
    (∀ p ∈ muts, ∀ v, vals[p.1]? = some v → T w' labq (.arg p.1, []) p.2 v) → ∃ L, Places w' labq po L ∧ ∀ l ∈ L, loc l.1 = some l.2 := by
  intro muts
  induction muts with
  | nil => intro po h _; simp [gbAll] at h; subst h; exact ⟨[], Places.nil, by simp⟩
  | cons m r ih =>
    intro po h hm
    obtain ⟨k, t⟩ := m
    simp only [gbAll] at h
    split at h <;> first | (cases h; done) | skip
    rename_i x hx
    split at h <;> first | (cases h; done) | cases h
    rename_i a b h1 h2
    have hk : k < vals.length := by rw [← hl]; exact (List.getElem?_eq_some_iff.1 hx).1
    obtain ⟨L1, hP1, hl1⟩ := gb_sound h1 (fun i hi => hlive i (mem_idsL (List.mem_of_getElem? hx) hi)) (hv k x _ hx (List.getElem?_eq_getElem hk)) (hm (k, t) List.mem_cons_self _ (List.getElem?_eq_getElem hk))
    obtain ⟨L2, hP2, hl2⟩ := ih b h2 (fun p hp => hm p (List.mem_cons_of_mem _ hp))
    refine ⟨L1 ++ L2, hP1.append hP2, ?_⟩
    intro l hl
    rcases List.mem_append.1 hl with hl | hl
    · exact hl1 l hl
    · exact hl2 l hl

/-! ### the arguments of a call -/
def frzAll (nodes : Nat → Option Node) (ow : List Nat) : Nat → List AV → Option (List AV × PlanI × Prop)
  | _, [] => some ([], [], True)
  | k, x :: xs => match frz nodes (decide (k ∈ ow)) k x, frzAll nodes ow (k + 1) xs with
    | some (t, p, ok), some (ts, ps, oks) => some (t :: ts, p ++ ps, ok ∧ oks)
    | _, _ => none

def isFn : AV → Bool
  | .fn _ _ => true
  | _ => false

def roOf (ow : List Nat) : Nat → List AV → List Nat
  | _, [] => []
  | k, x :: xs => (if decide (k ∈ ow) && !isFn x then [] else x.ids) ++ roOf ow (k + 1) xs

theorem frzAll_sound {w : World} {lab : Labs} {loc : Locs} {nodes : Nat → Option Node} (hn : ∀ id nd, nodes id = some nd → ∃ b base, loc id = some (b, base) ∧ ObjOk w lab loc id nd b base) {ow : List Nat} {pl : PlanI} {ro : List Nat} :
    ∀ (xs : List AV) (vs : List Value) (k : Nat) (ts : List AV) (p : PlanI) (ok : Prop), frzAll nodes ow k xs = some (ts, p, ok) → ok → xs.length = vs.length →
      (∀ (i : Nat) x v, xs[i]? = some x → vs[i]? = some v → V w lab loc x v) → (∀ e ∈ p, look e.1 pl = some e.2) → (∀ id ∈ roOf ow k xs, look id pl = none ∧ id ∈ ro) →
      ts.length = vs.length ∧ ∀ (i : Nat) t v, ts[i]? = some t → vs[i]? = some v → T w (labC lab pl ro) (.arg (k + i), []) t v := by
  intro xs
  induction xs with
  | nil =>
    intro vs k ts p ok h _ hl _ _ _
    simp [frzAll] at h
    obtain ⟨rfl, _, _⟩ := h
    exact ⟨hl, by intro i t v hi; simp at hi⟩
  | cons x xs ih =>
    intro vs k ts p ok h hok hl hv hp hro
    simp only [frzAll] at h
    split at h <;> first | (cases h; done) | cases h
    rename_i t p1 ok1 ts' ps oks h1 h2
    cases vs with
    | nil => simp at hl
    | cons v vs =>
      obtain ⟨hk1, hk2⟩ := hok
      have hA := frz_sound (pl := pl) (ro := ro) hn h1 hk1 (hv 0 x v rfl rfl) (fun e he => hp e (List.mem_append_left _ he)) (by
        intro hor id hid
        apply hro
        simp only [roOf, List.mem_append]
        left
        have : (decide (k ∈ ow) && !isFn x) = false := by
          rcases hor with ho | ⟨f, cs, rfl⟩
          · rw [ho]; rfl
          · simp [isFn]
        rw [this]; simpa using hid)
      obtain ⟨hB1, hB2⟩ := ih vs (k + 1) ts' ps oks h2 hk2 (by simpa using hl) (fun i y u hy hu => hv (i + 1) y u (by simpa using hy) (by simpa using hu))
        (fun e he => hp e (List.mem_append_right _ he)) (fun id hid => hro id (by simp only [roOf]; exact List.mem_append_right _ hid))
      refine ⟨by simp [hB1], ?_⟩
      intro i t' v' ht hv'
      cases i with
      | zero => simp at ht hv'; subst ht; subst hv'; exact hA
      | succ i =>
        have := hB2 i t' v' (by simpa using ht) (by simpa using hv')
        rw [show k + 1 + i = k + (i + 1) by omega] at this
        exact this

/-- the place of an object among the entries -/
theorem look_places {w : World} {lab : Labs} {po : PlanO} {L : List (Nat × (Nat × Nat))} (h : Places w lab po L) (hnd : (po.map (·.2.1)).Nodup) {l : Nat × (Nat × Nat)} (hl : l ∈ L) : look l.1 L = some l.2 := by
  have hids : L.map (·.1) = po.map (·.2.1) := by
    apply List.ext_getElem?
    intro k
    simp only [List.getElem?_map]
    cases hk : L[k]? with
    | none =>
      have : po.length ≤ k := by rw [← h.1]; exact List.getElem?_eq_none_iff.1 hk
      simp [List.getElem?_eq_none this]
    | some l =>
      have hk' : k < po.length := by rw [← h.1]; exact (List.getElem?_eq_some_iff.1 hk).1
      have := (h.2 k po[k] l (List.getElem?_eq_getElem hk') hk).1
      simp [List.getElem?_eq_getElem hk', this]
  rw [← hids] at hnd
  clear hids h
  induction L with
  | nil => cases hl
  | cons x L ih =>
    obtain ⟨i, bb⟩ := x
    simp only [List.map_cons, List.nodup_cons] at hnd
    rcases List.mem_cons.1 hl with rfl | hl2
    · simp [look]
    · simp only [look]
      rw [if_neg]
      · exact ih hnd.2 hl2
      · intro e
        exact hnd.1 (by rw [← e]; exact List.mem_map_of_mem hl2)

theorem look_L_mem {w : World} {lab : Labs} {po : PlanO} {L : List (Nat × (Nat × Nat))} (h : Places w lab po L) {i : Nat} {bb : Nat × Nat} (hl : look i L = some bb) : ∃ e ∈ po, e.2.1 = i ∧ NodeAt w lab e.1 e.2.2 bb.1 bb.2 := by
  have := look_mem hl
  obtain ⟨k, hk⟩ := List.mem_iff_getElem?.1 this
  have hk' : k < po.length := by rw [← h.1]; exact (List.getElem?_eq_some_iff.1 hk).1
  have := h.2 k po[k] _ (List.getElem?_eq_getElem hk') hk
  exact ⟨po[k], List.getElem_mem hk', this.1.symm, this.2⟩

theorem places_of_mem {w : World} {lab : Labs} {po : PlanO} {L : List (Nat × (Nat × Nat))} (h : Places w lab po L) {e : Lab × Nat × Node} (he : e ∈ po) : ∃ l ∈ L, l.1 = e.2.1 ∧ NodeAt w lab e.1 e.2.2 l.2.1 l.2.2 := by
  obtain ⟨k, hk⟩ := List.mem_iff_getElem?.1 he
  have hk' : k < L.length := by rw [h.1]; exact (List.getElem?_eq_some_iff.1 hk).1
  have := h.2 k e L[k] hk (List.getElem?_eq_getElem hk')
  exact ⟨L[k], List.getElem_mem hk', this.1, this.2⟩


/-! ### what a closure's box holds -/
/-- a box that holds a pointer to an owned object is told with what stands there -/
def frzB (nodes : Nat → Option Node) (k : Nat) : AV → Option (AV × Prop)
  | .ptr id es i j => match nodes id with
    | some ⟨es1, [[.ptr id2 es2 i2 j2]]⟩ => if es1 = 1 ∧ es = 1 ∧ i = 0 ∧ j = 0 then match frz0 nodes false k [] (.ptr id2 es2 i2 j2) with
        | some (t, _, ok) => some (.ip [t], ok)
        | none => none
      else none
    | _ => match frz0 nodes false k [] (.ptr id es i j) with
      | some (t, _, ok) => some (t, ok)
      | none => none
  | x => match frz0 nodes false k [] x with
    | some (t, _, ok) => some (t, ok)
    | none => none
def frzBL (nodes : Nat → Option Node) (k : Nat) : List AV → Option (List AV × Prop)
  | [] => some ([], True)
  | x :: xs => match frzB nodes k x, frzBL nodes k xs with
    | some (t, ok), some (ts, oks) => some (t :: ts, ok ∧ oks)
    | _, _ => none
/-- a slice of which only the length is told to the callee (10000 + its id stands among ow) -/
def lnsC (nodes : Nat → Option Node) (ow : List Nat) (k : Nat) : AV → Option (AV × Prop)
  | .sl id es i len => if decide (10000 + id ∈ ow) = true then match nodes id with
      | some _ => some (.lns len, True)
      | none => none
    else match frz0 nodes false k [] (.sl id es i len) with
      | some (t, _, ok) => some (t, ok)
      | none => none
  | x => match frz0 nodes false k [] x with
    | some (t, _, ok) => some (t, ok)
    | none => none
def lnsL (nodes : Nat → Option Node) (ow : List Nat) (k : Nat) : List AV → Option (List AV × Prop)
  | [] => some ([], True)
  | x :: xs => match lnsC nodes ow k x, lnsL nodes ow k xs with
    | some (t, ok), some (ts, oks) => some (t :: ts, ok ∧ oks)
    | _, _ => none
def frzC (nodes : Nat → Option Node) (ow : List Nat) (k : Nat) : AV → Option (AV × PlanI × Prop)
  | .fn f cs => match frzBL nodes k cs with
    | some (ts, ok) => some (.fn f ts, [], ok)
    | none => none
  | .agg cs => if (ow.any fun i => decide (10000 ≤ i)) = true ∧ decide (k ∈ ow) = false then match lnsL nodes ow k cs with
      | some (ts, ok) => some (.agg ts, [], ok)
      | none => none
    else frz nodes (decide (k ∈ ow)) k (.agg cs)
  | x => frz nodes (decide (k ∈ ow)) k x
def frzAllC (nodes : Nat → Option Node) (ow : List Nat) : Nat → List AV → Option (List AV × PlanI × Prop)
  | _, [] => some ([], [], True)
  | k, x :: xs => match frzC nodes ow k x, frzAllC nodes ow (k + 1) xs with
    | some (t, p, ok), some (ts, ps, oks) => some (t :: ts, p ++ ps, ok ∧ oks)
    | _, _ => none
/-- the objects that a closure's boxes point to -/
def boxIds (nodes : Nat → Option Node) : AV → List Nat
  | .ptr id _ _ _ => match nodes id with
    | some ⟨_, [[.ptr id2 _ _ _]]⟩ => [id2]
    | _ => []
  | _ => []
def boxF (nodes : Nat → Option Node) : AV → List Nat
  | .fn _ cs => cs.flatMap (boxIds nodes)
  | _ => []
def roC (nodes : Nat → Option Node) (ow : List Nat) (xs : List AV) : List Nat := roOf ow 0 xs ++ xs.flatMap (boxF nodes)
def obsC (st : St) (vs : List AV) : List (Nat × Option Node) := obsOf st vs ++ (vs.flatMap (boxF st.obj)).map fun i => (i, st.obj i)

section snd3
variable {w : World} {lab : Labs} {loc : Locs} {nodes : Nat → Option Node} (hn : ∀ id nd, nodes id = some nd → ∃ b base, loc id = some (b, base) ∧ ObjOk w lab loc id nd b base)
  {pl : PlanI} {ro : List Nat}
theorem frz0_noplan {nodes : Nat → Option Node} {k : Nat} {pre : List (Nat × Nat)} {x t : AV} {p1 : PlanI} {ok1 : Prop} (h1 : frz0 nodes false k pre x = some (t, p1, ok1)) : p1 = [] := by
  unfold frz0 at h1
  split at h1
  · split at h1 <;> first | (cases h1; done) | skip
    split at h1 <;> first | (cases h1; done) | (cases h1; rfl)
  · split at h1 <;> first | (cases h1; done) | skip
    split at h1 <;> first | (cases h1; done) | (cases h1; rfl)
  all_goals first | (cases h1; rfl) | (cases h1; done)

include hn in
theorem frz0_I {k : Nat} {pre : List (Nat × Nat)} {x t : AV} {p : PlanI} {ok : Prop} (h : frz0 nodes false k pre x = some (t, p, ok)) (hok : ok)
    {v : Value} (hx : V w lab loc x v) (hro : ∀ id ∈ x.ids, look id pl = none ∧ id ∈ ro) : I w (labC lab pl ro) t v := by
  have := frz0_noplan h; subst this
  exact (frz0_sound hn h hok hx (by intro e he; cases he) (fun _ => hro)).2 rfl

include hn in
theorem frzB_sound {k : Nat} {x t : AV} {ok : Prop} (h : frzB nodes k x = some (t, ok)) (hok : ok)
    {v : Value} (hx : V w lab loc x v) (hro : ∀ id ∈ x.ids, look id pl = none ∧ id ∈ ro) (hbx : ∀ id ∈ boxIds nodes x, look id pl = none ∧ id ∈ ro) : I w (labC lab pl ro) t v := by
  unfold frzB at h
  split at h
  · rename_i id es i j
    split at h
    · rename_i es1 id2 es2 i2 j2 hnd
      split at h <;> first | (cases h; done) | skip
      rename_i hij
      obtain ⟨rfl, rfl, rfl, rfl⟩ := hij
      split at h <;> first | (cases h; done) | cases h
      rename_i t2 p2 h2
      obtain ⟨b, base, hl, ho⟩ := hn id _ hnd
      rw [hx.inv_ptr hl]
      obtain ⟨v2, hv2, hc2⟩ := ho.cells 0 _ 0 _ rfl rfl
      have hV2 : V w lab loc (.ptr id2 es2 i2 j2) v2 := by
        rcases hc2 with h | h
        · exact h
        · cases h with | imm _ _ _ h => cases h
      have hI := frz0_I (pl := pl) (ro := ro) hn h2 hok hV2 (by
        intro m hm
        simp only [AV.ids, List.mem_singleton] at hm
        subst hm
        exact hbx _ (by simp [boxIds, hnd]))
      obtain ⟨hnone, hin⟩ := hro id (by simp [AV.ids])
      refine .ip _ b _ (fun _ => v2) (by simp only [labC, ho.hlab, hnone, hin, if_true]) ho.blk.lt ?_ ?_
      · intro m hm
        simp at hm; subst hm
        simpa using hv2
      · intro m x hm
        cases m with
        | zero => simp at hm; subst hm; exact hI
        | succ m => simp at hm
    · split at h <;> first | (cases h; done) | cases h
      rename_i t2 p2 h2
      exact frz0_I hn h2 hok hx hro
  · split at h <;> first | (cases h; done) | cases h
    rename_i t2 p2 h2
    exact frz0_I hn h2 hok hx hro

include hn in
theorem frzBL_sound {k : Nat} : ∀ (xs : List AV) (vs : List Value) (ts : List AV) (ok : Prop), frzBL nodes k xs = some (ts, ok) → ok →
    xs.length = vs.length → (∀ (i : Nat) x v, xs[i]? = some x → vs[i]? = some v → V w lab loc x v) → (∀ id ∈ idsL xs, look id pl = none ∧ id ∈ ro) → (∀ id ∈ xs.flatMap (boxIds nodes), look id pl = none ∧ id ∈ ro) →
    ts.length = vs.length ∧ ∀ (i : Nat) t v, ts[i]? = some t → vs[i]? = some v → I w (labC lab pl ro) t v := by
  intro xs
  induction xs with
  | nil =>
    intro vs ts ok h _ hl _ _ _
    simp [frzBL] at h
    obtain ⟨rfl, _⟩ := h
    exact ⟨hl, by intro i t v hi; simp at hi⟩
  | cons x xs ih =>
    intro vs ts ok h hok hl hv hro hbx
    simp only [frzBL] at h
    split at h <;> first | (cases h; done) | cases h
    rename_i t ok1 ts' oks h1 h2
    cases vs with
    | nil => simp at hl
    | cons v vs =>
      obtain ⟨hk1, hk2⟩ := hok
      have hA := frzB_sound (pl := pl) (ro := ro) hn h1 hk1 (hv 0 x v rfl rfl) (fun id hid => hro id (by simp only [idsL]; exact List.mem_append_left _ hid)) (fun id hid => hbx id (by rw [List.flatMap_cons]; exact List.mem_append_left _ hid))
      obtain ⟨hB1, hB2⟩ := ih vs ts' oks h2 hk2 (by simpa using hl) (fun i y u hy hu => hv (i + 1) y u (by simpa using hy) (by simpa using hu))
        (fun id hid => hro id (by simp only [idsL]; exact List.mem_append_right _ hid)) (fun id hid => hbx id (by rw [List.flatMap_cons]; exact List.mem_append_right _ hid))
      refine ⟨by simp [hB1], ?_⟩
      intro i t' v' ht hv'
      cases i with
      | zero => simp at ht hv'; subst ht; subst hv'; exact hA
      | succ i => exact hB2 i t' v' (by simpa using ht) (by simpa using hv')

include hn in
theorem lnsC_sound {ow : List Nat} {k : Nat} {x t : AV} {ok : Prop} (h : lnsC nodes ow k x = some (t, ok)) (hok : ok)
    {v : Value} (hx : V w lab loc x v) (hro : ∀ id ∈ x.ids, look id pl = none ∧ id ∈ ro) : I w (labC lab pl ro) t v := by
  unfold lnsC at h
  split at h
  · rename_i id es i len
    split at h
    · split at h <;> first | (cases h; done) | cases h
      rename_i nd hnd
      obtain ⟨b, base, hl, ho⟩ := hn id nd hnd
      obtain ⟨a, cap, rfl, _⟩ := hx.inv_sl hl
      exact .lns _ _ _
    · split at h <;> first | (cases h; done) | cases h
      rename_i t2 p2 h2
      exact frz0_I hn h2 hok hx hro
  · split at h <;> first | (cases h; done) | cases h
    rename_i t2 p2 h2
    exact frz0_I hn h2 hok hx hro

include hn in
theorem lnsL_sound {ow : List Nat} {k : Nat} : ∀ (xs : List AV) (vs : List Value) (ts : List AV) (ok : Prop), lnsL nodes ow k xs = some (ts, ok) → ok →
    xs.length = vs.length → (∀ (i : Nat) x v, xs[i]? = some x → vs[i]? = some v → V w lab loc x v) → (∀ id ∈ idsL xs, look id pl = none ∧ id ∈ ro) →
    ts.length = vs.length ∧ ∀ (i : Nat) t v, ts[i]? = some t → vs[i]? = some v → I w (labC lab pl ro) t v := by
  intro xs
  induction xs with
  | nil =>
    intro vs ts ok h _ hl _ _
    simp [lnsL] at h
    obtain ⟨rfl, _⟩ := h
    exact ⟨hl, by intro i t v hi; simp at hi⟩
  | cons x xs ih =>
    intro vs ts ok h hok hl hv hro
    simp only [lnsL] at h
    split at h <;> first | (cases h; done) | cases h
    rename_i t ok1 ts' oks h1 h2
    cases vs with
    | nil => simp at hl
    | cons v vs =>
      obtain ⟨hk1, hk2⟩ := hok
      have hA := lnsC_sound (pl := pl) (ro := ro) hn h1 hk1 (hv 0 x v rfl rfl) (fun id hid => hro id (by simp only [idsL]; exact List.mem_append_left _ hid))
      obtain ⟨hB1, hB2⟩ := ih vs ts' oks h2 hk2 (by simpa using hl) (fun i y u hy hu => hv (i + 1) y u (by simpa using hy) (by simpa using hu))
        (fun id hid => hro id (by simp only [idsL]; exact List.mem_append_right _ hid))
      refine ⟨by simp [hB1], ?_⟩
      intro i t' v' ht hv'
      cases i with
      | zero => simp at ht hv'; subst ht; subst hv'; exact hA
      | succ i => exact hB2 i t' v' (by simpa using ht) (by simpa using hv')

include hn in
theorem frzC_sound {ow : List Nat} {k : Nat} {x t : AV} {p : PlanI} {ok : Prop} (h : frzC nodes ow k x = some (t, p, ok)) (hok : ok)
    {v : Value} (hx : V w lab loc x v) (hp : ∀ e ∈ p, look e.1 pl = some e.2) (hro : decide (k ∈ ow) = false ∨ (∃ f cs, x = .fn f cs) → ∀ id ∈ x.ids, look id pl = none ∧ id ∈ ro) (hbx : ∀ id ∈ boxF nodes x, look id pl = none ∧ id ∈ ro) :
    T w (labC lab pl ro) (.arg k, []) t v := by
  unfold frzC at h
  split at h
  · rename_i f cs
    split at h <;> first | (cases h; done) | cases h
    rename_i ts h1
    obtain ⟨vs, rfl, hl, hr⟩ := hx.inv_fn
    obtain ⟨h2, h3⟩ := frzBL_sound (pl := pl) (ro := ro) hn cs vs _ _ h1 hok hl hr (fun id hid => hro (Or.inr ⟨f, cs, rfl⟩) id (by simpa [AV.ids] using hid)) (fun id hid => hbx id (by simpa [boxF] using hid))
    exact .imm _ _ _ (.fn f _ vs h2 fun j y u hy hu => h3 j y u hy hu)
  · rename_i cs
    split at h
    · rename_i hc
      split at h <;> first | (cases h; done) | cases h
      rename_i ts h1
      obtain ⟨vs, rfl, hl, hr⟩ := hx.inv_agg
      obtain ⟨h2, h3⟩ := lnsL_sound (pl := pl) (ro := ro) hn cs vs _ _ h1 hok hl hr (fun id hid => hro (Or.inl hc.2) id (by simpa [AV.ids] using hid))
      exact .imm _ _ _ (.agg _ vs h2 fun j y u hy hu => h3 j y u hy hu)
    · exact frz_sound hn h hok hx hp hro
  · exact frz_sound hn h hok hx hp hro
end snd3

theorem frzAllC_sound {w : World} {lab : Labs} {loc : Locs} {nodes : Nat → Option Node} (hn : ∀ id nd, nodes id = some nd → ∃ b base, loc id = some (b, base) ∧ ObjOk w lab loc id nd b base) {ow : List Nat} {pl : PlanI} {ro : List Nat} :
    ∀ (xs : List AV) (vs : List Value) (k : Nat) (ts : List AV) (p : PlanI) (ok : Prop), frzAllC nodes ow k xs = some (ts, p, ok) → ok → xs.length = vs.length →
      (∀ (i : Nat) x v, xs[i]? = some x → vs[i]? = some v → V w lab loc x v) → (∀ e ∈ p, look e.1 pl = some e.2) → (∀ id ∈ roOf ow k xs, look id pl = none ∧ id ∈ ro) → (∀ id ∈ xs.flatMap (boxF nodes), look id pl = none ∧ id ∈ ro) →
      ts.length = vs.length ∧ ∀ (i : Nat) t v, ts[i]? = some t → vs[i]? = some v → T w (labC lab pl ro) (.arg (k + i), []) t v := by
  intro xs
  induction xs with
  | nil =>
    intro vs k ts p ok h _ hl _ _ _ _
    simp [frzAllC] at h
    obtain ⟨rfl, _, _⟩ := h
    exact ⟨hl, by intro i t v hi; simp at hi⟩
  | cons x xs ih =>
    intro vs k ts p ok h hok hl hv hp hro hbx
    simp only [frzAllC] at h
    split at h <;> first | (cases h; done) | cases h
    rename_i t p1 ok1 ts' ps oks h1 h2
    cases vs with
    | nil => simp at hl
    | cons v vs =>
      obtain ⟨hk1, hk2⟩ := hok
      have hA := frzC_sound (pl := pl) (ro := ro) hn h1 hk1 (hv 0 x v rfl rfl) (fun e he => hp e (List.mem_append_left _ he)) (by
        intro hor id hid
        apply hro
        simp only [roOf, List.mem_append]
        left
        have : (decide (k ∈ ow) && !isFn x) = false := by
          rcases hor with ho | ⟨f, cs, rfl⟩
          · rw [ho]; rfl
          · simp [isFn]
        rw [this]; simpa using hid) (fun id hid => hbx id (by rw [List.flatMap_cons]; exact List.mem_append_left _ hid))
      obtain ⟨hB1, hB2⟩ := ih vs (k + 1) ts' ps oks h2 hk2 (by simpa using hl) (fun i y u hy hu => hv (i + 1) y u (by simpa using hy) (by simpa using hu))
        (fun e he => hp e (List.mem_append_right _ he)) (fun id hid => hro id (by simp only [roOf]; exact List.mem_append_right _ hid)) (fun id hid => hbx id (by rw [List.flatMap_cons]; exact List.mem_append_right _ hid))
      refine ⟨by simp [hB1], ?_⟩
      intro i t' v' ht hv'
      cases i with
      | zero => simp at ht hv'; subst ht; subst hv'; exact hA
      | succ i =>
        have := hB2 i t' v' (by simpa using ht) (by simpa using hv')
        rw [show k + 1 + i = k + (i + 1) by omega] at this
        exact this

/-! ### a call -/
structure CallIn where
  f : FuncId
  ro : List Nat
  all : List AV
  ts : List AV
  pl : PlanI
  ok : Prop

/-- what is called, with what -/
def callIn (st : St) (o : Oper) (ow : List Nat) : Option CallIn :=
  match o.op with
  | .call c => match c.callee with
    | .value _ => match evs st o.op.operands.toList with
      | some (.fn f caps :: as) => match frzAllC (nodesOf (obsC st (.fn f caps :: as))) ow 0 (as ++ caps) with
        | some (ts, pl, ok) =>
          if pl.all (fun e => decide (look e.1 pl = some e.2)) = true ∧ (roC (nodesOf (obsC st (.fn f caps :: as))) ow (as ++ caps)).all (fun i => (look i pl).isNone) = true ∧ (idsL (as ++ caps)).all (fun i => (nodesOf (obsC st (.fn f caps :: as)) i).isSome) = true ∧ dstOk st o.dst = true then
            some ⟨f, roC (nodesOf (obsC st (.fn f caps :: as))) ow (as ++ caps), as ++ caps, ts, pl, ok⟩
          else none
        | none => none
      | _ => none
    | _ => none
  | _ => none

/-- what is told behind a call -/
def callOut (st : St) (o : Oper) (ow : List Nat) (ci : CallIn) (vs : List AV) (res : AV) (muts : List (Nat × AV)) : Option (Eff × Prop) :=
  match thw (o.dst.getD 0) (.res, []) res, gbAll ci.all muts with
  | some (x, po1, _), some po2 =>
    if apart (po1 ++ po2) = true ∧ ((po1 ++ po2).map (·.2.1)).Nodup ∧ po2.all (fun e => (look e.2.1 ci.pl).isSome) = true ∧ (po1 ++ po2).all (fun e => !decide (e.1.1 = .tmp)) = true then
      some ({ rd := rdOf st o.op.operands.toList, ob := (po1.map fun e => (e.2.1, none)) ++ obsC st vs, new := po1.map (·.2.1), wr := wrD o.dst x,
              up := ((po1 ++ po2).map fun e => (e.2.1, some e.2.2)) ++ ci.pl.map fun e => (e.1, none) },
        (∀ e ∈ po1, st.obj e.2.1 = none ∧ e.2.1 ∉ st.ids) ∧ (ci.ro = [] ∨ (res.ownd = true ∧ ∀ e ∈ po1 ++ po2, owndLL e.2.2.l = true)))
    else none
  | _, _ => none

end Go.AM
namespace Go.AM

def isTmp : Option Lab → Bool
  | some (.tmp, _) => true
  | _ => false

/-- the labels behind a call -/
def labB (w : World) (lab labc labq : Labs) (po : PlanO) : Labs := fun b =>
  if b < w.heap.size ∧ isTmp (labc b) = true then lab b
  else match labq b with
    | some (r, q) => findP po r q
    | none => if b < w.heap.size ∧ (labc b).isNone = true then lab b else none

def locB (loc : Locs) (L : List (Nat × (Nat × Nat))) (pl : PlanI) : Locs := fun i => match look i L with
  | some bb => some bb
  | none => if (look i pl).isSome then none else loc i

theorem idsL_append (a b : List AV) : idsL (a ++ b) = idsL a ++ idsL b := by
  induction a with
  | nil => rfl
  | cons x a ih => simp [idsL, ih]

theorem look_map_some {α : Type} {l : List (Nat × α)} {i : Nat} (h : i ∈ l.map (·.1)) : ∃ x, look i l = some x := by
  induction l with
  | nil => cases h
  | cons y l ih =>
    obtain ⟨k, x⟩ := y
    simp only [look]
    by_cases hk : i = k
    · exact ⟨x, by rw [if_pos hk]⟩
    · rw [if_neg hk]
      simp only [List.map_cons, List.mem_cons] at h
      exact ih (h.resolve_left hk)

section snd
variable {P : Program} {w0 : World} {lab0 : Labs}

theorem call_sound {o : Oper} {st : St} {ow : List Nat} {ci : CallIn} {vs : List AV} {res : AV} {muts : List (Nat × AV)} {e : Eff} {ok : Prop}
    (hci : callIn st o ow = some ci) (hokc : ci.ok) (hdc : DC P ci.f ci.ts res muts) (hvs : evs st o.op.operands.toList = some vs) (hco : callOut st o ow ci vs res muts = some (e, ok)) (hok : ok) :
    e.pre st ∧ Sound P w0 lab0 st.n o e := by
  unfold callIn at hci
  split at hci <;> first | (cases hci; done) | skip
  rename_i c hop
  split at hci <;> first | (cases hci; done) | skip
  rename_i fo hcal
  split at hci <;> first | (cases hci; done) | skip
  rename_i f caps as hev
  rw [hvs] at hev
  cases hev
  split at hci <;> first | (cases hci; done) | skip
  rename_i ts pl okf hfz
  split at hci <;> first | (cases hci; done) | cases hci
  rename_i hchk
  obtain ⟨hplan, hro, hliv, hdst⟩ := hchk
  simp only at hokc hdc hco
  unfold callOut at hco
  split at hco <;> first | (cases hco; done) | skip
  rename_i x po1 cn po2 hthw hgb
  split at hco <;> first | (cases hco; done) | cases hco
  rename_i hchk2
  obtain ⟨hap, hnodup, hpo2, hroot⟩ := hchk2
  obtain ⟨hnew, hown⟩ := hok
  simp only at hgb hpo2 hown
  obtain ⟨RO, hRO⟩ : ∃ l, l = roC (nodesOf (obsC st (.fn f caps :: as))) ow (as ++ caps) := ⟨_, rfl⟩
  rw [← hRO] at hown hro
  rw [List.all_eq_true] at hplan hro hliv hpo2 hroot
  have hobs : ∀ p ∈ obsC st (.fn f caps :: as), st.obj p.1 = p.2 := by
    intro p hp
    unfold obsC obsOf at hp
    rcases List.mem_append.1 hp with hp | hp <;> (obtain ⟨i, _, rfl⟩ := List.mem_map.1 hp; rfl)
  have hrd := rdOf_self (st := st) o.op.operands.toList
  refine ⟨⟨hrd, ?_, ?_, by simp⟩, ?_⟩
  · intro p hp
    rcases List.mem_append.1 hp with hp | hp
    · obtain ⟨e, he, rfl⟩ := List.mem_map.1 hp
      exact (hnew e he).1
    · exact hobs p hp
  · intro i hi
    obtain ⟨e, he, rfl⟩ := List.mem_map.1 hi
    exact (hnew e he).2
  intro st' a w hn hp ⟨lab, loc, hR⟩ next Q hnext
  have hv := evs_pre (st' := st') hvs hp.1
  have hV := evs_V hR hv
  have hids := evs_ids hv
  have hnod := nodesOf_pre (st := st') (ob := obsC st (.fn f caps :: as)) (fun p hp' => hp.2.1 p (List.mem_append_right _ hp'))
  have hnw : ∀ i nd, nodesOf (obsC st (.fn f caps :: as)) i = some nd → ∃ b base, loc i = some (b, base) ∧ ObjOk w lab loc i nd b base := fun i nd hi => hR.objs i nd (hnod i nd hi)
  have hnew' : ∀ e ∈ po1, st'.obj e.2.1 = none ∧ e.2.1 ∉ st'.ids := fun e he =>
    ⟨hp.2.1 (e.2.1, none) (List.mem_append_left _ (List.mem_map.2 ⟨e, he, rfl⟩)), hp.2.2.1 e.2.1 (List.mem_map_of_mem he)⟩
  -- the operands
  have hops : o.op.operands.toList.map a.eval = a.eval fo :: c.args.toList.map a.eval := by rw [hop]; simp [Op.operands, Call.operands, hcal]
  rw [hops] at hV
  obtain ⟨hVf, hVas⟩ := hV.tail
  obtain ⟨us, hfo, hul, hur⟩ := hVf.inv_fn
  have hlen : (as ++ caps).length = (c.args.toList.map a.eval ++ us).length := by simp only [List.length_append]; rw [hVas.1, hul]
  have hvall : ∀ (i : Nat) x v, (as ++ caps)[i]? = some x → (c.args.toList.map a.eval ++ us)[i]? = some v → V w lab loc x v := by
    intro i x v hx hv
    rw [List.getElem?_append] at hx hv
    rw [← hVas.1] at hv
    split at hx
    · rename_i h; rw [if_pos h] at hv; exact hVas.2 i x v hx hv
    · rename_i h; rw [if_neg h] at hv; exact hur _ x v hx hv
  have hidall : ∀ i ∈ idsL (as ++ caps), i ∈ st'.ids ∧ i ∈ (obsOf st (.fn f caps :: as)).map (·.1) := by
    intro i hi
    rw [idsL_append, List.mem_append] at hi
    constructor
    · rcases hi with hi | hi
      · obtain ⟨y, hy, hk⟩ := mem_idsL' hi
        exact hids y (List.mem_cons_of_mem _ hy) i hk
      · exact hids (.fn f caps) List.mem_cons_self i (by simpa [AV.ids] using hi)
    · simp only [obsOf, List.map_map, List.mem_map, Function.comp]
      refine ⟨i, ?_, rfl⟩
      simp only [idsL, List.mem_append, AV.ids]
      rcases hi with hi | hi
      · exact Or.inr hi
      · exact Or.inl hi
  -- what the callee sees
  have hpl : ∀ e ∈ pl, look e.1 pl = some e.2 := fun e he => by simpa using hplan e he
  obtain ⟨hts, hT⟩ := frzAllC_sound hnw (pl := pl) (ro := RO) (as ++ caps) _ 0 ts pl _ hfz hokc hlen hvall hpl (fun i hi => by
    have hi2 : i ∈ RO := by rw [hRO]; exact List.mem_append_left _ hi
    have := hro i hi2
    simp only [Option.isNone_iff_eq_none] at this
    exact ⟨this, hi2⟩) (fun i hi => by
    have hi2 : i ∈ RO := by rw [hRO]; exact List.mem_append_right _ hi
    have := hro i hi2
    simp only [Option.isNone_iff_eq_none] at this
    exact ⟨this, hi2⟩)
  have hfreshc : ∀ b, labC lab pl (RO) b ≠ none → b < w.heap.size := by
    intro b hb
    apply hR.fresh
    intro e; exact hb (labC_none e)
  obtain ⟨⟨fn, hfn, hbody, hname⟩, hcalls⟩ := hdc
  have hc := hcalls w (labC lab pl (RO)) (c.args.toList.map a.eval ++ us) hts (fun k x v hx hv => by simpa using hT k x v hx hv) hfreshc
  -- the operation
  have hrun : (execOp a.eval o).run P w = .ok (.enter f ⟨c.args.toList.map a.eval ++ us⟩) w := by
    have hargs : (c.args.map a.eval ++ (⟨us⟩ : Array Value)) = ⟨c.args.toList.map a.eval ++ us⟩ := by apply Array.ext'; simp
    simp only [execOp, hop, resolve, hcal, hfo, Deferred.ofValue, invoke, Sem.run_bind, Sem.run_pure, Result.andThen_ok, Array.empty_append, callFunc, run_program, hfn, hname, Bool.false_eq_true, if_false, hbody, hargs]
  unfold Oper.wp
  rw [hrun]
  show Calls P f _ w _
  refine hc.mono ?_
  rintro en w' ⟨v, labq, rfl, hres, hmuts, hext, hfresh'⟩
  apply hnext
  -- the places
  have hlive : ∀ i ∈ idsL (as ++ caps), ∃ bb, loc i = some bb := by
    intro i hi
    obtain ⟨nd, hnd⟩ := Option.isSome_iff_exists.1 (hliv i hi)
    obtain ⟨b, base, hl, _⟩ := hnw i nd hnd
    exact ⟨_, hl⟩
  obtain ⟨L1, hP1, hS⟩ := thw_sound hthw hres
  obtain ⟨L2, hP2, hL2⟩ := gbAll_sound (w' := w') (labq := labq) hlive hlen hvall muts po2 hgb hmuts
  have hP := hP1.append hP2
  obtain ⟨labc, hlabc⟩ : ∃ l, l = labC lab pl (RO) := ⟨_, rfl⟩
  rw [← hlabc] at hext
  have hz := hext.size
  -- the labels that the callee saw
  have c1 : ∀ b, lab b = none → labc b = none := fun b h => by rw [hlabc]; exact labC_none h
  have c2 : ∀ b, labc b = none → lab b = none ∨ ∃ id p, lab b = some (.obj id, p) ∧ id ∈ RO := by
    intro b h
    rw [hlabc] at h
    unfold labC at h
    split at h
    · rename_i id p hl
      split at h
      · cases h
      · split at h
        · rename_i hin; exact Or.inr ⟨id, p, hl, hin⟩
        · cases h
    · rename_i hl; exact Or.inl hl
    · cases h
  have c3 : ∀ b id p, lab b = some (.obj id, p) → look id pl = none → labc b = none ∨ labc b = some (.tmp, []) := by
    intro b id p hl hp
    rw [hlabc]
    simp only [labC, hl, hp]
    split
    · exact Or.inl rfl
    · exact Or.inr rfl
  have c4 : ∀ b, still (lab b) → (lab b = none ∧ labc b = none) ∨ labc b = some (.tmp, []) := by
    intro b h
    cases hl : lab b with
    | none => exact Or.inl ⟨rfl, c1 b hl⟩
    | some l =>
      obtain ⟨r, p⟩ := l
      rw [hl] at h
      cases r with
      | tmp => right; rw [hlabc]; simp [labC, hl]
      | _ => exact h.elim
  have htmp : ∀ b, isTmp (labc b) = true → still (labc b) := by
    intro b h
    cases hl : labc b with
    | none => trivial
    | some l => obtain ⟨r, p⟩ := l; rw [hl] at h; cases r <;> first | trivial | (simp [isTmp] at h)
  obtain ⟨lab', hlab'⟩ : ∃ l, l = labB w lab labc labq (po1 ++ po2) := ⟨_, rfl⟩
  obtain ⟨loc', hloc'⟩ : ∃ l, l = locB loc (L1 ++ L2) pl := ⟨_, rfl⟩
  -- labels behind the call
  have b1 : ∀ b, b < w.heap.size → isTmp (labc b) = true → lab' b = lab b := by
    intro b hb ht; rw [hlab']; simp only [labB]; rw [if_pos ⟨hb, ht⟩]
  have b2 : ∀ b, b < w.heap.size → labc b = none → lab' b = lab b := by
    intro b hb hc
    have hq : labq b = none := by rw [(hext.kept b hb (by rw [hc]; trivial)).1, hc]
    rw [hlab']; simp only [labB]
    rw [if_neg (by rw [hc]; simp [isTmp]), hq]
    simp [hb, hc]
  have b3 : ∀ b, labq b = none → RO = [] → lab' b = none := by
    intro b hq hro0
    rw [hlab']; simp only [labB]
    rw [if_neg, hq]
    · simp only
      split
      · rename_i hh
        obtain ⟨hb, hc⟩ := hh
        rw [Option.isNone_iff_eq_none] at hc
        rcases c2 b hc with h | ⟨id, p, _, hin⟩
        · exact h
        · rw [hro0] at hin; cases hin
      · rfl
    · rintro ⟨hb, ht⟩
      have := (hext.kept b hb (htmp b ht)).1
      rw [← this, hq] at ht
      simp [isTmp] at ht
  have b4 : ∀ e ∈ po1 ++ po2, ∀ b q, labq b = some (e.1.app q) → lab' b = some (.obj e.2.1, q) := by
    intro e he b q hq
    rw [hlab']; simp only [labB]
    rw [if_neg, hq]
    · simp only [Lab.app]; exact findP_mem hap he q
    · rintro ⟨hb, ht⟩
      have h1 := (hext.kept b hb (htmp b ht)).1
      rw [← h1, hq] at ht
      have hr := hroot e he
      simp only [Lab.app, isTmp] at ht
      split at ht
      · rename_i hh
        simp only [Option.some.injEq, Prod.mk.injEq] at hh
        simp [hh.1] at hr
      · cases ht
  have hext' : Ext lab w lab' w' := by
    refine ⟨hext.size, hext.os, hext.out, ?_, hext.blk⟩
    intro b hb hs
    rcases c4 b hs with ⟨h1, h2⟩ | h1
    · exact ⟨b2 b hb h2, (hext.kept b hb (by rw [h2]; trivial)).2⟩
    · exact ⟨b1 b hb (by rw [h1]; rfl), (hext.kept b hb (by rw [h1]; trivial)).2⟩
  -- places
  have l1 : ∀ l ∈ L1 ++ L2, loc' l.1 = some l.2 := by
    intro l hl
    rw [hloc']; simp only [locB]
    rw [look_places hP hnodup hl]
  have l2 : ∀ i, look i (L1 ++ L2) = none → look i pl = none → loc' i = loc i := by
    intro i h1 h2; rw [hloc']; simp [locB, h1, h2]
  have l3 : ∀ i, look i (L1 ++ L2) = none → (look i pl).isSome = true → loc' i = none := by
    intro i h1 h2; rw [hloc']; simp [locB, h1, h2]
  have hL : ∀ i, i ∉ (po1 ++ po2).map (·.2.1) → look i (L1 ++ L2) = none := by
    intro i hi
    cases hl : look i (L1 ++ L2) with
    | none => rfl
    | some bb =>
      obtain ⟨e, he, h1, _⟩ := look_L_mem hP hl
      exact absurd (List.mem_map.2 ⟨e, he, h1⟩) hi
  -- what 'up' says
  have u1 : ∀ i, look i (((po1 ++ po2).map fun e => (e.2.1, some e.2.2)) ++ pl.map fun e => (e.1, (none : Option Node))) = none → i ∉ (po1 ++ po2).map (·.2.1) ∧ look i pl = none := by
    intro i hi
    rw [look_append] at hi
    constructor
    · intro hm
      obtain ⟨x, hx⟩ := look_map_some (l := (po1 ++ po2).map fun e => (e.2.1, some e.2.2)) (i := i) (by simpa [List.map_map, Function.comp] using hm)
      rw [hx] at hi; simp at hi
    · cases hp : look i pl with
      | none => rfl
      | some y =>
        obtain ⟨x, hx⟩ := look_map_some (l := pl.map fun e => (e.1, (none : Option Node))) (i := i) (by
          have := look_mem hp
          simp only [List.map_map, List.mem_map, Function.comp]
          exact ⟨(i, y), this, rfl⟩)
        rw [hx] at hi; simp at hi
  have u2 : ∀ i nd, look i (((po1 ++ po2).map fun e => (e.2.1, some e.2.2)) ++ pl.map fun e => (e.1, (none : Option Node))) = some (some nd) → ∃ e ∈ po1 ++ po2, e.2.1 = i ∧ e.2.2 = nd := by
    intro i nd hi
    have := look_mem hi
    rcases List.mem_append.1 this with h | h
    · obtain ⟨e, he, h2⟩ := List.mem_map.1 h
      simp only [Prod.mk.injEq, Option.some.injEq] at h2
      exact ⟨e, he, h2.1, h2.2⟩
    · obtain ⟨e, _, h2⟩ := List.mem_map.1 h
      simp at h2
  have u3 : ∀ i, look i (((po1 ++ po2).map fun e => (e.2.1, some e.2.2)) ++ pl.map fun e => (e.1, (none : Option Node))) = some none → i ∉ (po1 ++ po2).map (·.2.1) ∧ (look i pl).isSome = true := by
    intro i hi
    rw [look_append] at hi
    cases hA : look i ((po1 ++ po2).map fun e => (e.2.1, some e.2.2)) with
    | some y =>
      rw [hA] at hi; simp at hi; subst hi
      obtain ⟨e, _, h2⟩ := List.mem_map.1 (look_mem hA)
      simp at h2
    | none =>
      rw [hA] at hi
      constructor
      · intro hm
        obtain ⟨x, hx⟩ := look_map_some (l := (po1 ++ po2).map fun e => (e.2.1, some e.2.2)) (i := i) (by simpa [List.map_map, Function.comp] using hm)
        rw [hx] at hA; cases hA
      · simp only [Option.none_or] at hi
        obtain ⟨e, he, h2⟩ := List.mem_map.1 (look_mem hi)
        simp only [Prod.mk.injEq, and_true] at h2
        rw [← h2, hpl e he]; rfl
  refine ⟨lab', loc', hR.step _ (put_size _ _ _) (by rw [put_defers]; exact hR.defers) hext' ?_ ?_ ?_ ?_ ?_ ?_ ?_⟩
  · intro s hs
    exact put_other a v (look_wrD_none hs)
  · intro s y hs
    obtain ⟨hds, rfl⟩ := look_wrD_some hs
    rw [hds, put_same a v (by rw [hR.size]; exact dstOk_lt hdst hn s hds)]
    refine hS lab' loc' ?_ (fun l hl => l1 l (List.mem_append_left _ hl))
    rcases hown with h | h
    · exact Or.inr fun b _ hq => b3 b hq h
    · exact Or.inl h.1
  · intro i nd b base hi hu hl
    obtain ⟨h1, h2⟩ := u1 i hu
    refine ⟨by rw [l2 i (hL i h1) h2]; exact hl, fun b' q hb' hq => ?_⟩
    rcases c3 b' i q hq h2 with h3 | h3
    · exact ⟨b2 b' hb' h3, (hext.kept b' hb' (by rw [h3]; trivial)).2⟩
    · exact ⟨b1 b' hb' (by rw [h3]; rfl), (hext.kept b' hb' (by rw [h3]; trivial)).2⟩
  · intro i nd hu
    obtain ⟨e, he, rfl, rfl⟩ := u2 i nd hu
    obtain ⟨l, hl, h1, h2⟩ := places_of_mem hP he
    refine ⟨l.2.1, l.2.2, by rw [← h1]; exact l1 l hl, b4 e he _ [] (by rw [Lab.app_nil]; exact h2.hlab), h2.blk, h2.es, ?_⟩
    intro i c j y hi hj
    obtain ⟨v, hv, hT⟩ := h2.cells i c j y hi hj
    refine ⟨v, hv, Or.inr (hT.relab ?_ ?_)⟩
    · rcases hown with h | ⟨_, h⟩
      · exact Or.inr fun b _ hq => b3 b hq h
      · left
        have := h e he
        rw [owndLL_eq, List.all_eq_true] at this
        have := this c (List.mem_of_getElem? hi)
        rw [List.all_eq_true] at this
        exact this y (List.mem_of_getElem? hj)
    · intro b q _ hq
      rw [Lab.down_app] at hq
      exact b4 e he b _ hq
  · intro i hi
    rcases hi with hi | ⟨hi, ho⟩
    · obtain ⟨h1, h2⟩ := u3 i hi
      exact l3 i (hL i h1) h2
    · obtain ⟨h1, h2⟩ := u1 i hi
      rw [l2 i (hL i h1) h2]
      exact hR.dead i ho
  · intro b hb
    rw [hlab'] at hb
    simp only [labB] at hb
    split at hb
    · rename_i hh; exact Nat.lt_of_lt_of_le hh.1 hz
    · split at hb
      · rename_i r q hq
        exact hfresh' b (by rw [hq]; simp)
      · split at hb
        · rename_i hh; exact Nat.lt_of_lt_of_le hh.1 hz
        · exact absurd rfl hb
  · intro i hi b base hl
    cases hlk : look i (L1 ++ L2) with
    | some bb =>
      have hm := look_mem hlk
      have h1 := l1 _ hm
      simp only at h1
      rw [hl] at h1; cases h1
      rcases List.mem_append.1 hm with hm | hm
      · exfalso
        obtain ⟨k, hk⟩ := List.mem_iff_getElem?.1 hm
        have hk' : k < po1.length := by rw [← hP1.1]; exact (List.getElem?_eq_some_iff.1 hk).1
        have := (hP1.2 k po1[k] _ (List.getElem?_eq_getElem hk') hk).1
        exact (hnew' po1[k] (List.getElem_mem hk')).2 (by rw [← this]; exact hi)
      · exact hL2 _ hm
    | none =>
      cases hp : look i pl with
      | none => rw [l2 i hlk hp] at hl; exact hl
      | some y => rw [l3 i hlk (by rw [hp]; rfl)] at hl; cases hl
end snd

end Go.AM
namespace Go.AM

/-! ### effects that do not touch each other -/
def keys {α : Type} (l : List (Nat × α)) : List Nat := l.map (·.1)

def away (a b : List Nat) : Bool := a.all fun x => !b.contains x

theorem away_iff {a b : List Nat} : away a b = true ↔ ∀ x ∈ a, x ∉ b := by
  simp [away]

def Eff.outIds (e : Eff) : List Nat := slotIds e.wr ++ objIds e.up

/-- two effects that may change places -/
def hasS (i : Nat) : List (Nat × Option Node) → Bool
  | [] => false
  | (j, some _) :: r => i == j || hasS i r
  | (_, none) :: r => hasS i r
/-- what an effect may make where it was not, or take away -/
def brkL (ob : List (Nat × Option Node)) : List (Nat × Option Node) → List Nat
  | [] => []
  | (i, none) :: r => i :: brkL ob r
  | (i, some _) :: r => cond (hasS i ob) (brkL ob r) (i :: brkL ob r)
theorem hasS_mem {i : Nat} : ∀ {l : List (Nat × Option Node)}, hasS i l = true → ∃ nd, (i, some nd) ∈ l
  | [], h => by cases h
  | (j, some nd) :: r, h => by
    simp only [hasS, Bool.or_eq_true, beq_iff_eq] at h
    rcases h with rfl | h
    · exact ⟨nd, List.mem_cons_self⟩
    · obtain ⟨n, hn⟩ := hasS_mem h; exact ⟨n, List.mem_cons_of_mem _ hn⟩
  | (_, none) :: r, h => by
    obtain ⟨n, hn⟩ := hasS_mem (l := r) h; exact ⟨n, List.mem_cons_of_mem _ hn⟩
theorem brkL_mem {ob : List (Nat × Option Node)} {i : Nat} {x : Option Node} : ∀ {up : List (Nat × Option Node)}, i ∉ brkL ob up → (i, x) ∈ up → (∃ nd, x = some nd) ∧ hasS i ob = true
  | [], _, h => by cases h
  | (j, none) :: r, h, hm => by
    simp only [brkL, List.mem_cons, not_or] at h
    rcases List.mem_cons.1 hm with e | e
    · cases e; exact absurd rfl h.1
    · exact brkL_mem h.2 e
  | (j, some nd) :: r, h, hm => by
    simp only [brkL] at h
    cases h1 : hasS j ob with
    | true =>
      rw [h1] at h
      rcases List.mem_cons.1 hm with e | e
      · cases e; exact ⟨⟨nd, rfl⟩, h1⟩
      · exact brkL_mem h e
    | false =>
      rw [h1] at h
      rcases List.mem_cons.1 hm with e | e
      · cases e; exact absurd List.mem_cons_self h
      · exact brkL_mem (fun hh => h (List.mem_cons_of_mem _ hh)) e
theorem brk_ok {e : Eff} {st : St} (he : e.pre st) {i : Nat} (h : i ∉ brkL e.ob e.up) : ((e.apply st).obj i).isSome = (st.obj i).isSome := by
  rw [obj_apply]
  cases hl : look i e.up with
  | none => rfl
  | some x =>
    obtain ⟨⟨nd, rfl⟩, h2⟩ := brkL_mem h (look_mem hl)
    obtain ⟨n2, h3⟩ := hasS_mem h2
    rw [he.2.1 _ h3]; rfl
def indepB (e f : Eff) : Bool :=
  away (keys e.wr) (keys f.rd) && away (keys e.wr) (keys f.wr) && away (keys f.wr) (keys e.rd) &&
  away (keys e.up) (keys f.ob) && away (keys e.up) (keys f.up) && away (keys f.up) (keys e.ob) &&
  (match e.new with | [] => true | n => away n f.outIds) && (match f.new with | [] => true | n => away n e.outIds) && (away f.ex (brkL e.ob e.up) && away e.ex (brkL f.ob f.up))

structure Indep (e f : Eff) : Prop where
  wr : ∀ s, s ∈ keys e.wr → s ∉ keys f.rd ∧ s ∉ keys f.wr
  rw : ∀ s, s ∈ keys f.wr → s ∉ keys e.rd
  up : ∀ i, i ∈ keys e.up → i ∉ keys f.ob ∧ i ∉ keys f.up
  ob : ∀ i, i ∈ keys f.up → i ∉ keys e.ob
  n1 : ∀ i, i ∈ e.new → i ∉ f.outIds
  n2 : ∀ i, i ∈ f.new → i ∉ e.outIds
  x1 : ∀ i, i ∈ f.ex → i ∉ brkL e.ob e.up
  x2 : ∀ i, i ∈ e.ex → i ∉ brkL f.ob f.up

theorem indepB_sound {e f : Eff} (h : indepB e f = true) : Indep e f := by
  simp only [indepB, Bool.and_eq_true, away_iff] at h
  obtain ⟨⟨⟨⟨⟨⟨⟨⟨h1, h2⟩, h3⟩, h4⟩, h5⟩, h6⟩, h7⟩, h8⟩, h9, h10⟩ := h
  refine ⟨fun s hs => ⟨h1 s hs, h2 s hs⟩, h3, fun s hs => ⟨h4 s hs, h5 s hs⟩, h6, ?_, ?_, h9, h10⟩
  · intro i hi
    split at h7
    · rename_i hn; rw [hn] at hi; cases hi
    · exact away_iff.1 h7 i hi
  · intro i hi
    split at h8
    · rename_i hn; rw [hn] at hi; cases hi
    · exact away_iff.1 h8 i hi

theorem mem_keys {α : Type} {l : List (Nat × α)} {p : Nat × α} (h : p ∈ l) : p.1 ∈ keys l := List.mem_map_of_mem h
theorem look_keys {α : Type} {l : List (Nat × α)} {k : Nat} (h : k ∉ keys l) : look k l = none := look_none h
theorem look_keys' {α : Type} {l : List (Nat × α)} {k : Nat} {x : α} (h : look k l = some x) : k ∈ keys l := mem_keys (look_mem h)

theorem ids_apply (e : Eff) (st : St) (i : Nat) : i ∈ (e.apply st).ids ↔ i ∈ e.outIds ∨ i ∈ st.ids := by
  simp only [St.ids, Eff.apply, Eff.outIds, slotIds, objIds, List.flatMap_append, List.mem_append]
  constructor
  · rintro ((h | h) | (h | h))
    · exact .inl (.inl h)
    · exact .inr (.inl h)
    · exact .inl (.inr h)
    · exact .inr (.inr h)
  · rintro ((h | h) | (h | h))
    · exact .inl (.inl h)
    · exact .inr (.inl h)
    · exact .inl (.inr h)
    · exact .inr (.inr h)

theorem Indep.swap {e f : Eff} (h : Indep e f) {st : St} (he : e.pre st) (hf : f.pre (e.apply st)) :
    f.pre st ∧ e.pre (f.apply st) ∧ St.Alike (f.apply (e.apply st)) (e.apply (f.apply st)) := by
  have hf0 : f.pre st := by
   refine ⟨?_, ?_, ?_, fun i hi => by rw [← brk_ok he (h.x1 i hi)]; exact hf.2.2.2 i hi⟩
   · intro p hp
     have := hf.1 p hp
     rw [slot_apply, look_keys (fun hk => (h.wr _ hk).1 (mem_keys hp))] at this
     simpa using this
   · intro p hp
     have := hf.2.1 p hp
     rw [obj_apply, look_keys (fun hk => (h.up _ hk).1 (mem_keys hp))] at this
     exact this
   · intro i hi hin
     exact hf.2.2.1 i hi ((ids_apply e st i).2 (.inr hin))
  refine ⟨hf0, ⟨?_, ?_, ?_, fun i hi => by rw [brk_ok hf0 (h.x2 i hi)]; exact he.2.2.2 i hi⟩, ?_⟩
  · intro p hp
    rw [slot_apply, look_keys (fun hk => h.rw _ hk (mem_keys hp))]
    simpa using he.1 p hp
  · intro p hp
    rw [obj_apply, look_keys (fun hk => h.ob _ hk (mem_keys hp))]
    exact he.2.1 p hp
  · intro i hi hin
    rcases (ids_apply f st i).1 hin with h1 | h1
    · exact h.n1 i hi h1
    · exact he.2.2.1 i hi h1
  · refine ⟨rfl, ?_, ?_, ?_⟩
    · intro s
      simp only [slot_apply]
      cases h1 : look s e.wr with
      | none => simp
      | some x =>
        have := (h.wr s (look_keys' h1)).2
        rw [look_keys this]; simp
    · intro i
      simp only [obj_apply]
      cases h1 : look i e.up with
      | none => rfl
      | some x =>
        have := (h.up i (look_keys' h1)).2
        rw [look_keys this]
    · intro i
      simp only [ids_apply]
      constructor
      · rintro (h | h | h)
        · exact .inr (.inl h)
        · exact .inl h
        · exact .inr (.inr h)
      · rintro (h | h | h)
        · exact .inr (.inl h)
        · exact .inl h
        · exact .inr (.inr h)

theorem St.Alike.refl (st : St) : St.Alike st st := ⟨rfl, fun _ => rfl, fun _ => rfl, fun _ => Iff.rfl⟩
theorem St.Alike.trans {a b c : St} (h : St.Alike a b) (h' : St.Alike b c) : St.Alike a c :=
  ⟨h'.n.trans h.n, fun s => (h'.slot s).trans (h.slot s), fun i => (h'.obj i).trans (h.obj i), fun i => (h'.ids i).trans (h.ids i)⟩
theorem St.Alike.symm {a b : St} (h : St.Alike a b) : St.Alike b a :=
  ⟨h.n.symm, fun s => (h.slot s).symm, fun i => (h.obj i).symm, fun i => (h.ids i).symm⟩

theorem St.Alike.pre {a b : St} (h : St.Alike a b) {e : Eff} (he : e.pre a) : e.pre b :=
  ⟨fun p hp => by rw [h.slot]; exact he.1 p hp, fun p hp => by rw [h.obj]; exact he.2.1 p hp, fun i hi hin => he.2.2.1 i hi ((h.ids i).1 hin), fun i hi => by rw [h.obj]; exact he.2.2.2 i hi⟩

theorem St.Alike.apply {a b : St} (h : St.Alike a b) (e : Eff) : St.Alike (e.apply a) (e.apply b) :=
  ⟨h.n, fun s => by simp only [slot_apply, h.slot], fun i => by simp only [obj_apply, h.obj], fun i => by simp only [ids_apply, h.ids]⟩

/-! ### a row of effects -/
/-- what the i-th operation of a region does, guard and all -/
def SoundI (P : Program) (w0 : World) (lab0 : Labs) (ops : Array Oper) (n : Nat) (i : Nat) (e : Eff) : Prop :=
  ∀ st a w, st.n = n → e.pre st → Rep w0 lab0 st a w → ∀ (rest : List Nat) (Q : Exit → Act → World → Prop),
    (∀ a' w', Rep w0 lab0 (e.apply st) a' w' → wpOps P ops Q rest a' w') → wpOps P ops Q (i :: rest) a w

def Chain (P : Program) (w0 : World) (lab0 : Labs) (ops : Array Oper) : St → List (Nat × Eff) → St → Prop
  | st, [], st' => st' = st
  | st, (i, e) :: r, st' => e.pre st ∧ SoundI P w0 lab0 ops st.n i e ∧ Chain P w0 lab0 ops (e.apply st) r st'

section
variable {P : Program} {w0 : World} {lab0 : Labs} {ops : Array Oper}

theorem Chain.sound {es : List (Nat × Eff)} {st st' : St} (h : Chain P w0 lab0 ops st es st') {a : Act} {w : World} (hr : Rep w0 lab0 st a w) {Q : Exit → Act → World → Prop}
    (hq : ∀ a' w', Rep w0 lab0 st' a' w' → Q .normal a' w') : wpOps P ops Q (es.map (·.1)) a w := by
  induction es generalizing st a w with
  | nil => simp only [Chain] at h; subst h; exact hq _ _ hr
  | cons p es ih =>
    obtain ⟨i, e⟩ := p
    obtain ⟨h1, h2, h3⟩ := h
    exact h2 st a w rfl h1 hr _ _ fun a' w' hr' => ih h3 hr'

theorem Chain.alike {es : List (Nat × Eff)} {s s' t : St} (h : Chain P w0 lab0 ops s es s') (ha : St.Alike s t) : ∃ t', Chain P w0 lab0 ops t es t' ∧ St.Alike s' t' := by
  induction es generalizing s t with
  | nil => simp only [Chain] at h; subst h; exact ⟨t, rfl, ha⟩
  | cons p es ih =>
    obtain ⟨i, e⟩ := p
    obtain ⟨h1, h2, h3⟩ := h
    obtain ⟨t', h4, h5⟩ := ih h3 (ha.apply e)
    exact ⟨t', ⟨ha.pre h1, by rw [ha.n]; exact h2, h4⟩, h5⟩

theorem Chain.front {es1 es2 : List (Nat × Eff)} {p : Nat × Eff} {st st' : St} (h : Chain P w0 lab0 ops st (es1 ++ p :: es2) st') (hi : ∀ q ∈ es1, Indep q.2 p.2) :
    ∃ st'', Chain P w0 lab0 ops st (p :: (es1 ++ es2)) st'' ∧ St.Alike st' st'' := by
  induction es1 generalizing st with
  | nil => exact ⟨st', h, .refl _⟩
  | cons q es1 ih =>
    obtain ⟨i, e⟩ := p
    obtain ⟨j, f⟩ := q
    obtain ⟨h1, h2, h3⟩ := h
    obtain ⟨s2, ⟨h4, h5, h6⟩, h7⟩ := ih h3 fun q hq => hi q (List.mem_cons_of_mem _ hq)
    obtain ⟨g1, g2, g3⟩ := (hi (j, f) List.mem_cons_self).swap h1 h4
    obtain ⟨t', h8, h9⟩ := h6.alike g3
    exact ⟨t', ⟨g1, h5, g2, h2, h8⟩, h7.trans h9⟩

/-- an order that comes from another by moving ahead what may be moved -/
inductive Mix : List Nat → List (Nat × Eff) → Prop
  | nil : Mix [] []
  | cons (l : List Nat) (es1 es2 : List (Nat × Eff)) (p : Nat × Eff) (hi : ∀ q ∈ es1, Indep q.2 p.2) (h : Mix l (es1 ++ es2)) : Mix (p.1 :: l) (es1 ++ p :: es2)

theorem Mix.chain {l : List Nat} {es : List (Nat × Eff)} (h : Mix l es) : ∀ {st st' : St}, Chain P w0 lab0 ops st es st' → ∃ es' st'', es'.map (·.1) = l ∧ Chain P w0 lab0 ops st es' st'' ∧ St.Alike st' st'' := by
  induction h with
  | nil => exact fun h => ⟨[], _, rfl, h, .refl _⟩
  | cons l es1 es2 p hi _ ih =>
    intro st st' hc
    obtain ⟨s2, h1, h2⟩ := hc.front hi
    obtain ⟨i, e⟩ := p
    obtain ⟨h3, h4, h5⟩ := h1
    obtain ⟨es', s3, h6, h7, h8⟩ := ih h5
    exact ⟨(i, e) :: es', s3, by simp [h6], ⟨h3, h4, h7⟩, h2.trans h8⟩
end

/-! ### the orders that a region may take -/
def maskOf (B : Array Nat) (o : Oper) : Nat := o.after.toList.foldl (fun s e => if Region.binds .any e then s ||| 2 ^ e.on ||| B.getD e.on 0 else s) 0
def masks (ops : Array Oper) : Array Nat := ops.foldl (fun B o => B.push (maskOf B o)) #[]

def pairsOk (B : Array Nat) : List (Nat × Eff) → Bool
  | [] => true
  | p :: r => (r.all fun q => decide (p.1 < q.1) && ((B.getD q.1 0).testBit p.1 || indepB p.2 q.2)) && pairsOk B r

def rankL (l : List Nat) (i : Nat) : Nat := l.findIdx (· == i)
/-- each operation comes behind what it waits for, in each mode -/
def ordOk (ops : Array Oper) : Bool :=
  ((List.range ops.size).all fun i => match ops[i]? with
    | some o => o.after.toList.all fun e => decide (e.on < i)
    | none => false) ||
  (let g := Region.linearise .gc ops 0
   (List.range ops.size).all fun i => match ops[i]? with
    | some o => o.after.toList.all fun e => decide (e.on < ops.size) && (decide (e.on < i) || !Region.binds .text e && !Region.binds .any e) && (!Region.binds .gc e || decide (rankL g e.on < rankL g i))
    | none => false)
theorem ordOk_rank {ops : Array Oper} (h : ordOk ops = true) (m : Region.Mode) : ∃ rk : Nat → Nat, ∀ i o, ops[i]? = some o → ∀ e ∈ o.after.toList, Region.binds m e = true → e.on < ops.size ∧ rk e.on < rk i := by
  unfold ordOk at h
  rw [Bool.or_eq_true] at h
  rcases h with h | h
  · refine ⟨id, ?_⟩
    intro i o ho e he _
    have hi : i < ops.size := (Array.getElem?_eq_some_iff.1 ho).1
    have := List.all_eq_true.1 h i (List.mem_range.2 hi)
    rw [ho] at this
    have := List.all_eq_true.1 this e he
    rw [decide_eq_true_eq] at this
    exact ⟨by omega, this⟩
  · have key : ∀ i o, ops[i]? = some o → ∀ e ∈ o.after.toList, e.on < ops.size ∧ (e.on < i ∨ (Region.binds .text e = false ∧ Region.binds .any e = false)) ∧ (Region.binds .gc e = true → rankL (Region.linearise .gc ops 0) e.on < rankL (Region.linearise .gc ops 0) i) := by
      intro i o ho e he
      have hi : i < ops.size := (Array.getElem?_eq_some_iff.1 ho).1
      have := List.all_eq_true.1 h i (List.mem_range.2 hi)
      rw [ho] at this
      have := List.all_eq_true.1 this e he
      simp only [Bool.and_eq_true, Bool.or_eq_true, decide_eq_true_eq, Bool.not_eq_true'] at this
      refine ⟨this.1.1, this.1.2, fun hb => ?_⟩
      rcases this.2 with h2 | h2
      · rw [h2] at hb; cases hb
      · exact h2
    cases m with
    | text =>
      refine ⟨id, fun i o ho e he hb => ⟨(key i o ho e he).1, ?_⟩⟩
      rcases (key i o ho e he).2.1 with h2 | h2
      · exact h2
      · rw [h2.1] at hb; cases hb
    | any =>
      refine ⟨id, fun i o ho e he hb => ⟨(key i o ho e he).1, ?_⟩⟩
      rcases (key i o ho e he).2.1 with h2 | h2
      · exact h2
      · rw [h2.2] at hb; cases hb
    | gc => exact ⟨_, fun i o ho e he hb => ⟨(key i o ho e he).1, (key i o ho e he).2.2 hb⟩⟩
theorem min_rank {α : Type} (rk : α → Nat) : ∀ (l : List α), l ≠ [] → ∃ x ∈ l, ∀ y ∈ l, rk x ≤ rk y := by
  intro l
  induction l with
  | nil => intro h; exact absurd rfl h
  | cons x l ih =>
    intro _
    by_cases hl : l = []
    · subst hl; exact ⟨x, List.mem_cons_self, fun y hy => by simp at hy; subst hy; exact Nat.le_refl _⟩
    · obtain ⟨z, hz, hm⟩ := ih hl
      by_cases h : rk x ≤ rk z
      · exact ⟨x, List.mem_cons_self, fun y hy => by
          rcases List.mem_cons.1 hy with rfl | hy
          · exact Nat.le_refl _
          · exact Nat.le_trans h (hm y hy)⟩
      · exact ⟨z, List.mem_cons_of_mem _ hz, fun y hy => by
          rcases List.mem_cons.1 hy with rfl | hy
          · omega
          · exact hm y hy⟩

/-- the check of a region whose order is drawn -/
def drawOk (ops : Array Oper) (es : List (Nat × Eff)) : Bool :=
  let B := masks ops
  ((List.range ops.size).all fun i => match ops[i]? with
    | some o => decide (B.getD i 0 = maskOf B o)
    | none => false) && ordOk ops && decide (es.map (·.1) = List.range ops.size) && pairsOk B es

/-- the same check on the keys alone -/
structure KE where
  rd : List Nat
  wr : List Nat
  ob : List Nat
  up : List Nat
  new : List Nat
  out : List Nat
  ex : List Nat
  brk : List Nat

def kOf (p : Nat × Eff) : Nat × KE := (p.1, ⟨keys p.2.rd, keys p.2.wr, keys p.2.ob, keys p.2.up, p.2.new, p.2.outIds, p.2.ex, brkL p.2.ob p.2.up⟩)
def indepK (e f : KE) : Bool :=
  away e.wr f.rd && away e.wr f.wr && away f.wr e.rd && away e.up f.ob && away e.up f.up && away f.up e.ob &&
  (match e.new with | [] => true | n => away n f.out) && (match f.new with | [] => true | n => away n e.out) && (away f.ex e.brk && away e.ex f.brk)
def pairsK (B : Array Nat) : List (Nat × KE) → Bool
  | [] => true
  | p :: r => (r.all fun q => decide (p.1 < q.1) && ((B.getD q.1 0).testBit p.1 || indepK p.2 q.2)) && pairsK B r
def drawK (ops : Array Oper) (ks : List (Nat × KE)) : Bool :=
  let B := masks ops
  ((List.range ops.size).all fun i => match ops[i]? with
    | some o => decide (B.getD i 0 = maskOf B o)
    | none => false) && ordOk ops && decide (ks.map (·.1) = List.range ops.size) && pairsK B ks

theorem pairsK_eq (B : Array Nat) (es : List (Nat × Eff)) : pairsK B (es.map kOf) = pairsOk B es := by
  induction es with
  | nil => rfl
  | cons p r ih =>
    simp only [List.map_cons, pairsK, pairsOk, ih, List.all_map]
    rfl

theorem drawK_ok {ops : Array Oper} {es : List (Nat × Eff)} (h : drawK ops (es.map kOf) = true) : drawOk ops es = true := by
  have e : (es.map kOf).map (·.1) = es.map (·.1) := by rw [List.map_map]; rfl
  simp only [drawK, pairsK_eq, e] at h
  exact h

theorem binds_any {m : Region.Mode} {e : Edge} (h : Region.binds .any e = true) : Region.binds m e = true := by
  unfold Region.binds at *
  split at h <;> simp_all

theorem maskOf_bit {B : Array Nat} {o : Oper} {j : Nat} (h : (maskOf B o).testBit j = true) : ∃ e ∈ o.after.toList, Region.binds .any e = true ∧ (j = e.on ∨ (B.getD e.on 0).testBit j = true) := by
  have key : ∀ (l : List Edge) (s : Nat), (l.foldl (fun s e => if Region.binds .any e then s ||| 2 ^ e.on ||| B.getD e.on 0 else s) s).testBit j = true → s.testBit j = true ∨ ∃ e ∈ l, Region.binds .any e = true ∧ (j = e.on ∨ (B.getD e.on 0).testBit j = true) := by
    intro l
    induction l with
    | nil => intro s h; exact .inl h
    | cons e l ih =>
      intro s h
      rw [List.foldl_cons] at h
      rcases ih _ h with h | ⟨e', he', h1, h2⟩
      · by_cases hb : Region.binds .any e = true
        · rw [if_pos hb] at h
          rw [Nat.testBit_or, Nat.testBit_or, Nat.testBit_two_pow, Bool.or_eq_true, Bool.or_eq_true] at h
          rcases h with (h | h) | h
          · exact .inl h
          · exact .inr ⟨e, List.mem_cons_self, hb, .inl (by simpa using (of_decide_eq_true h).symm)⟩
          · exact .inr ⟨e, List.mem_cons_self, hb, .inr h⟩
        · rw [if_neg hb] at h; exact .inl h
      · exact .inr ⟨e', List.mem_cons_of_mem _ he', h1, h2⟩
  rcases key _ _ h with h | h
  · simp at h
  · exact h

theorem pairsOk_pw {B : Array Nat} {es : List (Nat × Eff)} (h : pairsOk B es = true) : es.Pairwise fun p q => p.1 < q.1 ∧ ((B.getD q.1 0).testBit p.1 = true ∨ Indep p.2 q.2) := by
  induction es with
  | nil => exact .nil
  | cons p r ih =>
    simp only [pairsOk, Bool.and_eq_true, List.all_eq_true] at h
    refine .cons ?_ (ih h.2)
    intro q hq
    have := h.1 q hq
    simp only [Bool.or_eq_true, decide_eq_true_eq] at this
    exact ⟨this.1, this.2.imp id indepB_sound⟩

theorem lin_go {m : Region.Mode} {ops : Array Oper} {B : Array Nat} (hB : ∀ i o, ops[i]? = some o → B.getD i 0 = maskOf B o) {rk : Nat → Nat} (hrk : ∀ i o, ops[i]? = some o → ∀ e ∈ o.after.toList, Region.binds m e = true → e.on < ops.size ∧ rk e.on < rk i) :
    ∀ (fuel t : Nat) (listed : Array Bool) (acc : List Nat) (rem : List (Nat × Eff)), listed.size = ops.size →
      rem.Pairwise (fun p q => p.1 < q.1 ∧ ((B.getD q.1 0).testBit p.1 = true ∨ Indep p.2 q.2)) →
      (∀ i, i ∈ rem.map (·.1) ↔ i < ops.size ∧ listed.getD i true = false) →
      (∀ i, listed.getD i false = true → ∀ j, (B.getD i 0).testBit j = true → listed.getD j false = true) → rem.length ≤ fuel →
      ∃ l, Region.linearise.go m ops fuel t listed acc = acc.reverse ++ l ∧ Mix l rem := by
  intro fuel
  induction fuel with
  | zero =>
    intro t listed acc rem _ _ _ _ hf
    have : rem = [] := List.length_eq_zero_iff.1 (Nat.le_zero.1 hf)
    subst this
    exact ⟨[], by simp [Region.linearise.go], .nil⟩
  | succ fuel ih =>
    intro t listed acc rem hsz hpw hmem hcl hf
    rw [Region.linearise.go]
    generalize hrs : ((List.range ops.size).filter fun i => !listed.getD i true && ((ops[i]?).map (·.after.all fun e => !Region.binds m e || listed.getD e.on false)).getD false) = rs
    have hrs' : ∀ i, i ∈ rs ↔ i < ops.size ∧ listed.getD i true = false ∧ ∀ o, ops[i]? = some o → ∀ e ∈ o.after.toList, Region.binds m e = true → listed.getD e.on false = true := by
      intro i
      rw [← hrs, List.mem_filter, List.mem_range]
      constructor
      · rintro ⟨h1, h2⟩
        rw [Bool.and_eq_true] at h2
        refine ⟨h1, by simpa using h2.1, ?_⟩
        intro o ho e he hb
        have h3 := h2.2
        rw [ho] at h3
        simp only [Option.map_some, Option.getD_some, Array.all_eq_true_iff_forall_mem] at h3
        have := h3 e (by simpa using he)
        rw [hb] at this
        simpa using this
      · rintro ⟨h1, h2, h3⟩
        refine ⟨h1, ?_⟩
        rw [Bool.and_eq_true]
        refine ⟨by simpa using h2, ?_⟩
        rw [Array.getElem?_eq_getElem h1]
        simp only [Option.map_some, Option.getD_some, Array.all_eq_true_iff_forall_mem]
        intro e he
        cases hb : Region.binds m e with
        | false => rfl
        | true => simpa using h3 _ (Array.getElem?_eq_getElem h1) e (by simpa using he) hb
    cases hr : rs[t % rs.length]? with
    | none =>
      have hz : rs.length = 0 := by
        rcases Nat.eq_zero_or_pos rs.length with h | h
        · exact h
        · rw [List.getElem?_eq_getElem (Nat.mod_lt _ h)] at hr; cases hr
      have hz' : rs = [] := List.length_eq_zero_iff.1 hz
      have hrem : rem = [] := by
        apply Classical.byContradiction
        intro hne
        obtain ⟨p, hpm, hmin⟩ := min_rank (fun q : Nat × Eff => rk q.1) rem hne
        have hp := (hmem p.1).1 (List.mem_map_of_mem hpm)
        have : p.1 ∈ rs := by
          rw [hrs']
          refine ⟨hp.1, hp.2, ?_⟩
          intro o ho e he hb
          obtain ⟨hsz1, hlt⟩ := hrk _ _ ho e he hb
          cases hl : listed.getD e.on false with
          | true => rfl
          | false =>
            exfalso
            have hls : e.on < listed.size := by rw [hsz]; omega
            have h1 : e.on ∈ rem.map (·.1) := (hmem e.on).2 ⟨by omega, by rw [← hl]; simp [hls]⟩
            obtain ⟨q, hq, hq2⟩ := List.mem_map.1 h1
            have := hmin q hq
            simp only [hq2] at this
            omega
        rw [hz'] at this; cases this
      subst hrem
      exact ⟨[], by simp, .nil⟩
    | some i =>
      have hi : i ∈ rs := List.mem_of_getElem? hr
      obtain ⟨hin, hil, hie⟩ := (hrs' i).1 hi
      obtain ⟨p, hp, hpi⟩ := List.mem_map.1 ((hmem i).2 ⟨hin, hil⟩)
      obtain ⟨es1, es2, hrem⟩ := List.append_of_mem hp
      subst hpi
      subst hrem
      have hanc : ∀ j, (B.getD p.1 0).testBit j = true → listed.getD j false = true := by
        intro j hj
        have ho := Array.getElem?_eq_getElem hin
        rw [hB _ _ ho] at hj
        obtain ⟨e, he, hb, h | h⟩ := maskOf_bit hj
        · rw [h]; exact hie _ ho e he (binds_any hb)
        · exact hcl _ (hie _ ho e he (binds_any hb)) j h
      have hsub : (es1 ++ es2).Sublist (es1 ++ p :: es2) := List.Sublist.append_left (List.sublist_cons_self _ _) _
      have hne : ∀ q ∈ es1 ++ es2, q.1 ≠ p.1 := by
        intro q hq
        rcases List.mem_append.1 hq with hq | hq
        · have := ((List.pairwise_append.1 hpw).2.2 q hq p List.mem_cons_self).1
          omega
        · have := ((List.pairwise_cons.1 (List.pairwise_append.1 hpw).2.1).1 q hq).1
          omega
      have hset : ∀ j d, (listed.setIfInBounds p.1 true).getD j d = if j = p.1 then true else listed.getD j d := by
        intro j d
        have hls : p.1 < listed.size := by rw [hsz]; exact hin
        simp only [Array.getD_eq_getD_getElem?, Array.getElem?_setIfInBounds]
        by_cases h : p.1 = j
        · subst h; simp [hls]
        · rw [if_neg h, if_neg (fun e => h e.symm)]
      obtain ⟨l, hl, hm⟩ := ih (t / rs.length) (listed.setIfInBounds p.1 true) (p.1 :: acc) (es1 ++ es2) (by simp [hsz]) (hpw.sublist hsub) (by
        intro j
        rw [hset]
        constructor
        · intro hj
          obtain ⟨q, hq, rfl⟩ := List.mem_map.1 hj
          have := (hmem q.1).1 (List.mem_map_of_mem (hsub.subset hq))
          exact ⟨this.1, by rw [if_neg (hne q hq)]; exact this.2⟩
        · rintro ⟨h1, h2⟩
          split at h2
          · cases h2
          · rename_i hjp
            obtain ⟨q, hq, hqj⟩ := List.mem_map.1 ((hmem j).2 ⟨h1, h2⟩)
            refine List.mem_map.2 ⟨q, ?_, hqj⟩
            rcases List.mem_append.1 hq with h | h
            · exact List.mem_append_left _ h
            · rcases List.mem_cons.1 h with rfl | h
              · exact absurd hqj.symm hjp
              · exact List.mem_append_right _ h) (by
        intro j hj k hk
        rw [hset] at hj ⊢
        split
        · rfl
        · split at hj
          · rename_i h1; subst h1; exact hanc k hk
          · exact hcl j hj k hk) (by simp at hf ⊢; omega)
      refine ⟨p.1 :: l, by simp only [hl]; simp, .cons l es1 es2 p ?_ hm⟩
      intro q hq
      rcases ((List.pairwise_append.1 hpw).2.2 q hq p List.mem_cons_self).2 with h | h
      · exfalso
        have h1 := hanc _ h
        have h2 := (hmem q.1).1 (List.mem_map_of_mem (List.mem_append_left _ hq))
        have hls : q.1 < listed.size := by rw [hsz]; exact h2.1
        have h3 := h2.2
        simp [hls] at h1 h3
        rw [h1] at h3; cases h3
      · exact h

theorem drawOk_mix {ops : Array Oper} {es : List (Nat × Eff)} (h : drawOk ops es = true) (mixed : Bool) (t : Nat) : Mix (Region.schedule mixed ops t) es := by
  simp only [drawOk, Bool.and_eq_true, List.all_eq_true, decide_eq_true_eq] at h
  obtain ⟨⟨⟨h1, h0⟩, h2⟩, h3⟩ := h
  have hB : ∀ i o, ops[i]? = some o → (masks ops).getD i 0 = maskOf (masks ops) o := by
    intro i o ho
    have hi : i < ops.size := (Array.getElem?_eq_some_iff.1 ho).1
    have := h1 i (List.mem_range.2 hi)
    rw [ho] at this
    simpa using this
  have key : ∀ m t, Mix (Region.linearise m ops t) es := by
    intro m t
    obtain ⟨rk, hrk⟩ := ordOk_rank h0 m
    obtain ⟨l, hl, hm⟩ := lin_go (m := m) hB hrk ops.size t (Array.replicate ops.size false) [] es (by simp) (pairsOk_pw h3) (by
      intro i
      rw [h2, List.mem_range]
      constructor
      · intro h; exact ⟨h, by simp [h]⟩
      · exact fun h => h.1) (by
      intro i hi
      simp only [Array.getD_eq_getD_getElem?, Array.getElem?_replicate] at hi
      split at hi <;> simp at hi) (by
      have := congrArg List.length h2
      simp at this; omega)
    rw [Region.linearise, hl]
    exact hm
  unfold Region.schedule
  split
  · exact key _ _
  · exact key _ _

end Go.AM
namespace Go.AM

/-- holds fast what stands ahead of it -/
inductive Dep.{u} {α : Sort u} (x : α) : Type | mk

/-- two ways, by a bool -/
def Way (b want : Bool) (A B : Prop) (_ : Dep A) (_ : Dep B) : Prop := (b = want → A) ∧ (b = (!want) → B)
theorem Way_tt {A B : Prop} {dA : Dep A} {dB : Dep B} : Way true true A B dA dB = A := by simp [Way]
theorem Way_ff {A B : Prop} {dA : Dep A} {dB : Dep B} : Way false false A B dA dB = A := by simp [Way]
theorem Way_tf {A B : Prop} {dA : Dep A} {dB : Dep B} : Way true false A B dA dB = B := by simp [Way]
theorem Way_ft {A B : Prop} {dA : Dep A} {dB : Dep B} : Way false true A B dA dB = B := by simp [Way]
theorem Way_t {b : Bool} {A B : Prop} {dA : Dep A} {dB : Dep B} : Way b true A B dA dB = ((b = true → A) ∧ (b = false → B)) := by simp [Way]
theorem Way_f {b : Bool} {A B : Prop} {dA : Dep A} {dB : Dep B} : Way b false A B dA dB = ((b = false → A) ∧ (b = true → B)) := by simp [Way]

/-- a call: what is asked of the callee's contract, and what goes on -/
def CallK (P : Program) (o : Oper) (st : St) (ow : List Nat) (ci : CallIn) (vs : List AV) (k : Eff → Prop) (_ : Dep k) : Prop :=
  ∃ res muts, DC P ci.f ci.ts res muts ∧ ci.ok ∧ match callOut st o ow ci vs res muts with
    | some (e, ok) => ok ∧ k e
    | none => False

theorem CallK.intro {P : Program} {o : Oper} {st : St} {ow : List Nat} {ci : CallIn} {vs : List AV} {k : Eff → Prop} {d : Dep k} {res : AV} {muts : List (Nat × AV)} (h : DC P ci.f ci.ts res muts)
    (h2 : ci.ok ∧ match callOut st o ow ci vs res muts with
      | some (e, ok) => ok ∧ k e
      | none => False) : CallK P o st ow ci vs k d := ⟨res, muts, h, h2⟩

def opRun (P : Program) (ti : TI) (ow : List Nat) (o : Oper) (st : St) (id : Nat) (k : Eff → Prop) (_ : Dep k) : Prop :=
  match o.op with
  | .pick c a b => match opA st c with
    | some (.bool t) => dstOk st o.dst = true ∧
      Way t true (match opA st a with | some x => k { rd := rdOf st [c, a], wr := wrD o.dst x } | none => False)
        (match opA st b with | some x => k { rd := rdOf st [c, b], wr := wrD o.dst x } | none => False) .mk .mk
    | _ => False
  | _ => match callIn st o ow with
    | some ci => match evs st o.op.operands.toList with
      | some vs => CallK P o st ow ci vs k .mk
      | none => False
    | none => match opEff ti o st id with
      | some (e, ok) => ok ∧ k e
      | none => False

def gd (ops : Array Oper) (o : Oper) (st : St) : Option (Bool × Bool × List (Nat × AV)) :=
  match o.guard with
  | none => some (true, true, [])
  | some (j, want) => match (ops[j]?).bind (·.dst) with
    | some d => match st.slot d with
      | some (.bool b) => if d < st.n then some (b, want, [(d, .bool b)]) else none
      | some (.tup []) => if d < st.n then some (!want, want, [(d, .tup [])]) else none
      | _ => none
    | none => none

def grdE (g : List (Nat × AV)) (e : Eff) : Eff := { e with rd := g ++ e.rd }

def opsRun (P : Program) (ti : TI) (ow : Nat → List Nat) (ops : Array Oper) : List Nat → St → (List (Nat × Eff) → St → Prop) → Prop
  | [], st, k => k [] st
  | i :: rest, st, k => match ops[i]? with
    | none => False
    | some o => match gd ops o st with
      | none => False
      | some (b, want, grd) =>
        (b = want → opRun P ti (ow i) o st (o.dst.getD i) (fun e => opsRun P ti ow ops rest ((grdE grd e).apply st) fun es st' => k ((i, grdE grd e) :: es) st') .mk) ∧
        (b = (!want) → dstOk st o.dst = true ∧ opsRun P ti ow ops rest (Eff.apply { rd := grd, wr := wrD o.dst (.tup []) } st) fun es st' => k ((i, { rd := grd, wr := wrD o.dst (.tup []) }) :: es) st')

theorem bnot {b w : Bool} (h : ¬ b = w) : b = (!w) := by revert h; cases b <;> cases w <;> simp
theorem beq_not {b w : Bool} (h : ¬ b = w) : (b == w) = false := by revert h; cases b <;> cases w <;> simp

/-- the same, along the operations -/
def opsGo (P : Program) (ti : TI) (ow : Nat → List Nat) (ops : Array Oper) : Nat → List Oper → St → (k : List (Nat × Eff) → St → Prop) → Dep k → Prop
  | _, [], st, k, _ => k [] st
  | i, o :: rest, st, k, _ => match o.guard with
    | none => opRun P ti (ow i) o st (o.dst.getD i) (fun e => opsGo P ti ow ops (i + 1) rest (e.apply st) (fun es st' => k ((i, e) :: es) st') .mk) .mk
    | some g => match gd ops { o with guard := some g } st with
      | none => False
      | some (b, want, grd) => Way b want
        (opRun P ti (ow i) o st (o.dst.getD i) (fun e => opsGo P ti ow ops (i + 1) rest ((grdE grd e).apply st) (fun es st' => k ((i, grdE grd e) :: es) st') .mk) .mk)
        (dstOk st o.dst = true ∧ opsGo P ti ow ops (i + 1) rest (Eff.apply { rd := grd, wr := wrD o.dst (.tup []) } st) (fun es st' => k ((i, { rd := grd, wr := wrD o.dst (.tup []) }) :: es) st') .mk) .mk .mk

theorem opRun_k {P : Program} {ti : TI} {ow : List Nat} {o : Oper} {st : St} {id : Nat} {k k' : Eff → Prop} (h : k = k') : opRun P ti ow o st id k .mk = opRun P ti ow o st id k' .mk := by subst h; rfl

theorem opsGo_run {P : Program} {ti : TI} {ow : Nat → List Nat} {ops : Array Oper} : ∀ (l : List Oper) (i : Nat) (st : St) (k : List (Nat × Eff) → St → Prop), (∀ j : Nat, j < l.length → ops[i + j]? = l[j]?) →
    opsGo P ti ow ops i l st k .mk = opsRun P ti ow ops (List.range' i l.length) st k := by
  intro l
  induction l with
  | nil => intro i st k _; rfl
  | cons o rest ih =>
    intro i st k h
    have h0 := h 0 (by simp)
    simp only [Nat.add_zero, List.getElem?_cons_zero] at h0
    have hr : ∀ st k, opsGo P ti ow ops (i + 1) rest st k .mk = opsRun P ti ow ops (List.range' (i + 1) rest.length) st k := fun st k => ih (i + 1) st k fun j hj => by
      have := h (j + 1) (by simp; omega)
      rw [show i + 1 + j = i + (j + 1) by omega]; simpa using this
    rw [List.length_cons, List.range'_succ]
    simp only [opsGo, opsRun, h0]
    cases hg : o.guard with
    | none =>
      simp only [gd, hg]
      have e := opRun_k (P := P) (ti := ti) (ow := ow i) (o := o) (st := st) (id := o.dst.getD i) (k := fun e => opsGo P ti ow ops (i + 1) rest (e.apply st) (fun es st' => k ((i, e) :: es) st') .mk)
        (k' := fun e => opsRun P ti ow ops (List.range' (i + 1) rest.length) ((grdE [] e).apply st) fun es st' => k ((i, grdE [] e) :: es) st') (funext fun e => hr _ _)
      exact propext ⟨fun h => ⟨fun _ => Eq.mp e h, fun h => by cases h⟩, fun h => Eq.mpr e (h.1 trivial)⟩
    | some g =>
      have : ({ o with guard := some g } : Oper) = o := by cases o; simp at hg; simp [hg]
      simp only [this]
      cases gd ops o st with
      | none => rfl
      | some g =>
        obtain ⟨b, want, grd⟩ := g
        have e := opRun_k (P := P) (ti := ti) (ow := ow i) (o := o) (st := st) (id := o.dst.getD i) (k := fun e => opsGo P ti ow ops (i + 1) rest ((grdE grd e).apply st) (fun es st' => k ((i, grdE grd e) :: es) st') .mk)
          (k' := fun e => opsRun P ti ow ops (List.range' (i + 1) rest.length) ((grdE grd e).apply st) fun es st' => k ((i, grdE grd e) :: es) st') (funext fun e => hr _ _)
        simp only [Way, hr]
        exact propext ⟨fun h => ⟨fun hb => Eq.mp e (h.1 hb), h.2⟩, fun h => ⟨fun hb => Eq.mpr e (h.1 hb), h.2⟩⟩

theorem opsGo_all {P : Program} {ti : TI} {ow : Nat → List Nat} {ops : Array Oper} {st : St} {k : List (Nat × Eff) → St → Prop} (h : opsGo P ti ow ops 0 ops.toList st k .mk) : opsRun P ti ow ops (List.range ops.size) st k := by
  rw [opsGo_run _ _ _ _ (by intro j _; simp)] at h
  rw [List.range_eq_range']
  simpa using h

theorem opA_V {w0 : World} {lab0 : Labs} {st : St} {a : Act} {w : World} {lab : Labs} {loc : Locs} (h : RepL w0 lab0 st a w lab loc) {x : Operand} {y : AV} (he : opA st x = some y) : V w lab loc y (a.eval x) := by
  have := (evs_V (xs := [x]) (vs := [y]) h (by simp [evs, he])).2 0 y (a.eval x) rfl rfl
  exact this

theorem opA_pre {st st' : St} {x : Operand} {y : AV} (he : opA st x = some y) (hp : ∀ p ∈ rdOf st [x], st'.slot p.1 = some p.2) : opA st' x = some y := by
  have := evs_pre (st := st) (st' := st') (xs := [x]) (vs := [y]) (by simp [evs, he]) hp
  simp only [evs] at this
  split at this <;> first | (cases this; done) | skip
  rename_i z l hz hl
  simp at this hl
  rw [hz, this.1]

section
variable {P : Program} {ti : TI} (hT : TOk P ti) {w0 : World} {lab0 : Labs}

theorem rdOf_cons {st : St} {x : Operand} {xs : List Operand} : ∀ p, p ∈ rdOf st (x :: xs) ↔ p ∈ rdOf st [x] ∨ p ∈ rdOf st xs := by
  intro p
  cases x with
  | tmp t =>
    simp only [rdOf]
    split <;> simp
  | _ => simp [rdOf]

theorem pick_sound {o : Oper} {st : St} {c a b x : Operand} {t : Bool} {y : AV} (hop : o.op = .pick c a b) (hc : opA st c = some (.bool t)) (hx : x = if t then a else b)
    (hy : opA st x = some y) (hd : dstOk st o.dst = true) :
    Eff.pre { rd := rdOf st [c, x], wr := wrD o.dst y } st ∧ Sound P w0 lab0 st.n o { rd := rdOf st [c, x], wr := wrD o.dst y } := by
  refine ⟨⟨rdOf_self _, by simp, by simp⟩, ?_⟩
  intro st' ac w hn hp ⟨lab, loc, hR⟩ next Q hnext
  have hc' : opA st' c = some (.bool t) := opA_pre hc fun p hp' => hp.1 p ((rdOf_cons p).2 (.inl hp'))
  have hy' : opA st' x = some y := opA_pre hy fun p hp' => hp.1 p ((rdOf_cons p).2 (.inr hp'))
  have hcv := opA_V hR hc'
  have hyv := opA_V hR hy'
  have hcv' : ac.eval c = .bool t := hcv.inv_bool
  have hrun : (execOp ac.eval o).run P w = .ok (.value (ac.eval x)) w := by
    simp only [execOp, hop, hcv', asBool]
    subst hx
    cases t <;> simp
  unfold Oper.wp
  rw [hrun]
  exact hnext _ _ ⟨lab, loc, step_pure hR _ rfl rfl (dstOk_lt hd hn) hyv rfl rfl rfl⟩

include hT in
theorem opRun_sound {ow : List Nat} {o : Oper} {st : St} {id : Nat} {k : Eff → Prop} (h : opRun P ti ow o st id k .mk) : ∃ e, k e ∧ e.pre st ∧ Sound P w0 lab0 st.n o e := by
  unfold opRun at h
  split at h
  · rename_i c a b hop
    split at h <;> first | exact h.elim | skip
    rename_i t hc
    obtain ⟨hd, h1, h2⟩ := h
    cases t with
    | true =>
      have := h1 rfl
      split at this <;> first | exact this.elim | skip
      rename_i x hx
      exact ⟨_, this, pick_sound hop hc rfl hx hd⟩
    | false =>
      have := h2 rfl
      split at this <;> first | exact this.elim | skip
      rename_i x hx
      exact ⟨_, this, pick_sound hop hc rfl hx hd⟩
  · split at h
    · rename_i ci hci
      split at h <;> first | exact h.elim | skip
      rename_i vs hvs
      obtain ⟨res, muts, hdc, hok, h⟩ := h
      split at h <;> first | exact h.elim | skip
      rename_i e ok hco
      obtain ⟨h1, h2⟩ := h
      obtain ⟨h3, h4⟩ := call_sound (P := P) (w0 := w0) (lab0 := lab0) hci hok hdc hvs hco h1
      exact ⟨e, h2, h3, h4⟩
    split at h <;> first | exact h.elim | skip
    rename_i e ok he
    obtain ⟨h3, h4⟩ := opEff_sound (w0 := w0) (lab0 := lab0) hT he h.1
    exact ⟨e, h.2, h3, h4⟩

theorem gd_sound {ops : Array Oper} {o : Oper} {st st' : St} {b want : Bool} {grd : List (Nat × AV)} (h : gd ops o st = some (b, want, grd)) :
    (∀ p ∈ grd, st.slot p.1 = some p.2) ∧ ∀ a w, st'.n = st.n → (∀ p ∈ grd, st'.slot p.1 = some p.2) → Rep w0 lab0 st' a w → Region.wanted o (yielded ops a.tmps) = (b == want) := by
  unfold gd at h
  split at h
  · rename_i hg
    cases h
    exact ⟨by simp, fun a w _ _ _ => by simp [Region.wanted, hg]⟩
  · rename_i j want hg
    split at h <;> first | (cases h; done) | skip
    rename_i d hd
    split at h <;> first | (cases h; done) | skip
    · rename_i b' hb
      split at h <;> first | (cases h; done) | cases h
      rename_i hlt
      refine ⟨by simpa using hb, ?_⟩
      intro a w hn hp ⟨lab, loc, hR⟩
      have := hR.slots d (.bool b) (by simpa using hp)
      have hv := this.inv_bool
      have hlt' : d < a.tmps.size := by rw [hR.size, hn]; exact hlt
      have : a.tmps[d]? = some (.bool b) := by
        rw [Array.getElem?_eq_getElem hlt']
        simp [hlt'] at hv
        simp [hv]
      simp only [Region.wanted, hg, yielded, hd, Option.bind_some, this]
      cases b <;> cases want <;> rfl
    · rename_i hb
      split at h <;> first | (cases h; done) | cases h
      rename_i hlt
      refine ⟨by simpa using hb, ?_⟩
      intro a w hn hp ⟨lab, loc, hR⟩
      have := hR.slots d (.tup []) (by simpa using hp)
      obtain ⟨vs, hv, hl, _⟩ := this.inv_tup
      have hvs : vs = [] := by cases vs; rfl; simp at hl
      subst hvs
      have hlt' : d < a.tmps.size := by rw [hR.size, hn]; exact hlt
      have : a.tmps[d]? = some (.tuple #[]) := by
        rw [Array.getElem?_eq_getElem hlt']
        simp [hlt'] at hv
        simp [hv]
      simp only [Region.wanted, hg, yielded, hd, Option.bind_some, this]
      cases want <;> rfl

include hT in
theorem opsRun_sound {ow : Nat → List Nat} {ops : Array Oper} : ∀ (l : List Nat) (st : St) (k : List (Nat × Eff) → St → Prop), opsRun P ti ow ops l st k →
    ∃ es st', es.map (·.1) = l ∧ Chain P w0 lab0 ops st es st' ∧ k es st' := by
  intro l
  induction l with
  | nil => intro st k h; exact ⟨[], st, rfl, rfl, h⟩
  | cons i rest ih =>
    intro st k h
    simp only [opsRun] at h
    split at h <;> first | exact h.elim | skip
    rename_i o ho
    split at h <;> first | exact h.elim | skip
    rename_i b want grd hg
    obtain ⟨hg1, _⟩ := gd_sound (w0 := w0) (lab0 := lab0) (st' := st) hg
    by_cases hbw : b = want
    · obtain ⟨e, h1, h2, h3⟩ := opRun_sound hT (w0 := w0) (lab0 := lab0) (h.1 hbw)
      obtain ⟨es, st', h4, h5, h6⟩ := ih _ _ h1
      refine ⟨(i, grdE grd e) :: es, st', by simp [h4], ?_, h6⟩
      refine ⟨⟨?_, h2.2.1, h2.2.2⟩, ?_, h5⟩
      · intro p hp
        rcases List.mem_append.1 hp with hp | hp
        · exact hg1 p hp
        · exact h2.1 p hp
      · intro s a w hn hp hR rest' Q hnext
        have hp' : e.pre s := ⟨fun p hp' => hp.1 p (List.mem_append_right _ hp'), hp.2.1, hp.2.2⟩
        have hw := (gd_sound (w0 := w0) (lab0 := lab0) (st' := s) hg).2 a w hn (fun p hp' => hp.1 p (List.mem_append_left _ hp')) hR
        simp only [wpOps, ho, hw, hbw, beq_self_eq_true, if_true]
        exact .inl (h3 s a w hn hp' hR _ Q hnext)
    · have hbw' : b = (!want) := bnot hbw
      obtain ⟨hd, h1⟩ := h.2 hbw'
      obtain ⟨es, st', h4, h5, h6⟩ := ih _ _ h1
      refine ⟨_, st', ?_, ?_, h6⟩
      · simp [h4]
      refine ⟨⟨hg1, by simp, by simp⟩, ?_, h5⟩
      intro s a w hn hp hR rest' Q hnext
      have hw := (gd_sound (w0 := w0) (lab0 := lab0) (st' := s) hg).2 a w hn hp.1 hR
      have hw2 : (b == want) = false := beq_not hbw
      obtain ⟨lab, loc, hR⟩ := hR
      simp only [wpOps, ho, hw, hw2, Bool.false_eq_true, if_false]
      exact hnext _ _ ⟨lab, loc, step_pure hR _ rfl rfl (dstOk_lt hd hn) (.tup [] [] rfl (by intro j x y hx; simp at hx)) rfl rfl rfl⟩
end

/-! ### what is not written -/
def noWo (s : Nat) (o : Oper) : Bool := !decide (o.dst = some s)
def noW (s : Nat) : Code → Bool
  | .region _ ops _ => ops.all (noWo s)
  | .seq a b => noW s a && noW s b
  | .cond _ a b => noW s a && noW s b
  | .block _ b => noW s b
  | .loop b => noW s b
  | .skip => true
  | .exit _ => true
  | .ret => true
  | .label _ => true
  | _ => false

/-- the slots that a code does not write are as they were -/
def Pin (c : Code) (a : Act) (e : Exit) (a' : Act) : Prop := e = .outgrown ∨ ∀ s, noW s c = true → a'.tmps.getD s undef = a.tmps.getD s undef

theorem Pin.refl {c : Code} {a : Act} {e : Exit} : Pin c a e a := Or.inr fun _ _ => rfl

theorem upon_mono {P : Program} {o : Oper} {a : Act} {next next' : Act → World → Prop} {Q Q' : Exit → Act → World → Prop} {r : Result Next} (h : o.upon P a next Q r)
    (hn : ∀ v d w, next ({ a with defers := d }.put o.dst v) w → next' ({ a with defers := d }.put o.dst v) w) (hq : ∀ c w, Q (.panic c) a w → Q' (.panic c) a w) (ho : LetsOut Q → LetsOut Q') :
    o.upon P a next' Q' r := by
  cases r with
  | ok x w =>
    cases x with
    | value v => exact hn v a.defers w h
    | skip => exact hn undef a.defers w h
    | defer d => exact hn undef (d :: a.defers) w h
    | enter f args =>
      refine Calls.mono (P := P) (f := f) (args := args) (w := w) h ?_
      intro e w' he
      cases e with
      | returned v => exact hn v a.defers w' he
      | panicked ch => exact hq ch w' he
      | outgrown => exact ho he
    | row row args => exact Rows.mono (P := P) (row := row) (args := args) (w := w) h fun v w' hv => hn v a.defers w' hv
    | _ => exact False.elim h
  | halt x w =>
    cases x with
    | panic v => exact hq _ w h
    | _ => exact False.elim h

theorem put_getD {a : Act} {d : List Deferred} {dst : Option Tmp} {v : Value} {s : Nat} (h : dst ≠ some s) : ({ a with defers := d }.put dst v).tmps.getD s undef = a.tmps.getD s undef :=
  put_other { a with defers := d } v h

theorem wpOps_pin {P : Program} {ops : Array Oper} {Q : Exit → Act → World → Prop} (a0 : Act) : ∀ (l : List Nat) (a : Act) (w : World), (∀ s, ops.all (noWo s) = true → a.tmps.getD s undef = a0.tmps.getD s undef) →
    wpOps P ops Q l a w → wpOps P ops (fun e a' w' => Q e a' w' ∧ (e = .outgrown ∨ ∀ s, ops.all (noWo s) = true → a'.tmps.getD s undef = a0.tmps.getD s undef)) l a w := by
  intro l
  induction l with
  | nil => intro a w ha h; exact ⟨h, Or.inr ha⟩
  | cons i rest ih =>
    intro a w ha h
    simp only [wpOps] at h ⊢
    split at h
    · exact ih a w ha h
    · rename_i o hi
      have hput : ∀ v d s, ops.all (noWo s) = true → ({ a with defers := d }.put o.dst v).tmps.getD s undef = a0.tmps.getD s undef := by
        intro v d s hs
        rw [← ha s hs]
        apply put_getD
        obtain ⟨hlt, rfl⟩ := Array.getElem?_eq_some_iff.1 hi
        have := Array.all_eq_true.1 hs i hlt
        simpa [noWo] using this
      have hout : LetsOut Q → LetsOut (fun e a' w' => Q e a' w' ∧ (e = .outgrown ∨ ∀ s, ops.all (noWo s) = true → a'.tmps.getD s undef = a0.tmps.getD s undef)) := by
        rintro ⟨a1, w1, h1⟩; exact ⟨a1, w1, h1, Or.inl rfl⟩
      split at h
      · rename_i hw
        rw [if_pos hw]
        rcases h with h | h
        · exact Or.inl (upon_mono h (fun v d w' h' => ih _ _ (hput v d) h') (fun c w' h' => ⟨h', Or.inr ha⟩) hout)
        · exact Or.inr ⟨h.1, hout h.2⟩
      · rename_i hw
        rw [if_neg hw]
        exact ih _ _ (hput undef a.defers) h

/-! ### code -/
/-- what code leaves: it ends in a way, and in a state, that K takes -/
structure AW (P : Program) (c : Code) (st : St) (K : Exit → St → Prop) : Prop where
  go : ∀ w0 lab0 a w, Rep w0 lab0 st a w → c.wp P (fun e a' w' => (∃ st', K e st' ∧ Rep w0 lab0 st' a' w') ∧ Pin c a e a') a w

section
variable {P : Program} {ti : TI} {st : St} {K : Exit → St → Prop}

theorem AW.mono {c : Code} {K' : Exit → St → Prop} (h : AW P c st K) (hk : ∀ e s, K e s → K' e s) : AW P c st K' :=
  ⟨fun w0 lab0 a w hR => wp_mono (h.go w0 lab0 a w hR) fun _ _ _ ⟨⟨s, h1, h2⟩, h3⟩ => ⟨⟨s, hk _ _ h1, h2⟩, h3⟩⟩

theorem AW.less {c : Code} {st' : St} (hl : St.Less st st') (h : AW P c st' K) : AW P c st K :=
  ⟨fun w0 lab0 a w hR => h.go w0 lab0 a w (hR.less hl)⟩

theorem Rep.drawn {w0 : World} {lab0 : Labs} {a : Act} {w : World} (h : Rep w0 lab0 st a w) (n : Nat) : Rep w0 lab0 st a { w with drawn := n } := by
  obtain ⟨lab, loc, h⟩ := h
  have := step_pure (w' := { w with drawn := n }) (dst := none) (x := .undef) (v := undef) h {} rfl rfl (by simp) (.undef _) rfl rfl rfl
  exact ⟨lab, loc, this⟩

theorem AW.region (hT : TOk P ti) (ow : Nat → List Nat) {id : Nat} {ops : Array Oper} {draw : Bool} (h : opsRun P ti ow ops (List.range ops.size) st fun es s => (draw = true → drawOk ops es = true) ∧ K .normal s) :
    AW P (.region id ops draw) st K := by
  refine ⟨?_⟩
  intro w0 lab0 a w hR
  obtain ⟨es, s, h1, h2, h3, h4⟩ := opsRun_sound hT (w0 := w0) (lab0 := lab0) _ _ _ h
  cases draw with
  | false =>
    refine wp_region (wpOps_pin a _ _ _ (fun _ _ => rfl) ?_)
    rw [← h1]
    exact h2.sound hR fun a' w' hR' => ⟨s, h4, hR'⟩
  | true =>
    refine wp_region_draw fun t => ?_
    obtain ⟨es', s', h5, h6, h7⟩ := (drawOk_mix (h3 rfl) (P.follows .mixedOrders) t).chain h2
    refine wpOps_pin a _ _ _ (fun _ _ => rfl) ?_
    rw [← h5]
    exact h6.sound (hR.drawn _) fun a' w' hR' => ⟨s, h4, hR'.alike h7.symm⟩

theorem AW.skip (h : K .normal st) : AW P .skip st K := ⟨fun _ _ _ _ hR => wp_skip ⟨⟨st, h, hR⟩, .refl⟩⟩
theorem AW.exit {id : Nat} (h : K (.exit id) st) : AW P (.exit id) st K := ⟨fun _ _ _ _ hR => wp_exit ⟨⟨st, h, hR⟩, .refl⟩⟩
theorem AW.ret (h : K .ret st) : AW P .ret st K := ⟨fun _ _ _ _ hR => wp_ret ⟨⟨st, h, hR⟩, .refl⟩⟩
theorem AW.label {l : Nat} (h : K .normal st) : AW P (.label l) st K := ⟨fun _ _ _ _ hR => wp_label ⟨⟨st, h, hR⟩, .refl⟩⟩

def thenK (next : St → Prop) (K : Exit → St → Prop) : Exit → St → Prop
  | .normal, s => next s
  | e, s => K e s

theorem AW.seq {x y : Code} (h : AW P x st (thenK (fun s => AW P y s K) K)) : AW P (.seq x y) st K := by
  refine ⟨?_⟩
  intro w0 lab0 a w hR
  refine wp_seq (wp_mono (h.go w0 lab0 a w hR) ?_)
  rintro e a' w' ⟨⟨s, h1, h2⟩, h3⟩
  have hx : ∀ e', Pin x a e' a' → Pin (.seq x y) a e' a' := fun e' h => h.imp id fun h s hs => h s (by simp only [noW, Bool.and_eq_true] at hs; exact hs.1)
  cases e with
  | normal =>
    refine wp_mono (h1.go w0 lab0 a' w' h2) ?_
    rintro e2 a2 w2 ⟨h4, h5⟩
    refine ⟨h4, ?_⟩
    have h3 := h3.resolve_left (by simp)
    rcases h5 with h5 | h5
    · exact Or.inl h5
    · refine Or.inr fun s hs => ?_
      simp only [noW, Bool.and_eq_true] at hs
      rw [h5 s hs.2, h3 s hs.1]
  | _ => exact ⟨⟨s, h1, h2⟩, hx _ h3⟩

/-- one behind the other, by way of a state that says less -/
theorem AW.cut {x y : Code} (st1 : St) (h : AW P x st (thenK (fun s => St.Less s st1) K)) (h2 : AW P y st1 K) : AW P (.seq x y) st K := by
  refine AW.seq (h.mono ?_)
  intro e s hs
  cases e with
  | normal => exact h2.less hs
  | _ => exact hs

theorem AW.cond {c : Operand} {x y : Code} {t : Bool} (hc : opA st c = some (.bool t)) (ht : t = true → AW P x st K) (hf : t = false → AW P y st K) : AW P (.cond c x y) st K := by
  refine ⟨?_⟩
  intro w0 lab0 a w hR
  obtain ⟨lab, loc, hR'⟩ := hR
  refine wp_cond_split (opA_V hR' hc).inv_bool (fun h => wp_mono ((ht h).go w0 lab0 a w ⟨lab, loc, hR'⟩) ?_) (fun h => wp_mono ((hf h).go w0 lab0 a w ⟨lab, loc, hR'⟩) ?_)
  · rintro e a' w' ⟨h1, h2⟩
    exact ⟨h1, h2.imp id fun h s hs => h s (by simp only [noW, Bool.and_eq_true] at hs; exact hs.1)⟩
  · rintro e a' w' ⟨h1, h2⟩
    exact ⟨h1, h2.imp id fun h s hs => h s (by simp only [noW, Bool.and_eq_true] at hs; exact hs.2)⟩

def blockK (id : Nat) (K : Exit → St → Prop) : Exit → St → Prop
  | .exit i, s => if i = id then K .normal s else K (.exit i) s
  | e, s => K e s

theorem AW.block {id : Nat} {c : Code} (h : AW P c st (blockK id K)) : AW P (.block id c) st K := by
  refine ⟨?_⟩
  intro w0 lab0 a w hR
  refine wp_block (wp_mono (h.go w0 lab0 a w hR) ?_)
  rintro e a' w' ⟨⟨s, h1, h2⟩, h3⟩
  cases e with
  | exit i =>
    have h3' := h3.resolve_left (by simp)
    simp only [blockK] at h1
    simp only [Exit.inBlock]
    split
    · rename_i hi; rw [if_pos hi] at h1; exact ⟨⟨s, h1, h2⟩, Or.inr h3'⟩
    · rename_i hi; rw [if_neg hi] at h1; exact ⟨⟨s, h1, h2⟩, Or.inr h3'⟩
  | _ => exact ⟨⟨s, h1, h2⟩, h3⟩

/-- a loop: states of a family; each round goes on with a smaller one or leaves -/
theorem AW.loop {ι : Type} (S : ι → St) (KK : ι → Exit → St → Prop) (μ : ι → Nat) {c : Code}
    (h : ∀ i, AW P c (S i) (thenK (fun s => ∃ j, μ j < μ i ∧ St.Less s (S j) ∧ ∀ e s, KK j e s → KK i e s) (KK i))) (i : ι) : AW P (.loop c) (S i) (KK i) := by
  refine ⟨?_⟩
  intro w0 lab0 a w hR b k cs
  have key : ∀ n i a w, μ i = n → Rep w0 lab0 (S i) a w →
      ∃ e a' w', ((∃ st', KK i e st' ∧ Rep w0 lab0 st' a' w') ∧ Pin c a e a') ∧ Arrives P (lone (b.at a (.code c :: .inLoop c :: k)) cs w) b k cs e a' w' := by
    intro n
    induction n using Nat.strongRecOn with
    | _ n ih =>
      intro i a w hn hR
      obtain ⟨e, a₁, w₁, hq, harr⟩ := (h i).go w0 lab0 a w hR b (.inLoop c :: k) cs
      obtain ⟨⟨s, h1, h2⟩, h9⟩ := hq
      cases e with
      | normal =>
        obtain ⟨j, hlt, hl, hk⟩ := h1
        obtain ⟨e₂, a₂, w₂, ⟨⟨s2, h3, h4⟩, h5⟩, harr₂⟩ := ih (μ j) (hn ▸ hlt) j a₁ w₁ rfl (h2.less hl)
        have h9 := h9.resolve_left (by simp)
        exact ⟨e₂, a₂, w₂, ⟨⟨s2, hk _ _ h3, h4⟩, h5.imp id fun h s hs => by rw [h s hs, h9 s hs]⟩, .of_steps (Steps.trans harr (.one step_inLoop)) harr₂⟩
      | exit id => exact ⟨_, a₁, w₁, ⟨⟨s, h1, h2⟩, h9⟩, .pass (x := .inLoop c) rfl (fun _ _ => .inl (by simp)) harr⟩
      | goto l => exact ⟨_, a₁, w₁, ⟨⟨s, h1, h2⟩, h9⟩, .pass (x := .inLoop c) rfl (fun _ _ => .inl (by simp)) harr⟩
      | ret => exact ⟨_, a₁, w₁, ⟨⟨s, h1, h2⟩, h9⟩, .pass (x := .inLoop c) rfl (fun _ _ => .inl (by simp)) harr⟩
      | panic ch => exact ⟨_, a₁, w₁, ⟨⟨s, h1, h2⟩, h9⟩, .pass (x := .inLoop c) rfl (fun _ _ => .inl (by simp)) harr⟩
      | outgrown => exact ⟨_, a₁, w₁, ⟨⟨s, h1, h2⟩, h9⟩, .pass (x := .inLoop c) rfl (fun _ _ => .inl (by simp)) harr⟩
  obtain ⟨e, a', w', ⟨hq, hp⟩, harr⟩ := key _ i a w rfl hR
  exact ⟨e, a', w', ⟨hq, hp.imp id fun h s hs => h s (by simpa [noW] using hs)⟩, .of_steps (.one step_loop) harr⟩

theorem Less.of {st' : St} (hn : st'.n = st.n) (hs : ∀ p ∈ st'.slots, st.slot p.1 = some p.2) (ho : ∀ p ∈ st'.objs, ∀ nd, p.2 = some nd → st.obj p.1 = some nd) : St.Less st st' :=
  ⟨hn, fun s x hx => hs (s, x) (look_mem hx), fun i nd hi => ho (i, some nd) (look_mem (obj_look hi)) nd rfl⟩
end

end Go.AM
namespace Go.AM

/-! ### what says less: an empty slice, whoever it belongs to -/
def leA0 : AV → AV → Prop
  | .osl es l, y => (match y with | .isl es' l' => es = es' ∧ l = [] ∧ l' = [] | y => .osl es l = y)
  | .nils, y => (match y with | .isl _ l' => l' = [] | y => .nils = y)
  | .zsl, y => (match y with | .isl _ l' => l' = [] | y => .zsl = y)
  | .nel, y => (match y with | .isl _ l' => l' = [] | y => .nel = y)
  | x, y => x = y
def leL : List AV → List AV → Prop
  | [], ys => ys = []
  | x :: xs, ys => (match ys with | y :: ys => leA0 x y ∧ leL xs ys | [] => False)
def leA : AV → AV → Prop
  | .agg cs, y => (match y with | .agg ds => leL cs ds | _ => False)
  | x, y => leA0 x y
def leLL : List AV → List AV → Prop
  | [], ys => ys = []
  | x :: xs, ys => (match ys with | y :: ys => leA x y ∧ leLL xs ys | [] => False)
def leT : AV → AV → Prop
  | .tup cs, y => (match y with | .tup ds => leLL cs ds | _ => False)
  | x, y => leA x y

theorem I.le0 {w : World} {lab : Labs} {x y : AV} {v : Value} (h : leA0 x y) (hI : I w lab x v) : I w lab y v := by
  unfold leA0 at h
  split at h
  · split at h
    · cases hI
    · subst h; exact hI
  · split at h
    · subst h; cases hI; exact .nsl _
    · subst h; exact hI
  · split at h
    · subst h
      cases hI with
      | zsl a =>
        cases a with
        | none => exact .nsl _
        | some a => exact .esl _ _ _
    · subst h; exact hI
  · split at h
    · subst h; cases hI; exact .esl _ _ _
    · subst h; exact hI
  · subst h; exact hI

theorem T.le0 {w : World} {lab : Labs} {p : Lab} {x y : AV} {v : Value} (h : leA0 x y) (hT : T w lab p x v) : T w lab p y v := by
  cases hT with
  | imm _ _ _ hI => exact .imm _ _ _ (hI.le0 h)
  | osl _ es l b off cap vals hb hk hc hes hp hv hr =>
    simp only [leA0] at h
    split at h
    · obtain ⟨rfl, rfl, rfl⟩ := h
      exact .imm _ _ _ (.esl _ _ _)
    · subst h; exact .osl _ es l b off cap vals hb hk hc hes hp hv hr
  | op _ l b off vals hb hk hp hv hr => simp only [leA0] at h; subst h; exact .op _ l b off vals hb hk hp hv hr
  | agg _ cs vs hl hr => simp only [leA0] at h; subst h; exact .agg _ cs vs hl hr
  | tup _ cs vs hl hr => simp only [leA0] at h; subst h; exact .tup _ cs vs hl hr

theorem V.le0 {w : World} {lab : Labs} {loc : Locs} {x y : AV} {v : Value} (h : leA0 x y) (hV : V w lab loc x v) : V w lab loc y v := by
  cases hV with
  | imm _ _ hI => exact .imm _ _ (hI.le0 h)
  | undef _ => simp only [leA0] at h; subst h; exact .undef _
  | ptr id es i j _ hh => simp only [leA0] at h; subst h; exact .ptr id es i j _ hh
  | sl id es i n _ hh => simp only [leA0] at h; subst h; exact .sl id es i n _ hh
  | fn f cs vs hl hr => simp only [leA0] at h; subst h; exact .fn f cs vs hl hr
  | agg cs vs hl hr => simp only [leA0] at h; subst h; exact .agg cs vs hl hr
  | tup cs vs hl hr => simp only [leA0] at h; subst h; exact .tup cs vs hl hr
  | gate e x _ hh => simp only [leA0] at h; subst h; exact .gate e x _ hh

theorem leL_get {R : AV → Value → Prop} {Q : AV → Value → Prop} (hq : ∀ x y v, leA0 x y → R x v → Q y v) : ∀ {cs ds : List AV} {vs : List Value}, leL cs ds → cs.length = vs.length → (∀ (j : Nat) x y, cs[j]? = some x → vs[j]? = some y → R x y) →
    ds.length = vs.length ∧ ∀ (j : Nat) x y, ds[j]? = some x → vs[j]? = some y → Q x y := by
  intro cs
  induction cs with
  | nil =>
    intro ds vs h hl _
    simp only [leL] at h; subst h
    exact ⟨hl, by intro j x y hx; simp at hx⟩
  | cons c cs ih =>
    intro ds vs h hl hr
    simp only [leL] at h
    cases ds with
    | nil => exact h.elim
    | cons d ds =>
      cases vs with
      | nil => simp at hl
      | cons v vs =>
        obtain ⟨h1, h2⟩ := h
        obtain ⟨h3, h4⟩ := ih h2 (by simpa using hl) (fun j x y hx hy => hr (j + 1) x y (by simpa using hx) (by simpa using hy))
        refine ⟨by simp [h3], ?_⟩
        intro j x y hx hy
        cases j with
        | zero => simp at hx hy; subst hx; subst hy; exact hq _ _ _ h1 (hr 0 c v rfl rfl)
        | succ j => exact h4 j x y (by simpa using hx) (by simpa using hy)

theorem leL_get' {R Q : Nat → AV → Value → Prop} (hq : ∀ j x y v, leA0 x y → R j x v → Q j y v) {cs ds : List AV} {vs : List Value} (h : leL cs ds) (hl : cs.length = vs.length) (hr : ∀ (j : Nat) x y, cs[j]? = some x → vs[j]? = some y → R j x y) :
    ds.length = vs.length ∧ ∀ (j : Nat) x y, ds[j]? = some x → vs[j]? = some y → Q j x y := by
  induction cs generalizing ds vs R Q with
  | nil =>
    simp only [leL] at h; subst h
    exact ⟨hl, by intro j x y hx; simp at hx⟩
  | cons c cs ih =>
    simp only [leL] at h
    cases ds with
    | nil => exact h.elim
    | cons d ds =>
      cases vs with
      | nil => simp at hl
      | cons v vs =>
        obtain ⟨h1, h2⟩ := h
        obtain ⟨h3, h4⟩ := ih (R := fun j => R (j + 1)) (Q := fun j => Q (j + 1)) (fun j => hq (j + 1)) h2 (by simpa using hl) (fun j x y hx hy => hr (j + 1) x y (by simpa using hx) (by simpa using hy))
        refine ⟨by simp [h3], ?_⟩
        intro j x y hx hy
        cases j with
        | zero => simp at hx hy; subst hx; subst hy; exact hq 0 _ _ _ h1 (hr 0 c v rfl rfl)
        | succ j => exact h4 j x y (by simpa using hx) (by simpa using hy)

theorem V.le {w : World} {lab : Labs} {loc : Locs} {x y : AV} {v : Value} (h : leA x y) (hV : V w lab loc x v) : V w lab loc y v := by
  unfold leA at h
  split at h
  · rename_i cs
    split at h <;> first | exact h.elim | skip
    rename_i ds
    obtain ⟨vs, rfl, hl, hr⟩ := hV.inv_agg
    obtain ⟨h1, h2⟩ := leL_get (R := V w lab loc) (Q := V w lab loc) (fun x y v h1 h2 => V.le0 h1 h2) h hl hr
    exact .agg _ _ h1 h2
  · exact hV.le0 h

theorem T.inv_agg {w : World} {lab : Labs} {p : Lab} {cs : List AV} {v : Value} (h : T w lab p (.agg cs) v) : ∃ vs : List Value, v = .agg ⟨vs⟩ ∧ cs.length = vs.length ∧ ∀ (j : Nat) x y, cs[j]? = some x → vs[j]? = some y → T w lab (p.down 0 j) x y := by
  cases h with
  | imm _ _ _ hI => cases hI with | agg _ vs hl hr => exact ⟨vs, rfl, hl, fun j x y hx hy => .imm _ _ _ (hr j x y hx hy)⟩
  | agg _ _ vs hl hr => exact ⟨vs, rfl, hl, hr⟩

theorem T.inv_tup {w : World} {lab : Labs} {p : Lab} {cs : List AV} {v : Value} (h : T w lab p (.tup cs) v) : ∃ vs : List Value, v = .tuple ⟨vs⟩ ∧ cs.length = vs.length ∧ ∀ (j : Nat) x y, cs[j]? = some x → vs[j]? = some y → T w lab (p.down 1 j) x y := by
  cases h with
  | imm _ _ _ hI => cases hI with | tup _ vs hl hr => exact ⟨vs, rfl, hl, fun j x y hx hy => .imm _ _ _ (hr j x y hx hy)⟩
  | tup _ _ vs hl hr => exact ⟨vs, rfl, hl, hr⟩

theorem T.le {w : World} {lab : Labs} {p : Lab} {x y : AV} {v : Value} (h : leA x y) (hT : T w lab p x v) : T w lab p y v := by
  unfold leA at h
  split at h
  · rename_i cs
    split at h <;> first | exact h.elim | skip
    rename_i ds
    obtain ⟨vs, rfl, hl, hr⟩ := hT.inv_agg
    obtain ⟨h1, h2⟩ := leL_get' (R := fun j => T w lab (p.down 0 j)) (Q := fun j => T w lab (p.down 0 j)) (fun j x y v h1 h2 => T.le0 h1 h2) h hl hr
    exact .agg _ _ _ h1 h2
  · exact hT.le0 h

theorem leLL_T {w : World} {lab : Labs} {p : Lab} {cs ds : List AV} {vs : List Value} {k : Nat} (h : leLL cs ds) (hl : cs.length = vs.length) (hr : ∀ (j : Nat) x y, cs[j]? = some x → vs[j]? = some y → T w lab (p.down 1 (k + j)) x y) :
    ds.length = vs.length ∧ ∀ (j : Nat) x y, ds[j]? = some x → vs[j]? = some y → T w lab (p.down 1 (k + j)) x y := by
  induction cs generalizing ds vs k with
  | nil =>
    simp only [leLL] at h; subst h
    exact ⟨hl, by intro j x y hx; simp at hx⟩
  | cons c cs ih =>
    simp only [leLL] at h
    cases ds with
    | nil => exact h.elim
    | cons d ds =>
      cases vs with
      | nil => simp at hl
      | cons v vs =>
        obtain ⟨h1, h2⟩ := h
        obtain ⟨h3, h4⟩ := ih (k := k + 1) h2 (by simpa using hl) (fun j x y hx hy => by
          have := hr (j + 1) x y (by simpa using hx) (by simpa using hy)
          rw [show k + (j + 1) = k + 1 + j by omega] at this; exact this)
        refine ⟨by simp [h3], ?_⟩
        intro j x y hx hy
        cases j with
        | zero => simp at hx hy; subst hx; subst hy; exact (hr 0 c v rfl rfl).le h1
        | succ j =>
          have := h4 j x y (by simpa using hx) (by simpa using hy)
          rw [show k + 1 + j = k + (j + 1) by omega] at this; exact this

theorem T.leT {w : World} {lab : Labs} {p : Lab} {x y : AV} {v : Value} (h : Go.AM.leT x y) (hT : T w lab p x v) : T w lab p y v := by
  unfold Go.AM.leT at h
  split at h
  · rename_i cs
    split at h <;> first | exact h.elim | skip
    rename_i ds
    obtain ⟨vs, rfl, hl, hr⟩ := hT.inv_tup
    obtain ⟨h1, h2⟩ := leLL_T (k := 0) h hl (fun j x y hx hy => by simpa using hr j x y hx hy)
    exact .tup _ _ _ h1 (fun j x y hx hy => by simpa using h2 j x y hx hy)
  · exact hT.le h

def argIn (k : Nat) (x : AV) : Option (AV × PlanO) :=
  match x with
  | .fn f cs => some (.fn f cs, [])
  | x => match thw (900 + k) (.arg k, []) x with
    | some (y, po, _) => some (y, po)
    | none => none

def argsIn : Nat → List AV → Option (List AV × PlanO)
  | _, [] => some ([], [])
  | k, x :: xs => match argIn k x, argsIn (k + 1) xs with
    | some (y, p), some (ys, ps) => some (y :: ys, p ++ ps)
    | _, _ => none

def enumFrom (k : Nat) : List AV → List (Nat × AV)
  | [] => []
  | x :: xs => (k, x) :: enumFrom (k + 1) xs

theorem look_enumFrom {xs : List AV} {k s : Nat} {x : AV} (h : look s (enumFrom k xs) = some x) : k ≤ s ∧ xs[s - k]? = some x := by
  induction xs generalizing k with
  | nil => cases h
  | cons y xs ih =>
    simp only [enumFrom, look] at h
    split at h
    · rename_i e; subst e; cases h; simp
    · obtain ⟨h1, h2⟩ := ih h
      refine ⟨by omega, ?_⟩
      rw [show s - k = (s - (k + 1)) + 1 by omega]
      simpa using h2

def resA (ti : TI) (st : St) : ResultVar → Option (AV × Prop)
  | .tmp t => match st.slot t with
    | some x => some (x, True)
    | none => none
  | .cell a t => match st.slot a with
    | some (.ptr id es i j) => loadA ti st.obj t (.ptr id es i j)
    | _ => none

def resAll (ti : TI) (st : St) : List ResultVar → Option (List AV × Prop)
  | [] => some ([], True)
  | r :: rs => match resA ti st r, resAll ti st rs with
    | some (x, ok), some (xs, oks) => some (x :: xs, ok ∧ oks)
    | _, _ => none

def tupOf : List AV → AV
  | [t] => t
  | ts => .tup ts

/-- the arguments that are handed back changed -/
def mutsF (st : St) : List (Nat × AV) → Option (PlanI × Prop)
  | [] => some ([], True)
  | (k, t) :: r => match st.slot k with
    | some x => match frz st.obj true k x, mutsF st r with
      | some (t', p, ok), some (ps, oks) => some (p ++ ps, leA t' t ∧ ok ∧ oks)
      | _, _ => none
    | none => none

def finOk (ti : TI) (rs : List ResultVar) (ow : List Nat) (muts : List (Nat × AV)) (st : St) (res : AV) : Prop :=
  match resAll ti st rs with
  | some (xs, ok1) => match frzAll st.obj ow (if xs.length = 1 then 1000 else 1001) xs, mutsF st muts with
    | some (ts, pl, ok2), some (pl2, ok3) => ok1 ∧ ok2 ∧ ok3 ∧ ((pl ++ pl2).all fun e => decide (look e.1 (pl ++ pl2) = some e.2)) = true ∧
        ((roOf ow (if xs.length = 1 then 1000 else 1001) xs).all fun i => (look i (pl ++ pl2)).isNone) = true ∧ leT (tupOf ts) res
    | _, _ => False
  | none => False

def mapR : Option Lab → Option Lab
  | some (.arg k, q) => if k = 1000 then some (.res, q) else if 1001 ≤ k then some (.res, (1, k - 1001) :: q) else some (.arg k, q)
  | none => none
  | some _ => some (.tmp, [])

def labF (lab : Labs) (pl : PlanI) (ro : List Nat) : Labs := fun b => if isTmp (lab b) = true then lab b else mapR (labC lab pl ro b)

def lab1 (lab : Labs) (po : PlanO) : Labs := fun b => if isTmp (lab b) = true then lab b else match lab b with
  | none => none
  | some (r, q) => match findP po r q with
    | some l => some l
    | none => some (.tmp, [])

section
variable {P : Program} {ti : TI} {w : World} {lab : Labs}

theorem argIn_sound {k : Nat} {x y : AV} {po : PlanO} {v : Value} (h : argIn k x = some (y, po)) (hx : T w lab (.arg k, []) x v) :
    ∃ L, Places w lab po L ∧ ∀ lab' loc', (∀ b, b < w.heap.size → lab b = none → lab' b = none) → (∀ l ∈ L, loc' l.1 = some l.2) → V w lab' loc' y v := by
  unfold argIn at h
  split at h
  · cases h
    refine ⟨[], Places.nil, ?_⟩
    intro lab' loc' hk _
    cases hx with
    | imm _ _ _ hi => exact .imm _ _ (hi.mono (fun b hb hl => ⟨hk b hb hl, rfl⟩) (Nat.le_refl _))
  · split at h <;> first | (cases h; done) | cases h
    rename_i ht
    obtain ⟨L, hP, hS⟩ := thw_sound ht hx
    exact ⟨L, hP, fun lab' loc' hk hL => hS lab' loc' (.inr hk) hL⟩

theorem argsIn_sound : ∀ (xs : List AV) (vs : List Value) (k : Nat) (ys : List AV) (po : PlanO), argsIn k xs = some (ys, po) → xs.length = vs.length →
    (∀ (i : Nat) x v, xs[i]? = some x → vs[i]? = some v → T w lab (.arg (k + i), []) x v) →
    ∃ L, Places w lab po L ∧ ys.length = vs.length ∧ ∀ lab' loc', (∀ b, b < w.heap.size → lab b = none → lab' b = none) → (∀ l ∈ L, loc' l.1 = some l.2) →
      ∀ (i : Nat) y v, ys[i]? = some y → vs[i]? = some v → V w lab' loc' y v := by
  intro xs
  induction xs with
  | nil =>
    intro vs k ys po h hl _
    simp [argsIn] at h
    obtain ⟨rfl, rfl⟩ := h
    exact ⟨[], Places.nil, hl, by intro _ _ _ _ i y v hi; simp at hi⟩
  | cons x xs ih =>
    intro vs k ys po h hl hv
    simp only [argsIn] at h
    split at h <;> first | (cases h; done) | cases h
    rename_i y p ys' ps h1 h2
    cases vs with
    | nil => simp at hl
    | cons v vs =>
      obtain ⟨L1, hP1, hS1⟩ := argIn_sound h1 (hv 0 x v rfl rfl)
      obtain ⟨L2, hP2, hl2, hS2⟩ := ih vs (k + 1) ys' ps h2 (by simpa using hl) (fun i z u hz hu => by
        have := hv (i + 1) z u (by simpa using hz) (by simpa using hu)
        rw [show k + (i + 1) = k + 1 + i by omega] at this; exact this)
      refine ⟨L1 ++ L2, hP1.append hP2, by simp [hl2], ?_⟩
      intro lab' loc' hk hL i y' v' hy hv'
      cases i with
      | zero =>
        simp at hy hv'; subst hy; subst hv'
        exact hS1 lab' loc' hk (fun l hl => hL l (List.mem_append_left _ hl))
      | succ i =>
        exact hS2 lab' loc' hk (fun l hl => hL l (List.mem_append_right _ hl)) i y' v' (by simpa using hy) (by simpa using hv')

/-- what a body begins with -/
theorem entry {args xs0 : List AV} {po : PlanO} {vals : List Value} {n : Nat} (h0 : argsIn 0 args = some (xs0, po)) (hap : apart po = true) (hnd : (po.map (·.2.1)).Nodup)
    (hroot : po.all (fun e => !decide (e.1.1 = .tmp)) = true) (hl : args.length = vals.length) (hn : args.length ≤ n)
    (hv : ∀ (k : Nat) x v, args[k]? = some x → vals[k]? = some v → T w lab (.arg k, []) x v) (hf : ∀ b, lab b ≠ none → b < w.heap.size) :
    Rep w lab ⟨n, enumFrom 0 xs0, po.map fun e => (e.2.1, some e.2.2)⟩ { tmps := (⟨vals⟩ : Array Value) ++ Array.replicate (n - (⟨vals⟩ : Array Value).size) undef, defers := [] } w := by
  rw [List.all_eq_true] at hroot
  obtain ⟨L, hP, hl2, hS⟩ := argsIn_sound args vals 0 xs0 po h0 hl (fun i x v hx hv' => by simpa using hv i x v hx hv')
  have hk : ∀ b, b < w.heap.size → lab b = none → lab1 lab po b = none := by
    intro b _ h; simp [lab1, h, isTmp]
  have h4 : ∀ e ∈ po, ∀ b q, lab b = some (e.1.app q) → lab1 lab po b = some (.obj e.2.1, q) := by
    intro e he b q hq
    have hr := hroot e he
    simp only [lab1]
    rw [if_neg]
    · rw [hq]; simp only [Lab.app]; rw [findP_mem hap he q]
    · intro ht
      rw [hq] at ht
      simp only [Lab.app, isTmp] at ht
      split at ht
      · rename_i hh
        simp only [Option.some.injEq, Prod.mk.injEq] at hh
        simp [hh.1] at hr
      · cases ht
  refine ⟨lab1 lab po, fun i => look i L, ?_, rfl, ?_, ?_, ?_, ?_, ?_⟩
  · simp; omega
  · intro s x hx
    obtain ⟨_, hx⟩ := look_enumFrom hx
    rw [Nat.sub_zero] at hx
    have hs : s < vals.length := by rw [← hl2]; exact (List.getElem?_eq_some_iff.1 hx).1
    have : (((⟨vals⟩ : Array Value) ++ Array.replicate (n - (⟨vals⟩ : Array Value).size) undef).getD s undef) = vals[s] := by
      simp [Array.getD_eq_getD_getElem?, Array.getElem?_append, hs]
    rw [this]
    exact hS (lab1 lab po) _ hk (fun l hl => look_places hP hnd hl) s x _ hx (List.getElem?_eq_getElem hs)
  · intro id nd hi
    have hlk := obj_look hi
    obtain ⟨e, he, h2⟩ := List.mem_map.1 (look_mem hlk)
    simp only [Prod.mk.injEq, Option.some.injEq] at h2
    obtain ⟨rfl, rfl⟩ := h2
    obtain ⟨l, hl, h1, h2⟩ := places_of_mem hP he
    refine ⟨l.2.1, l.2.2, by rw [← h1]; exact look_places hP hnd hl, h4 e he _ [] (by rw [Lab.app_nil]; exact h2.hlab), h2.blk, h2.es, ?_⟩
    intro i c j y hi hj
    obtain ⟨v, hv, hT⟩ := h2.cells i c j y hi hj
    refine ⟨v, hv, Or.inr (hT.relab (Or.inr hk) ?_)⟩
    intro b q _ hq
    rw [Lab.down_app] at hq
    exact h4 e he b _ hq
  · intro id hid
    show look id L = none
    cases hlk : look id L with
    | none => rfl
    | some bb =>
      exfalso
      obtain ⟨e, he, h1, _⟩ := look_L_mem hP hlk
      obtain ⟨x, hx⟩ := look_map_some (l := po.map fun e => (e.2.1, some e.2.2)) (i := id) (by
        simp only [List.map_map, List.mem_map, Function.comp]; exact ⟨e, he, h1⟩)
      have hm := look_mem hx
      obtain ⟨e', _, h2⟩ := List.mem_map.1 hm
      simp only [Prod.mk.injEq] at h2
      simp only [St.obj] at hid
      rw [hx, ← h2.2] at hid
      simp at hid
  · intro b hb
    apply hf
    intro h
    exact hb (by simp [lab1, h, isTmp])
  · refine ⟨Nat.le_refl _, rfl, rfl, fun b hb hs => ⟨?_, rfl⟩, fun b n h => h⟩
    simp only [lab1]
    split
    · rfl
    · rename_i ht
      cases hlb : lab b with
      | none => rfl
      | some l =>
        obtain ⟨r, q⟩ := l
        rw [hlb] at hs ht
        cases r with
        | tmp => simp [isTmp] at ht
        | _ => exact hs.elim

def resSem (tmps : Array Value) : ResultVar → Sem Value
  | .tmp t => pure (tmps.getD t undef)
  | .cell a t => do loadVar t (← asAddr (tmps.getD a undef))

theorem results_eq (fn : Func) (tmps : Array Value) : results fn tmps = (do
    let vs ← fn.results.mapM (resSem tmps)
    pure (if h : vs.size = 1 then vs[0] else .tuple vs)) := by
  unfold results
  congr 1

theorem results_run {fn : Func} {tmps : Array Value} {w : World} (vs : List Value) (hl : fn.results.toList.length = vs.length)
    (h : ∀ (i : Nat) r v, fn.results.toList[i]? = some r → vs[i]? = some v → (resSem tmps r).run P w = .ok v w) :
    (results fn tmps).run P w = .ok (if vs.length = 1 then vs.getD 0 undef else .tuple ⟨vs⟩) w := by
  have key : ∀ (rs : List ResultVar) (vs : List Value), rs.length = vs.length →
      (∀ (i : Nat) r v, rs[i]? = some r → vs[i]? = some v → (resSem tmps r).run P w = .ok v w) →
      (rs.mapM (m := Sem) (resSem tmps)).run P w = .ok vs w := by
    intro rs
    induction rs with
    | nil => intro vs hl _; cases vs with | nil => simp | cons => simp at hl
    | cons r rs ih =>
      intro vs hl h
      cases vs with
      | nil => simp at hl
      | cons v vs =>
        have h1 := h 0 r v rfl rfl
        have h2 := ih vs (by simpa using hl) fun i r v hr hv => h (i + 1) r v (by simpa using hr) (by simpa using hv)
        rw [List.mapM_cons]
        simp only [Sem.run_bind]
        rw [h1]
        simp only [Result.andThen_ok]
        rw [h2]
        simp
  have hm := key fn.results.toList vs hl h
  rw [results_eq, ← Array.toArray_toList (xs := fn.results), List.mapM_toArray]
  rw [Sem.run_bind]
  have hm2 : ((List.toArray <$> fn.results.toList.mapM (m := Sem) (resSem tmps)).run P w) = .ok ⟨vs⟩ w := by
    rw [map_eq_pure_bind, Sem.run_bind, hm]
    simp
  rw [hm2, Result.andThen_ok, Sem.run_pure]
  by_cases h1 : vs.length = 1
  · simp [h1]
  · simp [h1]

/-- what a body ends with -/
theorem mutsF_sound {w : World} {lab : Labs} {loc : Locs} {st : St} {a : Act} (hobjs : ∀ id nd, st.obj id = some nd → ∃ b base, loc id = some (b, base) ∧ ObjOk w lab loc id nd b base)
    (hslots : ∀ s x, st.slot s = some x → V w lab loc x (a.tmps.getD s undef)) {pl : PlanI} {ro : List Nat} : ∀ (muts : List (Nat × AV)) (p : PlanI) (ok : Prop), mutsF st muts = some (p, ok) → ok → (∀ e ∈ p, look e.1 pl = some e.2) →
    (∀ q ∈ muts, ∀ x, st.slot q.1 = some x → isFn x = false) → ∀ q ∈ muts, T w (labC lab pl ro) (.arg q.1, []) q.2 (a.tmps.getD q.1 undef) := by
  intro muts
  induction muts with
  | nil => intro p ok _ _ _ _ q hq; cases hq
  | cons m r ih =>
    intro p ok h hok hp hf q hq
    obtain ⟨k, t⟩ := m
    simp only [mutsF] at h
    split at h <;> first | (cases h; done) | skip
    rename_i x hx
    split at h <;> first | (cases h; done) | cases h
    rename_i t' p1 ok1 ps oks h1 h2
    obtain ⟨ht, hk1, hk2⟩ := hok
    rcases List.mem_cons.1 hq with rfl | hq
    · refine T.le ht ?_
      refine frz_sound hobjs h1 hk1 (hslots k x hx) (fun e he => hp e (List.mem_append_left _ he)) ?_
      rintro (h | ⟨f, cs, rfl⟩)
      · cases h
      · have := hf (k, t) List.mem_cons_self _ hx; simp [isFn] at this
    · exact ih ps oks h2 hk2 (fun e he => hp e (List.mem_append_right _ he)) (fun q hq => hf q (List.mem_cons_of_mem _ hq)) q hq

theorem leave {w0 : World} {lab0 : Labs} {fn : Func} {ow : List Nat} {muts : List (Nat × AV)} {st : St} {res : AV} {a : Act} {w : World} (hT : TOk P ti) (hR : Rep w0 lab0 st a w) (h : finOk ti fn.results.toList ow muts st res)
    (hmf : ∀ q ∈ muts, q.1 < 900 ∧ ∀ x, st.slot q.1 = some x → isFn x = false) :
    ∃ v labx, (results fn a.tmps).run P w = .ok v w ∧ T w labx (.res, []) res v ∧ (∀ q ∈ muts, T w labx (.arg q.1, []) q.2 (a.tmps.getD q.1 undef)) ∧ Ext lab0 w0 labx w ∧ ∀ b, labx b ≠ none → b < w.heap.size := by
  obtain ⟨lab, loc, hR⟩ := hR
  unfold finOk at h
  split at h <;> first | exact h.elim | skip
  rename_i xs ok1 hres
  split at h <;> first | exact h.elim | skip
  rename_i ts pl0 ok2 pl2 ok3 hfz hmu
  obtain ⟨pl, hpleq⟩ : ∃ pl, pl = pl0 ++ pl2 := ⟨_, rfl⟩
  rw [← hpleq] at h
  obtain ⟨hok1, hok2, hok3, hpl, hro, hle⟩ := h
  rw [List.all_eq_true] at hpl hro
  -- the results' values
  have hvals : ∀ (rs : List ResultVar) (xs : List AV) (ok : Prop), resAll ti st rs = some (xs, ok) → ok → ∃ vs : List Value, rs.length = vs.length ∧ xs.length = vs.length ∧
      (∀ (i : Nat) r v, rs[i]? = some r → vs[i]? = some v → (resSem a.tmps r).run P w = .ok v w) ∧ ∀ (i : Nat) x v, xs[i]? = some x → vs[i]? = some v → V w lab loc x v := by
    intro rs
    induction rs with
    | nil =>
      intro xs ok h _
      simp [resAll] at h
      obtain ⟨rfl, _⟩ := h
      exact ⟨[], rfl, rfl, by intro i r v hi; simp at hi, by intro i r v hi; simp at hi⟩
    | cons r rs ih =>
      intro xs ok h hok
      simp only [resAll] at h
      split at h <;> first | (cases h; done) | cases h
      rename_i x ok1 xs' oks h1 h2
      obtain ⟨vs, h3, h4, h5, h6⟩ := ih _ _ h2 hok.2
      have hx : ∃ v, (resSem a.tmps r).run P w = .ok v w ∧ V w lab loc x v := by
        unfold resA at h1
        split at h1
        · split at h1 <;> first | (cases h1; done) | cases h1
          rename_i hs
          exact ⟨_, by simp only [resSem, Sem.run_pure], hR.slots _ _ hs⟩
        · split at h1 <;> first | (cases h1; done) | skip
          rename_i t id es i j hs
          have hv := hR.slots _ _ hs
          obtain ⟨v, hr, hV⟩ := loadA_sound hT (P := P) (w := w) (lab := lab) (loc := loc) (nodes := st.obj) hR.objs h1 hok.1 hv
          refine ⟨v, ?_, hV⟩
          obtain ⟨nd, hnd⟩ : ∃ nd, st.obj id = some nd := by
            cases hn : st.obj id with
            | some nd => exact ⟨nd, rfl⟩
            | none => simp [loadA, hn] at h1
          obtain ⟨b, base, hl, _⟩ := hR.objs id nd hnd
          rw [hv.inv_ptr hl] at hr
          simp only [resSem]
          rw [hv.inv_ptr hl]
          simpa [Instr.loadAt, Instr.sureAddr, asAddr] using hr
      obtain ⟨v, hv1, hv2⟩ := hx
      refine ⟨v :: vs, by simp [h3], by simp [h4], ?_, ?_⟩
      · intro i r' v' hr' hv'
        cases i with
        | zero => simp at hr' hv'; subst hr'; subst hv'; exact hv1
        | succ i => exact h5 i r' v' (by simpa using hr') (by simpa using hv')
      · intro i r' v' hr' hv'
        cases i with
        | zero => simp at hr' hv'; subst hr'; subst hv'; exact hv2
        | succ i => exact h6 i r' v' (by simpa using hr') (by simpa using hv')
  obtain ⟨vs, hl1, hl2, hrun, hV⟩ := hvals _ _ _ hres hok1
  obtain ⟨k0, hk0⟩ : ∃ k, k = (if xs.length = 1 then 1000 else 1001) := ⟨_, rfl⟩
  rw [← hk0] at hfz hro
  obtain ⟨hts, hT'⟩ := frzAll_sound (w := w) (lab := lab) (loc := loc) (nodes := st.obj) hR.objs (pl := pl) (ro := roOf ow k0 xs) xs vs k0 ts pl0 ok2 hfz hok2 hl2 hV (fun e he => by simpa using hpl e (by rw [hpleq]; exact List.mem_append_left _ he)) (fun i hi => by
    have := hro i hi
    simp only [Option.isNone_iff_eq_none] at this
    exact ⟨this, hi⟩)
  -- labels
  have hC : ∀ b, isTmp (lab b) = true → labC lab pl (roOf ow k0 xs) b = some (.tmp, []) := by
    intro b h
    cases hlb : lab b with
    | none => rw [hlb] at h; simp [isTmp] at h
    | some l =>
      obtain ⟨r, q⟩ := l
      rw [hlb] at h
      cases r <;> first | (simp [isTmp] at h; done) | simp [labC, hlb]
  have n1 : ∀ b, labC lab pl (roOf ow k0 xs) b = none → labF lab pl (roOf ow k0 xs) b = none := by
    intro b h
    simp only [labF]
    rw [if_neg, h]; rfl
    intro ht; rw [hC b ht] at h; cases h
  have hMu := mutsF_sound (a := a) hR.objs hR.slots (pl := pl) (ro := roOf ow k0 xs) muts pl2 ok3 hmu hok3 (fun e he => by simpa using hpl e (by rw [hpleq]; exact List.mem_append_right _ he)) (fun q hq => (hmf q hq).2)
  have n2 : ∀ b k q, labC lab pl (roOf ow k0 xs) b = some (.arg k, q) → labF lab pl (roOf ow k0 xs) b = mapR (some (.arg k, q)) := by
    intro b k q h
    simp only [labF]
    rw [if_neg, h]
    intro ht; rw [hC b ht] at h; cases h
  refine ⟨_, labF lab pl (roOf ow k0 xs), results_run vs hl1 hrun, ?_, ?_, ?_, ?_⟩
  · refine T.leT hle ?_
    have hmv : ∀ (i : Nat) t v (p' : Lab), ts[i]? = some t → vs[i]? = some v → (∀ q, mapR (some (.arg (k0 + i), q)) = some (p'.app q)) → T w (labF lab pl (roOf ow k0 xs)) p' t v := by
      intro i t v p' ht hv hp
      refine (hT' i t v ht hv).move (fun b _ hb => ⟨n1 b hb, rfl⟩) ?_ (Nat.le_refl _)
      intro b q _ hq
      refine ⟨?_, rfl⟩
      rw [n2 b (k0 + i) q (by simpa [Lab.app] using hq), hp]
    by_cases h1 : xs.length = 1
    · rw [if_pos h1] at hk0
      have hv1 : vs.length = 1 := by rw [← hl2, h1]
      rw [if_pos hv1]
      obtain ⟨v, rfl⟩ := List.length_eq_one_iff.1 hv1
      obtain ⟨t, rfl⟩ := List.length_eq_one_iff.1 (show ts.length = 1 by rw [hts]; rfl)
      refine hmv 0 t v (.res, []) rfl rfl ?_
      intro q
      simp [mapR, hk0, Lab.app]
    · rw [if_neg h1] at hk0
      have hv1 : ¬ vs.length = 1 := by rw [← hl2]; exact h1
      rw [if_neg hv1]
      have htup : tupOf ts = .tup ts := by
        match ts, hts with
        | [], _ => rfl
        | [t], hts => exact absurd hts.symm hv1
        | _ :: _ :: _, _ => rfl
      rw [htup]
      refine .tup _ _ _ hts ?_
      intro j x y hx hy
      refine hmv j x y _ hx hy ?_
      intro q
      simp only [mapR]
      rw [if_neg (by omega), if_pos (by omega)]
      rw [show k0 + j - 1001 = j by omega]
      simp [Lab.app, Lab.down]
  · intro m hm
    refine (hMu m hm).move (fun b _ hb => ⟨n1 b hb, rfl⟩) ?_ (Nat.le_refl _)
    intro b q _ hq
    refine ⟨?_, rfl⟩
    have hlt := (hmf m hm).1
    rw [n2 b m.1 q (by simpa [Lab.app] using hq)]
    simp only [mapR]
    rw [if_neg (by omega), if_neg (by omega)]
    simp [Lab.app]
  · refine ⟨hR.ext.size, hR.ext.os, hR.ext.out, ?_, hR.ext.blk⟩
    intro b hb hs
    have hk := hR.ext.kept b hb hs
    refine ⟨?_, hk.2⟩
    simp only [labF]
    cases hlb : lab0 b with
    | none =>
      rw [hlb] at hk
      rw [if_neg (by rw [hk.1]; simp [isTmp])]
      simp [labC, hk.1, mapR]
    | some l =>
      obtain ⟨r, q⟩ := l
      rw [hlb] at hs hk
      cases r with
      | tmp => rw [if_pos (by rw [hk.1]; rfl), hk.1]
      | _ => exact hs.elim
  · intro b hb
    apply hR.fresh
    intro h
    exact hb (by simp [labF, h, isTmp, labC, mapR])

/-- an empty slice, nil or not -/
theorem DC.empty {f : FuncId} {es : Nat} {res : AV} {muts : List (Nat × AV)} (h1 : DC P f [.nils] res muts) (h2 : DC P f [.nel] res muts) : DC P f [.isl es []] res muts := by
  refine ⟨h1.body, ?_⟩
  intro w lab vals hl hv hf
  obtain ⟨v, rfl⟩ := List.length_eq_one_iff.1 (show vals.length = 1 by rw [← hl]; rfl)
  have h := hv 0 _ v rfl rfl
  have hI : I w lab (.isl es []) v := by cases h with | imm _ _ _ hI => exact hI
  have go : ∀ y, I w lab y v → ∀ (k : Nat) x u, [y][k]? = some x → [v][k]? = some u → T w lab (.arg k, []) x u := by
    intro y hy k x u hx hu
    cases k with
    | zero => simp at hx hu; subst hx; subst hu; exact .imm _ _ _ hy
    | succ k => simp at hx
  cases hI with
  | nsl => exact h1.calls w lab [_] rfl (go _ .nils) hf
  | esl _ a cap => exact h2.calls w lab [_] rfl (go _ (.nel a cap)) hf
  | isl _ _ b off cap vals hb hs hc hes hp hv hr => exact h2.calls w lab [_] rfl (go _ (.nel _ _)) hf

/-- a contract from a body -/
theorem DC.intro (hT : TOk P ti) {f : FuncId} {fn : Func} {c : Code} {args xs0 : List AV} {po : PlanO} {res : AV} {muts : List (Nat × AV)} (hfn : P.funcs[f]? = some fn) (hb : fn.body = some c) (hname : (fn.name == "runtime.NumGoroutine") = false)
    {rs : List ResultVar} (hrs : fn.results.toList = rs) {n : Nat} (hn' : fn.ntmps = n) (hn : (decide (args.length ≤ n)) = true) (h0 : argsIn 0 args = some (xs0, po)) (hc : (apart po && decide (po.map (·.2.1)).Nodup && po.all (fun e => !decide (e.1.1 = .tmp))) = true)
    (hm : (muts.all fun q => noW q.1 c && decide (q.1 < 900) && decide (q.1 < args.length)) = true) (ow : List Nat)
    (h : AW P c ⟨n, enumFrom 0 xs0, po.map fun e => (e.2.1, some e.2.2)⟩ fun e s => (e = .normal ∨ e = .ret) ∧ (muts.all fun q => match s.slot q.1 with | some x => !isFn x | none => true) = true ∧ finOk ti rs ow muts s res) : DC P f args res muts := by
  subst hrs; subst hn'
  simp only [Bool.and_eq_true, decide_eq_true_eq] at hc hn
  rw [List.all_eq_true] at hm
  obtain ⟨⟨h1, h2⟩, h3⟩ := hc
  refine ⟨⟨fn, hfn, by rw [hb]; rfl, hname⟩, ?_⟩
  intro w lab vals hl hv hf
  refine calls_of_wp hfn hb ?_
  refine wp_mono (h.go w lab _ w (entry h0 h1 h2 h3 hl hn hv hf)) ?_
  rintro e a' w' ⟨⟨s, ⟨he, hnf, hfin⟩, hR⟩, hpin⟩
  rw [List.all_eq_true] at hnf
  have hd : a'.defers = [] := by obtain ⟨_, _, hR'⟩ := hR; exact hR'.defers
  obtain ⟨v, labx, h4, h5, h8, h6, h7⟩ := leave hT hR hfin (fun q hq => ⟨by have := hm q hq; simp only [Bool.and_eq_true, decide_eq_true_eq] at this; exact this.1.2, fun x hx => by
    have := hnf q hq; rw [hx] at this; simpa using this⟩)
  have hpin' : e ≠ .outgrown → ∀ q ∈ muts, ∀ v, vals[q.1]? = some v → T w' labx (.arg q.1, []) q.2 v := by
    intro hne q hq v hv'
    have hq' := hm q hq
    simp only [Bool.and_eq_true, decide_eq_true_eq] at hq'
    have hp := hpin.resolve_left hne q.1 hq'.1.1
    have hx := h8 q hq
    rw [hp] at hx
    have hlt : q.1 < vals.length := by omega
    have hv2 : vals[q.1] = v := by rw [List.getElem?_eq_getElem hlt] at hv'; exact Option.some.inj hv'
    have : (((⟨vals⟩ : Array Value) ++ Array.replicate (fn.ntmps - (⟨vals⟩ : Array Value).size) undef).getD q.1 undef) = vals[q.1] := by
      simp [Array.getD_eq_getD_getElem?, Array.getElem?_append, hlt]
    rw [this, hv2] at hx
    exact hx
  rcases he with rfl | rfl
  · exact ⟨hd, v, h4, v, labx, rfl, h5, hpin' (by simp), h6, h7⟩
  · exact ⟨hd, v, h4, v, labx, rfl, h5, hpin' (by simp), h6, h7⟩

end

end Go.AM
namespace Go.AM

theorem info_of {P : Program} {t : Nat} {info : TypeInfo} (h : ∀ w, (typeInfo t).run P w = .ok info w) : P.info? t = some info := by
  have := h default
  simp only [typeInfo, Sem.run_bind, run_program, Result.andThen_ok] at this
  cases hi : P.info? t with
  | none => rw [hi] at this; simp [unsupported] at this
  | some i => rw [hi] at this; simp at this; rw [this]

theorem tok1 {P : Program} {t : Nat} {info : TypeInfo} {i : TInfo} (h1 : ∀ w, (typeInfo t).run P w = .ok info w) (h2 : info.size = i.size) (h3 : info.bytes = i.bytes)
    (h4 : ∀ z, i.zero = some z → ∃ zv, info.zero = some zv ∧ zv.cells.toList.mapM ofV = some z ∧ z.length = i.size) (h5 : KOk P t i.kind) (h0 : i.flat = true → FlatEq P t i.size) : TOk1 P t i :=
  ⟨h0, ⟨info, info_of h1, h2, h3, h4⟩, h5⟩

theorem run_part_int {P : Program} {t : TypeId} (ht : P.underlying t = some (.int .i64)) (l : List Int) (k : Nat) (hk : k < l.length) (w : World) : (part t ⟨l.map (Value.int .i64)⟩ k).run P w = .ok (.int .i64 l[k]) w := by
  have hg : (isAgg t).run P w = .ok false w := by simp [isAgg, run_underlying ht]
  simp [part, hg, hk]

theorem eqFields_run {P : Program} (w : World) (a b : List Int) (hab : a.length = b.length) : ∀ (fs : List Field) (k : Nat), (∀ (j : Nat) f, fs[j]? = some f → f.offset = k + j ∧ f.name ≠ "_" ∧ P.underlying f.type = some (.int .i64)) → k + fs.length = a.length →
    (Op.eqFields 9999 ⟨a.map (Value.int .i64)⟩ ⟨b.map (Value.int .i64)⟩ fs).run P w = .ok (decide (a.drop k = b.drop k)) w := by
  intro fs
  induction fs with
  | nil =>
    intro k _ hl
    simp only [List.length_nil, Nat.add_zero] at hl
    simp only [Op.eqFields, Sem.run_pure]
    rw [List.drop_eq_nil_of_le (by omega), List.drop_eq_nil_of_le (by omega)]; simp
  | cons f fs ih =>
    intro k hf hl
    obtain ⟨h1, h2, h3⟩ := hf 0 f rfl
    simp only [List.length_cons] at hl
    have hka : k < a.length := by omega
    have hkb : k < b.length := by omega
    have hr := ih (k + 1) (fun j g hg => by
      have := hf (j + 1) g (by simpa using hg)
      exact ⟨by omega, this.2.1, this.2.2⟩) (by omega)
    have h1' : f.offset = k := by omega
    simp only [Op.eqFields, if_pos h2, Sem.run_bind, h1', run_part_int h3 a k hka, run_part_int h3 b k hkb, Result.andThen_ok, run_equalIn_int w 9998 .i64 _ _ h3]
    have key : (a.drop k = b.drop k) ↔ (a[k] = b[k] ∧ a.drop (k + 1) = b.drop (k + 1)) := by
      rw [List.drop_eq_getElem_cons hka, List.drop_eq_getElem_cons hkb]
      exact ⟨fun h => by injection h with h1 h2; exact ⟨h1, h2⟩, fun ⟨h1, h2⟩ => by rw [h1, h2]⟩
    by_cases e : a[k] = b[k]
    · have e1 : (a[k] == b[k]) = true := by simpa using e
      have e2 : decide (a.drop k = b.drop k) = decide (a.drop (k + 1) = b.drop (k + 1)) := by rw [decide_eq_decide, key]; exact ⟨fun h => h.2, fun h => ⟨e, h⟩⟩
      rw [e2]
      simp only [e1, Bool.not_true, Bool.false_eq_true, if_false, hr]
    · have e1 : (a[k] == b[k]) = false := by simpa using e
      have e2 : decide (a.drop k = b.drop k) = false := by rw [decide_eq_false_iff_not, key]; exact fun h => e h.1
      rw [e2]
      simp only [e1, Bool.not_false, if_true, Sem.run_pure]

theorem flatEq {P : Program} {t n : Nat} {fs : List Field} (hu : P.underlying t = some (.struct (P.fieldsOf t))) (hfs : (P.fieldsOf t).toList = fs) (hp : P.stoodInHeld t = false) (hg : P.eqGuardType P.depth t = false) (hn : fs.length = n)
    (hf : ∀ (j : Nat) f, fs[j]? = some f → f.offset = 0 + j ∧ f.name ≠ "_" ∧ P.underlying f.type = some (.int .i64)) : FlatEq P t n := by
  refine ⟨hg, fun w a b ha hb => ?_⟩
  rw [run_equalIn_struct w 9999 t _ _ hu hp, hfs, eqFields_run w a b (by omega) fs 0 hf (by omega)]
  simp

theorem tz1 {info : TypeInfo} {i : TInfo} {z : List AV} (zv : Value) (hi : i.zero = some z) (h1 : info.zero = some zv) (h2 : zv.cells.toList.mapM ofV = some z) (h3 : z.length = i.size) :
    ∀ z, i.zero = some z → ∃ zv, info.zero = some zv ∧ zv.cells.toList.mapM ofV = some z ∧ z.length = i.size := by
  intro z' hz; rw [hi] at hz; cases hz; exact ⟨zv, h1, h2, h3⟩

theorem kstruct {P : Program} {t : Nat} {fields : Array Field} {fs : List (Nat × Nat)} (h : P.underlying t = some (.struct fields)) (hf : fields.toList.map (fun f => (f.offset, f.type)) = fs) : KOk P t (.struct fs) := ⟨fields, h, hf⟩

theorem tok_nil {P : Program} : TOk P fun _ => none := fun t i h => by cases h
def tiAdd (t : Nat) (i : TInfo) (ti : TI) : TI := fun u => if u = t then some i else ti u
theorem tok_add {P : Program} {t : Nat} {i : TInfo} {ti : TI} (h : TOk1 P t i) (h2 : TOk P ti) : TOk P (tiAdd t i ti) := by
  intro u j hu
  simp only [tiAdd] at hu
  split at hu
  · rename_i e; cases hu; rw [e]; exact h
  · exact h2 u j hu
end Go.AM
namespace Go.AM

def keepS (st : St) : List Nat → List (Nat × AV)
  | [] => []
  | s :: ks => match st.slot s with
    | some x => (s, x) :: keepS st ks
    | none => keepS st ks

def compact : List Nat → List (Nat × Option Node) → List (Nat × Option Node)
  | _, [] => []
  | seen, (i, o) :: r => if seen.contains i then compact seen r else match o with
    | some nd => (i, some nd) :: compact (i :: seen) r
    | none => compact (i :: seen) r

/-- the objects that may be reached from some ids -/
def gcO : Nat → List Nat → List (Nat × Option Node) → List (Nat × Option Node)
  | 0, seeds, l => l.filter fun p => seeds.contains p.1
  | k + 1, seeds, l => gcO k (seeds ++ objIds (l.filter fun p => seeds.contains p.1)) l

theorem gcO_sub : ∀ (k : Nat) (seeds : List Nat) (l : List (Nat × Option Node)) {i : Nat} {nd : Node}, look i (gcO k seeds l) = some (some nd) → (i, some nd) ∈ l := by
  intro k
  induction k with
  | zero => intro seeds l i nd h; exact (List.mem_filter.1 (look_mem h)).1
  | succ k ih =>
    intro seeds l i nd h
    exact ih _ _ h

theorem compact_keys {l : List (Nat × Option Node)} : ∀ {seen : List Nat} {i : Nat} {nd : Node}, (i, some nd) ∈ compact seen l → look i (compact seen l) = some (some nd) := by
  induction l with
  | nil => intro seen i nd h; simp [compact] at h
  | cons p l ih =>
    obtain ⟨k, o⟩ := p
    intro seen i nd h
    have hseen : ∀ {l : List (Nat × Option Node)} {seen : List Nat} {i : Nat} {nd : Node}, (i, some nd) ∈ compact seen l → i ∉ seen := by
      intro l
      induction l with
      | nil => intro seen i nd h; simp [compact] at h
      | cons q l ih =>
        obtain ⟨k, o⟩ := q
        intro seen i nd h
        simp only [compact] at h
        split at h
        · exact ih h
        · rename_i hk
          cases o with
          | none =>
            have := ih h
            simp only [List.mem_cons, not_or] at this
            exact this.2
          | some m =>
            rcases List.mem_cons.1 h with h | h
            · cases h; simpa using hk
            · have := ih h
              simp only [List.mem_cons, not_or] at this
              exact this.2
    simp only [compact] at h ⊢
    split at h
    · rename_i hk; rw [if_pos hk]; exact ih h
    · rename_i hk
      rw [if_neg hk]
      cases o with
      | none => exact ih h
      | some m =>
        simp only [look]
        rcases List.mem_cons.1 h with h | h
        · cases h; rw [if_pos rfl]
        · have hne := hseen h
          simp only [List.mem_cons, not_or] at hne
          rw [if_neg hne.1]
          exact ih h

def St.keep (ks : List Nat) (st : St) : St := ⟨st.n, keepS st ks, gcO 2 (slotIds (keepS st ks)) (compact [] st.objs)⟩

theorem look_keepS {st : St} {ks : List Nat} {s : Nat} {x : AV} (h : look s (keepS st ks) = some x) : st.slot s = some x := by
  induction ks with
  | nil => cases h
  | cons k ks ih =>
    simp only [keepS] at h
    split at h
    · rename_i y hy
      simp only [look] at h
      split at h
      · rename_i e; subst e; cases h; exact hy
      · exact ih h
    · exact ih h

theorem look_compact {l : List (Nat × Option Node)} {seen : List Nat} {i : Nat} {nd : Node} (h : look i (compact seen l) = some (some nd)) : i ∉ seen ∧ look i l = some (some nd) := by
  induction l generalizing seen with
  | nil => cases h
  | cons p l ih =>
    obtain ⟨k, o⟩ := p
    simp only [compact] at h
    simp only [look]
    split at h
    · rename_i hk
      obtain ⟨h1, h2⟩ := ih h
      refine ⟨h1, ?_⟩
      rw [if_neg]
      · exact h2
      · rintro rfl; exact h1 (by simpa using hk)
    · rename_i hk
      cases o with
      | none =>
        obtain ⟨h1, h2⟩ := ih h
        simp only [List.mem_cons, not_or] at h1
        exact ⟨h1.2, by rw [if_neg h1.1]; exact h2⟩
      | some m =>
        simp only [look] at h
        split at h
        · rename_i e; subst e; cases h
          exact ⟨by simpa using hk, by rw [if_pos rfl]⟩
        · rename_i e
          obtain ⟨h1, h2⟩ := ih h
          simp only [List.mem_cons, not_or] at h1
          exact ⟨h1.2, by rw [if_neg e]; exact h2⟩

theorem less_keep (ks : List Nat) (st : St) : St.Less st (st.keep ks) :=
  ⟨rfl, fun _ _ h => look_keepS h, fun i nd h => by
    have := compact_keys (gcO_sub _ _ _ (obj_look h))
    have h2 := (look_compact this).2
    simp [St.obj, h2]⟩

def St.keep0 (ks : List Nat) (st : St) : St := ⟨st.n, keepS st ks, compact [] st.objs⟩
theorem less_keep0 (ks : List Nat) (st : St) : St.Less st (st.keep0 ks) :=
  ⟨rfl, fun _ _ h => look_keepS h, fun i nd h => by
    have := obj_look h
    have h2 := (look_compact this).2
    simp [St.obj, h2]⟩

/-- the check of a drawn region, shut -/
def Chk (draw : Bool) (ops : Array Oper) (es : List (Nat × Eff)) : Prop := draw = true → drawOk ops es = true
theorem Chk.no {ops : Array Oper} {es : List (Nat × Eff)} : Chk false ops es := fun h => by cases h
theorem Chk.keys {ops : Array Oper} {es : List (Nat × Eff)} (h : drawK ops (es.map kOf) = true) : Chk true ops es := fun _ => drawK_ok h
section
variable {P : Program} {ti : TI} {st : St} {K : Exit → St → Prop}

/-- a region, then more; what is kept of the slots -/
theorem AW.reg (hT : TOk P ti) (ow : Nat → List Nat) (ks : List Nat) {id : Nat} {ops : Array Oper} {draw : Bool} {y : Code}
    (h : ∀ k : St → Prop, (∀ s, AW P y s K → k s) → opsGo P ti ow ops 0 ops.toList st (fun es s => Chk draw ops es ∧ k (s.keep ks)) .mk) : AW P (.seq (.region id ops draw) y) st K := by
  refine AW.seq ((AW.region hT ow (K := thenK (fun s => AW P y (s.keep ks) K) K) (opsGo_all (h (fun s => AW P y s K) fun s h => h))).mono ?_)
  intro e s hs
  cases e with
  | normal => exact AW.less (less_keep ks s) hs
  | _ => exact hs

/-- a region at the end of a piece -/
theorem AW.regN (hT : TOk P ti) (ow : Nat → List Nat) (ks : List Nat) {id : Nat} {ops : Array Oper} {draw : Bool} {y : Code} {K' : Exit → St → Prop} (hK : ∀ s, AW P y s K' → K .normal s)
    (h : ∀ k : St → Prop, (∀ s, AW P y s K' → k s) → opsGo P ti ow ops 0 ops.toList st (fun es s => Chk draw ops es ∧ k (s.keep ks)) .mk) : AW P (.region id ops draw) st K := by
  refine (AW.region hT ow (K := thenK (fun s => AW P y (s.keep ks) K') fun _ _ => False) (opsGo_all (h (fun s => AW P y s K') fun s h => h))).mono ?_
  intro e s hs
  cases e with
  | normal => exact hK _ (AW.less (less_keep ks s) hs)
  | _ => exact hs.elim

/-- a region, then more; what is kept of the slots -/
theorem AW.reg0 (hT : TOk P ti) (ow : Nat → List Nat) (ks : List Nat) {id : Nat} {ops : Array Oper} {draw : Bool} {y : Code}
    (h : ∀ k : St → Prop, (∀ s, AW P y s K → k s) → opsGo P ti ow ops 0 ops.toList st (fun es s => Chk draw ops es ∧ k (s.keep0 ks)) .mk) : AW P (.seq (.region id ops draw) y) st K := by
  refine AW.seq ((AW.region hT ow (K := thenK (fun s => AW P y (s.keep0 ks) K) K) (opsGo_all (h (fun s => AW P y s K) fun s h => h))).mono ?_)
  intro e s hs
  cases e with
  | normal => exact AW.less (less_keep0 ks s) hs
  | _ => exact hs

/-- a region at the end of a piece -/
theorem AW.regN0 (hT : TOk P ti) (ow : Nat → List Nat) (ks : List Nat) {id : Nat} {ops : Array Oper} {draw : Bool} {y : Code} {K' : Exit → St → Prop} (hK : ∀ s, AW P y s K' → K .normal s)
    (h : ∀ k : St → Prop, (∀ s, AW P y s K' → k s) → opsGo P ti ow ops 0 ops.toList st (fun es s => Chk draw ops es ∧ k (s.keep0 ks)) .mk) : AW P (.region id ops draw) st K := by
  refine (AW.region hT ow (K := thenK (fun s => AW P y (s.keep0 ks) K') fun _ _ => False) (opsGo_all (h (fun s => AW P y s K') fun s h => h))).mono ?_
  intro e s hs
  cases e with
  | normal => exact hK _ (AW.less (less_keep0 ks s) hs)
  | _ => exact hs.elim

theorem AW.regK (hT : TOk P ti) (ow : Nat → List Nat) {id : Nat} {ops : Array Oper} {draw : Bool}
    (h : ∀ k : St → Prop, (∀ s, K .normal s → k s) → opsGo P ti ow ops 0 ops.toList st (fun es s => Chk draw ops es ∧ k s) .mk) : AW P (.region id ops draw) st K :=
  AW.region hT ow (opsGo_all (h (fun s => K .normal s) fun _ h => h))

theorem AW.loopI {ι : Type} (S : ι → St) (I : ι → Prop) (μ : ι → Nat) {c : Code} (i0 : ι) (hI : I i0) (hS : St.Less st (S i0))
    (h : ∀ i, I i → AW P c (S i) (thenK (fun s => ∃ j, I j ∧ μ j < μ i ∧ St.Less s (S j)) K)) : AW P (.loop c) st K := by
  refine AW.less hS ?_
  refine AW.loop (ι := {i : ι // I i}) (fun i => S i.1) (fun _ => K) (fun i => μ i.1) ?_ ⟨i0, hI⟩
  intro i
  refine (h i.1 i.2).mono ?_
  intro e s hs
  cases e with
  | normal =>
    obtain ⟨j, h1, h2, h3⟩ := hs
    exact ⟨⟨j, h1⟩, h2, h3, fun _ _ h => h⟩
  | _ => exact hs

theorem AW.skipN {y : Code} {K' : Exit → St → Prop} (hK : ∀ s, AW P y s K' → K .normal s) (h : AW P y st K') : AW P .skip st K := AW.skip (hK _ h)

theorem AW.exitN {y : Code} {id : Nat} {K' : Exit → St → Prop} (hK : ∀ s, AW P y s K' → K (.exit id) s) (h : AW P y st K') : AW P (.exit id) st K := AW.exit (hK _ h)

theorem AW.retF {rs : List ResultVar} {ow : List Nat} {muts : List (Nat × AV)} {res : AV} (h : (muts.all fun q => match st.slot q.1 with | some x => !isFn x | none => true) = true ∧ finOk ti rs ow muts st res)
    (hk : (muts.all fun q => match st.slot q.1 with | some x => !isFn x | none => true) = true ∧ finOk ti rs ow muts st res → K .ret st) : AW P .ret st K := AW.ret (hk h)

end

theorem Chk_false {ops : Array Oper} {es : List (Nat × Eff)} : Chk false ops es = True := eq_true Chk.no

@[go_sem] theorem AV_plain_undef : AV.plain (.undef) = false := rfl
@[go_sem] theorem AV_tree_undef : AV.tree (.undef) = false := rfl
@[go_sem] theorem leA0_undef {y : AV} : leA0 (.undef) y = ((.undef) = y) := rfl
@[go_sem] theorem leA_undef {y : AV} : leA (.undef) y = leA0 (.undef) y := rfl
@[go_sem] theorem leT_undef {y : AV} : leT (.undef) y = leA (.undef) y := rfl
@[go_sem] theorem AV_plain_bool {b : _} : AV.plain (.bool b) = true := rfl
@[go_sem] theorem AV_tree_bool {b : _} : AV.tree (.bool b) = true := rfl
@[go_sem] theorem leA0_bool {b : _} {y : AV} : leA0 (.bool b) y = ((.bool b) = y) := rfl
@[go_sem] theorem leA_bool {b : _} {y : AV} : leA (.bool b) y = leA0 (.bool b) y := rfl
@[go_sem] theorem leT_bool {b : _} {y : AV} : leT (.bool b) y = leA (.bool b) y := rfl
@[go_sem] theorem AV_plain_int {k : _} {n : _} : AV.plain (.int k n) = true := rfl
@[go_sem] theorem AV_tree_int {k : _} {n : _} : AV.tree (.int k n) = true := rfl
@[go_sem] theorem leA0_int {k : _} {n : _} {y : AV} : leA0 (.int k n) y = ((.int k n) = y) := rfl
@[go_sem] theorem leA_int {k : _} {n : _} {y : AV} : leA (.int k n) y = leA0 (.int k n) y := rfl
@[go_sem] theorem leT_int {k : _} {n : _} {y : AV} : leT (.int k n) y = leA (.int k n) y := rfl
@[go_sem] theorem AV_plain_str {s : _} : AV.plain (.str s) = true := rfl
@[go_sem] theorem AV_tree_str {s : _} : AV.tree (.str s) = true := rfl
@[go_sem] theorem leA0_str {s : _} {y : AV} : leA0 (.str s) y = ((.str s) = y) := rfl
@[go_sem] theorem leA_str {s : _} {y : AV} : leA (.str s) y = leA0 (.str s) y := rfl
@[go_sem] theorem leT_str {s : _} {y : AV} : leT (.str s) y = leA (.str s) y := rfl
@[go_sem] theorem AV_plain_nilp : AV.plain (.nilp) = true := rfl
@[go_sem] theorem AV_tree_nilp : AV.tree (.nilp) = true := rfl
@[go_sem] theorem leA0_nilp {y : AV} : leA0 (.nilp) y = ((.nilp) = y) := rfl
@[go_sem] theorem leA_nilp {y : AV} : leA (.nilp) y = leA0 (.nilp) y := rfl
@[go_sem] theorem leT_nilp {y : AV} : leT (.nilp) y = leA (.nilp) y := rfl
@[go_sem] theorem AV_plain_nils : AV.plain (.nils) = true := rfl
@[go_sem] theorem AV_tree_nils : AV.tree (.nils) = true := rfl
@[go_sem] theorem leA_nils {y : AV} : leA (.nils) y = leA0 (.nils) y := rfl
@[go_sem] theorem leT_nils {y : AV} : leT (.nils) y = leA (.nils) y := rfl
@[go_sem] theorem AV_plain_nel : AV.plain (.nel) = true := rfl
@[go_sem] theorem AV_plain_lns {n : Nat} : AV.plain (.lns n) = true := rfl
@[go_sem] theorem AV_tree_lns {n : Nat} : AV.tree (.lns n) = true := rfl
@[go_sem] theorem leA0_lns {n : Nat} {y : AV} : leA0 (.lns n) y = ((.lns n) = y) := rfl
@[go_sem] theorem leA_lns {n : Nat} {y : AV} : leA (.lns n) y = leA0 (.lns n) y := rfl
@[go_sem] theorem leT_lns {n : Nat} {y : AV} : leT (.lns n) y = leA (.lns n) y := rfl
@[go_sem] theorem AV_plain_val {v : Value} : AV.plain (.val v) = true := rfl
@[go_sem] theorem AV_tree_val {v : Value} : AV.tree (.val v) = true := rfl
@[go_sem] theorem leA0_val {v : Value} {y : AV} : leA0 (.val v) y = ((.val v) = y) := rfl
@[go_sem] theorem leA_val {v : Value} {y : AV} : leA (.val v) y = leA0 (.val v) y := rfl
@[go_sem] theorem leT_val {v : Value} {y : AV} : leT (.val v) y = leA (.val v) y := rfl
@[go_sem] theorem AV_plain_any : AV.plain (.any) = false := rfl
@[go_sem] theorem AV_tree_any : AV.tree (.any) = false := rfl
@[go_sem] theorem AV_tree_nel : AV.tree (.nel) = true := rfl
@[go_sem] theorem leA_nel {y : AV} : leA (.nel) y = leA0 (.nel) y := rfl
@[go_sem] theorem leT_nel {y : AV} : leT (.nel) y = leA (.nel) y := rfl
@[go_sem] theorem leA0_nelisl {b : Nat} {m : List (List AV)} : leA0 .nel (.isl b m) = (m = []) := rfl
@[go_sem] theorem AV_plain_zsl : AV.plain (.zsl) = true := rfl
@[go_sem] theorem AV_tree_zsl : AV.tree (.zsl) = true := rfl
@[go_sem] theorem leA_zsl {y : AV} : leA (.zsl) y = leA0 (.zsl) y := rfl
@[go_sem] theorem leT_zsl {y : AV} : leT (.zsl) y = leA (.zsl) y := rfl
@[go_sem] theorem AV_plain_isl {es : _} {l : _} : AV.plain (.isl es l) = true := rfl
@[go_sem] theorem AV_tree_isl {es : _} {l : _} : AV.tree (.isl es l) = true := rfl
@[go_sem] theorem leA0_isl {es : _} {l : _} {y : AV} : leA0 (.isl es l) y = ((.isl es l) = y) := rfl
@[go_sem] theorem leA_isl {es : _} {l : _} {y : AV} : leA (.isl es l) y = leA0 (.isl es l) y := rfl
@[go_sem] theorem leT_isl {es : _} {l : _} {y : AV} : leT (.isl es l) y = leA (.isl es l) y := rfl
@[go_sem] theorem AV_plain_osl {es : _} {l : _} : AV.plain (.osl es l) = false := rfl
@[go_sem] theorem AV_tree_osl {es : _} {l : _} : AV.tree (.osl es l) = true := rfl
@[go_sem] theorem leA_osl {es : _} {l : _} {y : AV} : leA (.osl es l) y = leA0 (.osl es l) y := rfl
@[go_sem] theorem leT_osl {es : _} {l : _} {y : AV} : leT (.osl es l) y = leA (.osl es l) y := rfl
@[go_sem] theorem AV_plain_ip {l : _} : AV.plain (.ip l) = true := rfl
@[go_sem] theorem AV_tree_ip {l : _} : AV.tree (.ip l) = true := rfl
@[go_sem] theorem leA0_ip {l : _} {y : AV} : leA0 (.ip l) y = ((.ip l) = y) := rfl
@[go_sem] theorem leA_ip {l : _} {y : AV} : leA (.ip l) y = leA0 (.ip l) y := rfl
@[go_sem] theorem leT_ip {l : _} {y : AV} : leT (.ip l) y = leA (.ip l) y := rfl
@[go_sem] theorem AV_plain_op {l : _} : AV.plain (.op l) = false := rfl
@[go_sem] theorem AV_tree_op {l : _} : AV.tree (.op l) = true := rfl
@[go_sem] theorem leA0_op {l : _} {y : AV} : leA0 (.op l) y = ((.op l) = y) := rfl
@[go_sem] theorem leA_op {l : _} {y : AV} : leA (.op l) y = leA0 (.op l) y := rfl
@[go_sem] theorem leT_op {l : _} {y : AV} : leT (.op l) y = leA (.op l) y := rfl
@[go_sem] theorem AV_plain_ptr {a : _} {b : _} {c : _} {d : _} : AV.plain (.ptr a b c d) = true := rfl
@[go_sem] theorem AV_tree_ptr {a : _} {b : _} {c : _} {d : _} : AV.tree (.ptr a b c d) = false := rfl
@[go_sem] theorem leA0_ptr {a : _} {b : _} {c : _} {d : _} {y : AV} : leA0 (.ptr a b c d) y = ((.ptr a b c d) = y) := rfl
@[go_sem] theorem leA_ptr {a : _} {b : _} {c : _} {d : _} {y : AV} : leA (.ptr a b c d) y = leA0 (.ptr a b c d) y := rfl
@[go_sem] theorem leT_ptr {a : _} {b : _} {c : _} {d : _} {y : AV} : leT (.ptr a b c d) y = leA (.ptr a b c d) y := rfl
@[go_sem] theorem AV_plain_sl {a : _} {b : _} {c : _} {d : _} : AV.plain (.sl a b c d) = true := rfl
@[go_sem] theorem AV_tree_sl {a : _} {b : _} {c : _} {d : _} : AV.tree (.sl a b c d) = false := rfl
@[go_sem] theorem leA0_sl {a : _} {b : _} {c : _} {d : _} {y : AV} : leA0 (.sl a b c d) y = ((.sl a b c d) = y) := rfl
@[go_sem] theorem leA_sl {a : _} {b : _} {c : _} {d : _} {y : AV} : leA (.sl a b c d) y = leA0 (.sl a b c d) y := rfl
@[go_sem] theorem leT_sl {a : _} {b : _} {c : _} {d : _} {y : AV} : leT (.sl a b c d) y = leA (.sl a b c d) y := rfl
@[go_sem] theorem AV_plain_fn {f : _} {c : _} : AV.plain (.fn f c) = true := rfl
@[go_sem] theorem AV_tree_fn {f : _} {c : _} : AV.tree (.fn f c) = false := rfl
@[go_sem] theorem leA0_fn {f : _} {c : _} {y : AV} : leA0 (.fn f c) y = ((.fn f c) = y) := rfl
@[go_sem] theorem leA_fn {f : _} {c : _} {y : AV} : leA (.fn f c) y = leA0 (.fn f c) y := rfl
@[go_sem] theorem leT_fn {f : _} {c : _} {y : AV} : leT (.fn f c) y = leA (.fn f c) y := rfl
@[go_sem] theorem AV_plain_agg {c : _} : AV.plain (.agg c) = false := rfl
@[go_sem] theorem AV_tree_agg {c : _} : AV.tree (.agg c) = false := rfl
@[go_sem] theorem leA0_agg {c : _} {y : AV} : leA0 (.agg c) y = ((.agg c) = y) := rfl
@[go_sem] theorem leT_agg {c : _} {y : AV} : leT (.agg c) y = leA (.agg c) y := rfl
@[go_sem] theorem AV_plain_tup {c : _} : AV.plain (.tup c) = false := rfl
@[go_sem] theorem AV_tree_tup {c : _} : AV.tree (.tup c) = false := rfl
@[go_sem] theorem leA0_tup {c : _} {y : AV} : leA0 (.tup c) y = ((.tup c) = y) := rfl
@[go_sem] theorem leA_tup {c : _} {y : AV} : leA (.tup c) y = leA0 (.tup c) y := rfl
@[go_sem] theorem AV_plain_gate {e : _} {x : _} : AV.plain (.gate e x) = false := rfl
@[go_sem] theorem AV_tree_gate {e : _} {x : _} : AV.tree (.gate e x) = false := rfl
@[go_sem] theorem leA0_gate {e : _} {x : _} {y : AV} : leA0 (.gate e x) y = ((.gate e x) = y) := rfl
@[go_sem] theorem leA_gate {e : _} {x : _} {y : AV} : leA (.gate e x) y = leA0 (.gate e x) y := rfl
@[go_sem] theorem leT_gate {e : _} {x : _} {y : AV} : leT (.gate e x) y = leA (.gate e x) y := rfl
@[go_sem] theorem leA_aggagg {c d : List AV} : leA (.agg c) (.agg d) = leL c d := rfl
@[go_sem] theorem leT_tuptup {c d : List AV} : leT (.tup c) (.tup d) = leLL c d := rfl
@[go_sem] theorem leA0_oslisl {a b : Nat} {l m : List (List AV)} : leA0 (.osl a l) (.isl b m) = (a = b ∧ l = [] ∧ m = []) := rfl
@[go_sem] theorem leA0_oslosl {a b : Nat} {l m : List (List AV)} : leA0 (.osl a l) (.osl b m) = (AV.osl a l = .osl b m) := rfl
@[go_sem] theorem leA0_nilsisl {b : Nat} {m : List (List AV)} : leA0 .nils (.isl b m) = (m = []) := rfl
@[go_sem] theorem leA0_nilsnils : leA0 .nils .nils = True := by simp [leA0]
@[go_sem] theorem leA0_zslisl {b : Nat} {m : List (List AV)} : leA0 .zsl (.isl b m) = (m = []) := rfl
@[go_sem] theorem leA0_zslzsl : leA0 .zsl .zsl = True := by simp [leA0]

attribute [go_sem low] Way_t Way_f
attribute [go_sem] brkL hasS exF
attribute [go_sem] kOf keys Eff.outIds Lab.down
attribute [go_sem] obsN obsA rowIds Way_tt Way_ff Way_tf Way_ft Chk_false opsGo opRun gd callIn opEff obF evs Op.operands Call.operands opA dstOk evalP wrD obsOf ofV rdOf idsL AV.ids nodesOf St.slot St.obj look Eff.apply grdE enumFrom keepS compact gcO St.keep St.keep0
  slotIds objIds oids Node.ids St.ids
  tkind TKind.agg intBin strBin intsA binA unA zerosA indexA esize indexAddrA fieldOf fieldAddrA fieldA loadA extractA lenA capA appNilA encB byteOfCell decB intOf sliceA convA AV.cellsA okCell isCells fillA placeOf allFields buildA minmaxA
  liveA takeOpt elemsA newA storeA appA unown unownL unownLL AV.ownd owndL owndLL strip cmpb findP apart frzAll 
  finOk leL leLL mutsF resAll resA frzAll frz frzL frz0 roOf isFn frzAllC frzC lnsC lnsL frzBL frzB boxIds boxF roC obsC clearA tupOf callOut thw thw1 thw0 thwL thwT gbAll gb gb0 gbL
end Go.AM
namespace Go.AM
open Go.ChangeShapes Go.WideShapes Go.RowKit

/-- the old world is kept -/
structure Kept (W W' : World) : Prop where
  size : W.heap.size ≤ W'.heap.size
  os : W'.os = W.os
  out : W'.output = W.output
  heap : ∀ b, b < W.heap.size → W'.heap[b]? = W.heap[b]?

theorem Kept.but {W W' : World} (h : Kept W W') (may : MemPlace → Prop) : W.keptBut W' may := by
  refine ⟨h.os, h.out, fun i hi => ?_⟩
  rw [h.heap i hi]
  split
  · rename_i h1 h2
    rw [h1] at h2; cases h2
    exact ⟨rfl, rfl, rfl, fun _ _ => rfl⟩
  · rename_i h1 h2
    rw [h1] at h2; cases h2
    exact .inr ⟨rfl, rfl⟩
  · rfl

theorem Kept.frozen {W W' : World} (h : Kept W W') (a : Addr) (ha : a.block < W.heap.size) : W'.frozen? a = W.frozen? a := by
  unfold World.frozen?
  rw [h.heap _ ha]

/-- a law that answers true -/
theorem law_calls {P : Program} {f : FuncId} {args : List AV} (h : DC P f args (.bool true) []) {w : World} {vals : Array Value} (hl : args.length = vals.toList.length)
    (hv : ∀ (k : Nat) x v, args[k]? = some x → vals.toList[k]? = some v → I w (fun _ => none) x v) :
    Calls P f vals w fun e w' => e = .returned (.bool true) ∧ Kept w w' := by
  refine (h.calls w (fun _ => none) vals.toList hl (fun k x v hx hv' => .imm _ _ _ (hv k x v hx hv')) (by simp)).mono ?_
  rintro e w' ⟨v, lab', rfl, hr, _, hext, _⟩
  have : v = .bool true := by
    cases hr with
    | imm _ _ _ hi => exact hi.inv_bool
  subst this
  exact ⟨rfl, hext.size, hext.os, hext.out, fun b hb => (hext.kept b hb trivial).2⟩

section
variable {H : Type} {enc : TypeId × Value → H} {P : Program}

theorem post_same {f : Func} {s : ChangeSpec} {apart fresh handsOn again : Bool} {W W' : World} {args : Array Value} {v : Value} {ds gs : List (DataW H)} {before pa pv : List MemPlace}
    (hW : DataW.Whole enc P f.params.toList s.vars apart W args.toList ds gs before)
    (hres : ∀ (b : Nat) (sp : Nat → Bool) (hd : Bool), DataW.TrodAll enc P W' b sp hd f.resultTypes.toList (v.resultList f.resultTypes.size) (s.fn H (ds ++ gs)).results [])
    (hargs : ∀ sp : Nat → Bool, (∀ p ∈ before, sp p.block = true) → DataW.TrodAll enc P W' 0 sp true f.params.toList args.toList (s.fn H (ds ++ gs)).args pa)
    (hvars : ∀ sp : Nat → Bool, (∀ p ∈ before, sp p.block = true) → DataW.TrodVars enc P W' sp s.vars (s.fn H (ds ++ gs)).vars pv)
    (hps : before = pa ++ pv) (hk : Kept W W')
    (hok : ∀ (j : Nat) (t : TypeId) (r : Value), f.resultTypes[j]? = some t → (v.resultList f.resultTypes.size)[j]? = some r → Value.okWide P W' .any 0 t r) :
    s.post enc P f apart fresh handsOn again W args v W' := by
  have hold : ∀ p ∈ before, (fun b => decide (b < W.heap.size)) p.block = true := fun p hp => by simpa using hW.lt p hp
  have hlt := hW.lt
  refine ⟨ds, gs, before, [], pa, pv, hW, hres _ _ _, hargs _ hold, hvars _ hold, hk.but _, fun _ => ?_⟩
  obtain ⟨_, _, _, _, _, hz, hn⟩ := hW
  refine ⟨hok, _, _, ([] ++ pa) ++ pv, ⟨[] ++ pa, pv, trodAll_append (hargs _ (fun _ _ => rfl)) (hres _ _ _), hvars _ (fun _ _ => rfl), rfl, ?_, ?_⟩, ?_⟩
  · intro b off hp
    have hp' : MemPlace.cell b off ∈ before := by rw [hps]; simpa using hp
    rw [hk.frozen ⟨b, off, none⟩ (hlt _ hp')]
    exact hz b off hp'
  · intro ha
    have := hn ha
    rw [hps] at this
    simpa using this
  · intro p hp _
    rw [hps]
    simpa using hp
end

theorem I.ofString {w : World} {lab : Labs} (a : ByteArray) : I w lab (.str a.data.toList) (.string a) := by
  have := I.str (w := w) (lab := lab) a.data.toList
  simpa using this

end Go.AM
namespace Go.AM

section
variable {P : Program} {st : St} {K : Exit → St → Prop}

theorem AW.ghost {c : Code} {st' : St} (hg : ∀ w0 lab0 a w, Rep w0 lab0 st a w → Rep w0 lab0 st' a w) (h : AW P c st' K) : AW P c st K :=
  ⟨fun w0 lab0 a w hR => h.go w0 lab0 a w (hg _ _ _ _ hR)⟩

def labT (lab : Labs) (id i j id' : Nat) : Labs := fun b => match lab b with
  | some (.obj k, p :: q) => if k = id ∧ p = (i, j) then some (.obj id', q) else some (.obj k, p :: q)
  | l => l

theorem labT_hit {lab : Labs} {id i j id' b : Nat} {q : List (Nat × Nat)} (h : lab b = some (.obj id, (i, j) :: q)) : labT lab id i j id' b = some (.obj id', q) := by simp [labT, h]
theorem labT_miss {lab : Labs} {id i j id' b : Nat} (h : ∀ q, lab b ≠ some (.obj id, (i, j) :: q)) : labT lab id i j id' b = lab b := by
  unfold labT
  split
  · rename_i k p q hb
    split
    · rename_i hk
      obtain ⟨rfl, rfl⟩ := hk
      exact absurd hb (h q)
    · rw [hb]
  · rfl

theorem set_get {α : Type} {l : List α} {i k : Nat} {x y : α} (h : (l.set i x)[k]? = some y) : (k = i ∧ y = x ∧ i < l.length) ∨ (k ≠ i ∧ l[k]? = some y) := by
  rw [List.getElem?_set] at h
  split at h
  · rename_i e
    split at h
    · cases h; exact Or.inl ⟨e.symm, rfl, by assumption⟩
    · cases h
  · rename_i e; exact Or.inr ⟨fun h => e h.symm, h⟩

theorem Rep.thaw {w0 : World} {lab0 : Labs} {a : Act} {w : World} (h : Rep w0 lab0 st a w) {id i j id' es : Nat} {nd : Node} {c : List AV} {l : List (List AV)} (h1 : st.obj id = some nd) (h2 : nd.l[i]? = some c)
    (h3 : c[j]? = some (.osl es l)) (h4 : st.obj id' = none) (h5 : id' ∉ st.ids) :
    Rep w0 lab0 ⟨st.n, st.slots, (id', some ⟨es, l⟩) :: (id, some ⟨nd.es, nd.l.set i (c.set j (.sl id' es 0 l.length))⟩) :: st.objs⟩ a w := by
  obtain ⟨lab, loc, hR⟩ := h
  obtain ⟨b, base, hl, ho⟩ := hR.objs id nd h1
  obtain ⟨v, hv, hc⟩ := ho.cells i c j _ h2 h3
  have hne : id ≠ id' := by rintro rfl; rw [h1] at h4; cases h4
  have hT : T w lab (.obj id, [(i, j)]) (.osl es l) v := by
    rcases hc with hc | hc
    · cases hc with | imm _ _ h => cases h
    · exact hc
  obtain ⟨b2, base2, cap, rfl, hcap, hblk, hN⟩ := NodeAt.osl hT
  have hlab : lab b = some (.obj id, []) := ho.hlab
  refine ⟨labT lab id i j id', fun k => if k = id' then some (b2, base2) else loc k, ?_⟩
  have hloc : ∀ k, k ∈ st.ids → (if k = id' then some (b2, base2) else loc k) = loc k := fun k hk => by rw [if_neg]; rintro rfl; exact h5 hk
  have hstill : ∀ b, still (lab b) → labT lab id i j id' b = lab b := fun b hs => labT_miss fun q hq => by rw [hq] at hs; exact hs.elim
  have hext : Ext lab w (labT lab id i j id') w := ⟨Nat.le_refl _, rfl, rfl, fun b _ hs => ⟨hstill b hs, rfl⟩, fun _ _ h => h⟩
  have := RepL.step (lab' := labT lab id i j id') (loc' := fun k => if k = id' then some (b2, base2) else loc k) hR
    { up := [(id', some ⟨es, l⟩), (id, some ⟨nd.es, nd.l.set i (c.set j (.sl id' es 0 l.length))⟩)] } (a' := a) (w' := w) rfl hR.defers hext (fun _ _ => rfl) (by intro s x hx; cases hx) ?_ ?_ ?_ ?_ ?_
  · exact this
  · intro k nk bk basek hk hu hlk
    simp only [look] at hu
    split at hu <;> first | (cases hu; done) | skip
    rename_i hk1
    split at hu <;> first | (cases hu; done) | skip
    rename_i hk2
    refine ⟨by rw [if_neg hk1]; exact hlk, fun b' q _ hb' => ⟨labT_miss fun q' hq' => ?_, rfl⟩⟩
    rw [hb'] at hq'; simp at hq'; exact hk2 hq'.1
  · intro k nk hk
    simp only [look] at hk
    split at hk
    · rename_i e; subst e
      simp at hk; subst hk
      refine ⟨b2, base2, by simp, labT_hit hN.hlab, hN.blk, hN.es, ?_⟩
      intro i2 c2 j2 x hi hj
      obtain ⟨v, hv, hx⟩ := hN.cells i2 c2 j2 x hi hj
      refine ⟨v, hv, Or.inr (hx.move (fun b _ hb => ⟨by rw [hstill b (by rw [hb]; trivial)]; exact hb, rfl⟩) ?_ (Nat.le_refl _))⟩
      intro b' q _ hq
      exact ⟨labT_hit (by rw [hq]; rfl), rfl⟩
    · split at hk <;> first | (cases hk; done) | skip
      rename_i hk1 e; subst e
      simp at hk; subst hk
      refine ⟨b, base, by simp only [if_neg hk1]; exact hl, by rw [labT_miss (by rw [hlab]; simp)]; exact hlab, by simpa using ho.blk, ?_, ?_⟩
      · intro x hx
        rcases List.mem_or_eq_of_mem_set hx with hx | rfl
        · exact ho.es x hx
        · rw [List.length_set]; exact ho.es c (List.mem_of_getElem? h2)
      · intro i2 c2 j2 x hi hj
        have hold : ∀ (c3 : List AV), nd.l[i2]? = some c3 → c3[j2]? = some x → (i2, j2) ≠ (i, j) → ∃ v, w.cell? ⟨b, base + i2 * nd.es + j2, none⟩ = some v ∧ Cell w (labT lab k i j id') (fun k => if k = id' then some (b2, base2) else loc k) (.obj k, [(i2, j2)]) x v := by
          intro c3 hi hj hne2
          obtain ⟨v, hv, hx⟩ := ho.cells i2 c3 j2 x hi hj
          refine ⟨v, hv, ?_⟩
          rcases hx with hx | hx
          · exact Or.inl (hx.mono (fun b _ hb => ⟨by rw [hstill b (by rw [hb]; trivial)]; exact hb, rfl⟩) (Nat.le_refl _) fun m hm bb bs hb => ⟨by rw [hloc m (ids_of_obj h1 (ids_of_cell hi hj hm))] at hb; exact hb, fun _ h => h⟩)
          · refine Or.inr (hx.move (fun b _ hb => ⟨by rw [hstill b (by rw [hb]; trivial)]; exact hb, rfl⟩) ?_ (Nat.le_refl _))
            intro b' q _ hq
            refine ⟨?_, rfl⟩
            rw [labT_miss, hq]
            intro q' hq'; rw [hq] at hq'; simp only [Lab.app, List.cons_append, List.nil_append, Option.some.injEq, Prod.mk.injEq, List.cons.injEq] at hq'
            exact hne2 (Prod.ext hq'.2.1.1 hq'.2.1.2)
        rcases set_get hi with ⟨rfl, rfl, hlt⟩ | ⟨hne2, hi⟩
        · rcases set_get hj with ⟨rfl, rfl, hlt⟩ | ⟨hne3, hj⟩
          · refine ⟨_, hv, Or.inl (.sl _ _ _ _ _ fun b' base' hb => ?_)⟩
            simp at hb
            obtain ⟨rfl, rfl⟩ := hb
            exact ⟨_, cap, rfl, hcap, Or.inr (by simp), by simpa using hblk⟩
          · exact hold c h2 hj (by intro e; cases e; exact hne3 rfl)
        · exact hold c2 hi hj (by intro e; cases e; exact hne2 rfl)
  · intro k hk
    have hk' : k ≠ id' ∧ st.obj k = none := by
      rcases hk with hk | ⟨hk, h0⟩
      · simp only [look] at hk
        split at hk <;> first | (cases hk; done) | skip
        split at hk <;> cases hk
      · simp only [look] at hk
        split at hk <;> first | (cases hk; done) | skip
        exact ⟨by assumption, h0⟩
    simp only [if_neg hk'.1]
    exact hR.dead k hk'.2
  · intro b' hb'
    apply hR.fresh
    intro e; apply hb'
    simp [labT, e]
  · intro k hk bk basek hb
    rw [hloc k hk] at hb; exact hb

theorem AW.thaw {code : Code} (id i j id' : Nat) {es : Nat} {nd : Node} {c : List AV} {l : List (List AV)} (h1 : st.obj id = some nd) (h2 : nd.l[i]? = some c)
    (h3 : c[j]? = some (.osl es l)) (h45 : st.obj id' = none ∧ id' ∉ st.ids) (h : AW P code ⟨st.n, st.slots, (id', some ⟨es, l⟩) :: (id, some ⟨nd.es, nd.l.set i (c.set j (.sl id' es 0 l.length))⟩) :: st.objs⟩ K) : AW P code st K :=
  AW.ghost (fun _ _ _ _ hR => hR.thaw h1 h2 h3 h45.1 h45.2) h

def labFo (lab : Labs) (id i j id' : Nat) : Labs := fun b => match lab b with
  | some (.obj k, q) => if k = id' then some (.obj id, (i, j) :: q) else some (.obj k, q)
  | l => l

theorem labFo_hit {lab : Labs} {id i j id' b : Nat} {q : List (Nat × Nat)} (h : lab b = some (.obj id', q)) : labFo lab id i j id' b = some (.obj id, (i, j) :: q) := by simp [labFo, h]
theorem labFo_miss {lab : Labs} {id i j id' b : Nat} (h : ∀ q, lab b ≠ some (.obj id', q)) : labFo lab id i j id' b = lab b := by
  unfold labFo
  split
  · rename_i k q hb
    split
    · rename_i hk
      subst hk
      exact absurd hb (h q)
    · rw [hb]
  · rfl

theorem Rep.fold {w0 : World} {lab0 : Labs} {a : Act} {w : World} (h : Rep w0 lab0 st a w) {id i j id' es : Nat} {nd : Node} {c : List AV} {l : List (List AV)} (h1 : st.obj id = some nd) (h2 : nd.l[i]? = some c)
    (h3 : c[j]? = some (.sl id' es 0 l.length)) (h4 : st.obj id' = some ⟨es, l⟩) (h5 : id ≠ id') (h6 : ∀ c ∈ l, ∀ x ∈ c, AV.tree x = true) :
    Rep w0 lab0 ⟨st.n, st.slots, (id', none) :: (id, some ⟨nd.es, nd.l.set i (c.set j (.osl es l))⟩) :: st.objs⟩ a w := by
  obtain ⟨lab, loc, hR⟩ := h
  obtain ⟨b, base, hl, ho⟩ := hR.objs id nd h1
  obtain ⟨b2, base2, hl2, ho2⟩ := hR.objs id' _ h4
  obtain ⟨v, hv, hc⟩ := ho.cells i c j _ h2 h3
  have hV : V w lab loc (.sl id' es 0 l.length) v := by
    rcases hc with hc | hc
    · exact hc
    · cases hc with | imm _ _ _ h => cases h
  obtain ⟨a0, cap, rfl, hcap, ha, hblk⟩ := hV.inv_sl hl2
  have ha : a0 = ⟨b2, base2, none⟩ := by rcases ha with h | h; omega; simpa using h
  subst ha
  have hlab : lab b = some (.obj id, []) := ho.hlab
  have hstill : ∀ b, still (lab b) → labFo lab id i j id' b = lab b := fun b hs => labFo_miss fun q hq => by rw [hq] at hs; exact hs.elim
  have himm : ∀ b, b < w.heap.size → lab b = none → labFo lab id i j id' b = none ∧ w.heap[b]? = w.heap[b]? := fun b _ hb => ⟨by rw [hstill b (by rw [hb]; trivial)]; exact hb, rfl⟩
  have hloc : ∀ k bb, (if k = id' then none else loc k) = some bb → loc k = some bb := fun k bb hb => by split at hb; cases hb; exact hb
  have hext : Ext lab w (labFo lab id i j id') w := ⟨Nat.le_refl _, rfl, rfl, fun b _ hs => ⟨hstill b hs, rfl⟩, fun _ _ h => h⟩
  refine ⟨labFo lab id i j id', fun k => if k = id' then none else loc k, ?_⟩
  have := RepL.step (lab' := labFo lab id i j id') (loc' := fun k => if k = id' then none else loc k) hR
    { up := [(id', none), (id, some ⟨nd.es, nd.l.set i (c.set j (.osl es l))⟩)] } (a' := a) (w' := w) rfl hR.defers hext (fun _ _ => rfl) (by intro s x hx; cases hx) ?_ ?_ ?_ ?_ ?_
  · exact this
  · intro k nk bk basek hk hu hlk
    simp only [look] at hu
    split at hu <;> first | (cases hu; done) | skip
    rename_i hk1
    split at hu <;> first | (cases hu; done) | skip
    rename_i hk2
    refine ⟨by rw [if_neg hk1]; exact hlk, fun b' q _ hb' => ⟨labFo_miss fun q' hq' => ?_, rfl⟩⟩
    rw [hb'] at hq'; simp at hq'; exact hk1 hq'.1
  · intro k nk hk
    simp only [look] at hk
    split at hk
    · simp at hk
    · split at hk <;> first | (cases hk; done) | skip
      rename_i hk1 e; subst e
      simp at hk; subst hk
      refine ⟨b, base, by simp only [if_neg hk1]; exact hl, by rw [labFo_miss (by rw [hlab]; simp; exact fun h => absurd h hk1)]; exact hlab, by simpa using ho.blk, ?_, ?_⟩
      · intro x hx
        rcases List.mem_or_eq_of_mem_set hx with hx | rfl
        · exact ho.es x hx
        · rw [List.length_set]; exact ho.es c (List.mem_of_getElem? h2)
      · intro i2 c2 j2 x hi hj
        have hold : ∀ (c3 : List AV), nd.l[i2]? = some c3 → c3[j2]? = some x → ∃ v, w.cell? ⟨b, base + i2 * nd.es + j2, none⟩ = some v ∧ Cell w (labFo lab k i j id') (fun k => if k = id' then none else loc k) (.obj k, [(i2, j2)]) x v := by
          intro c3 hi hj
          obtain ⟨v, hv, hx⟩ := ho.cells i2 c3 j2 x hi hj
          refine ⟨v, hv, ?_⟩
          rcases hx with hx | hx
          · exact Or.inl (hx.mono himm (Nat.le_refl _) fun m hm bb bs hb => ⟨hloc m _ hb, fun _ h => h⟩)
          · refine Or.inr (hx.move himm ?_ (Nat.le_refl _))
            intro b' q _ hq
            refine ⟨?_, rfl⟩
            rw [labFo_miss, hq]
            intro q' hq'; rw [hq] at hq'; simp only [Lab.app, Option.some.injEq, Prod.mk.injEq, Root.obj.injEq] at hq'
            exact hk1 hq'.1
        rcases set_get hi with ⟨rfl, rfl, hlt⟩ | ⟨hne2, hi⟩
        · rcases set_get hj with ⟨rfl, rfl, hlt⟩ | ⟨hne3, hj⟩
          · refine ⟨_, hv, Or.inr ?_⟩
            have hcl := ho2.cells
            have hch : ∃ vals : Nat → Nat → Value, ∀ i c j x, l[i]? = some c → c[j]? = some x → w.cell? ⟨b2, base2 + i * es + j, none⟩ = some (vals i j) ∧ Cell w lab loc (.obj id', [(i, j)]) x (vals i j) := by
              refine ⟨fun i j => (w.cell? ⟨b2, base2 + i * es + j, none⟩).getD undef, ?_⟩
              intro i c j x hi hj
              obtain ⟨v, hv, hx⟩ := hcl i c j x hi hj
              simp only at hv
              exact ⟨by simp only [hv, Option.getD_some], by simp only [hv, Option.getD_some]; exact hx⟩
            obtain ⟨vals, hvals⟩ := hch
            have hlen : ∀ i, i < l.length → ∃ c, l[i]? = some c ∧ c.length = es := fun i hi => ⟨l[i], List.getElem?_eq_getElem hi, ho2.es _ (List.getElem_mem hi)⟩
            refine .osl _ es l b2 base2 cap vals (labFo_hit ho2.hlab) (by simpa using hblk) hcap ho2.es h6 ?_ ?_
            · intro i3 j3 hi3 hj3
              obtain ⟨c3, h7, h8⟩ := hlen i3 hi3
              exact (hvals i3 c3 j3 _ h7 (List.getElem?_eq_getElem (by omega))).1
            · intro i3 c3 j3 x3 h7 h8
              have h9 := ((hvals i3 c3 j3 x3 h7 h8).2).tree (h6 c3 (List.mem_of_getElem? h7) x3 (List.mem_of_getElem? h8))
              refine h9.move himm ?_ (Nat.le_refl _)
              intro b' q _ hq
              exact ⟨by rw [labFo_hit hq]; simp [Lab.app, Lab.down], rfl⟩
          · exact hold c h2 hj
        · exact hold c2 hi hj
  · intro k hk
    by_cases e : k = id'
    · simp only [if_pos e]
    · simp only [if_neg e]
      rcases hk with hk | ⟨hk, h0⟩
      · simp only [look, if_neg e] at hk
        split at hk <;> cases hk
      · exact hR.dead k h0
  · intro b' hb'
    apply hR.fresh
    intro e; apply hb'
    simp [labFo, e]
  · intro k hk bk basek hb
    exact hloc k _ hb

theorem AW.fold {code : Code} (id i j id' : Nat) {es n : Nat} {nd : Node} {c : List AV} {l : List (List AV)} (h1 : st.obj id = some nd) (h2 : nd.l[i]? = some c)
    (h4 : st.obj id' = some ⟨es, l⟩) (h3 : c[j]? = some (.sl id' es 0 n)) (hn : n = l.length) (h5 : id ≠ id') (h6 : ∀ c ∈ l, ∀ x ∈ c, AV.tree x = true)
    (h : AW P code ⟨st.n, st.slots, (id', none) :: (id, some ⟨nd.es, nd.l.set i (c.set j (.osl es l))⟩) :: st.objs⟩ K) : AW P code st K :=
  AW.ghost (fun _ _ _ _ hR => hR.fold h1 h2 (by rw [h3, hn]) h4 h5 h6) h

/-! another id -/
mutual
def AV.ren (a b : Nat) : AV → AV
  | .ptr id es i j => .ptr (if id = a then b else id) es i j
  | .sl id es i n => .sl (if id = a then b else id) es i n
  | .fn f cs => .fn f (renL a b cs)
  | .agg cs => .agg (renL a b cs)
  | .tup cs => .tup (renL a b cs)
  | .gate e x => .gate e (x.ren a b)
  | .undef => .undef
  | .bool x => .bool x
  | .int k n => .int k n
  | .str s => .str s
  | .nilp => .nilp
  | .nils => .nils
  | .zsl => .zsl
  | .nel => .nel
  | .lns n => .lns n
  | .any => .any
  | .val v => .val v
  | .isl es l => .isl es l
  | .osl es l => .osl es l
  | .ip l => .ip l
  | .op l => .op l
def renL (a b : Nat) : List AV → List AV
  | [] => []
  | x :: xs => x.ren a b :: renL a b xs
end

theorem renL_eq (a b : Nat) (l : List AV) : renL a b l = l.map (AV.ren a b) := by induction l with | nil => rfl | cons x l ih => simp [renL, ih]

theorem I.ren {w : World} {lab : Labs} {x : AV} {v : Value} (h : I w lab x v) (a b : Nat) : x.ren a b = x := by
  have key : ∀ (cs : List AV) (vs : List Value), cs.length = vs.length → (∀ (j : Nat) x y, cs[j]? = some x → vs[j]? = some y → x.ren a b = x) → renL a b cs = cs := by
    intro cs vs hl ih
    rw [renL_eq]
    apply List.ext_getElem?
    intro j
    rw [List.getElem?_map]
    cases hj : cs[j]? with
    | none => rfl
    | some x =>
      have : j < vs.length := by rw [← hl]; exact (List.getElem?_eq_some_iff.1 hj).1
      simp [ih j x _ hj (List.getElem?_eq_getElem this)]
  induction h with
  | fn f cs vs hl _ ih => simp only [AV.ren]; rw [key cs vs hl ih]
  | agg cs vs hl _ ih => simp only [AV.ren]; rw [key cs vs hl ih]
  | tup cs vs hl _ ih => simp only [AV.ren]; rw [key cs vs hl ih]
  | _ => rfl

theorem V.ren {w : World} {lab lab' : Labs} {loc : Locs} {x : AV} {v : Value} (h : V w lab loc x v) {a b : Nat} (hlab : ∀ c, c < w.heap.size → lab c = none → lab' c = none) (hb : b ∉ x.ids) :
    V w lab' (fun k => if k = b then loc a else if k = a then none else loc k) (x.ren a b) v := by
  have key : ∀ id, id ≠ b → ∀ p, (if (if id = a then b else id) = b then loc a else if (if id = a then b else id) = a then none else loc (if id = a then b else id)) = some p → loc id = some p := by
    intro id hid p hp
    by_cases e : id = a
    · subst e; simpa using hp
    · simpa [e, hid] using hp
  have sub : ∀ (cs : List AV) (vs : List Value), cs.length = vs.length → b ∉ idsL cs → (∀ (j : Nat) x y, cs[j]? = some x → vs[j]? = some y → b ∉ x.ids → V w lab' (fun k => if k = b then loc a else if k = a then none else loc k) (x.ren a b) y) →
      (renL a b cs).length = vs.length ∧ ∀ (j : Nat) x y, (renL a b cs)[j]? = some x → vs[j]? = some y → V w lab' (fun k => if k = b then loc a else if k = a then none else loc k) x y := by
    intro cs vs hl hnb ih
    rw [renL_eq]
    refine ⟨by simp [hl], ?_⟩
    intro j x y hx hy
    rw [List.getElem?_map] at hx
    cases hj : cs[j]? with
    | none => rw [hj] at hx; cases hx
    | some z =>
      rw [hj] at hx; cases hx
      exact ih j z y hj hy fun h => hnb (mem_idsL (List.mem_of_getElem? hj) h)
  induction h with
  | imm x v h => rw [h.ren]; exact .imm _ _ (h.mono (fun c hc hl => ⟨hlab c hc hl, rfl⟩) (Nat.le_refl _))
  | undef v => exact .undef v
  | ptr id es i j v h =>
    simp only [AV.ids, List.mem_singleton] at hb
    exact .ptr _ _ _ _ _ fun bb base hh => h bb base (key id (fun e => hb e.symm) _ hh)
  | sl id es i len v h =>
    simp only [AV.ids, List.mem_singleton] at hb
    exact .sl _ _ _ _ _ fun bb base hh => h bb base (key id (fun e => hb e.symm) _ hh)
  | fn f cs vs hl _ ih =>
    obtain ⟨h1, h2⟩ := sub cs vs hl (by simpa [AV.ids] using hb) ih
    exact .fn f _ vs h1 h2
  | agg cs vs hl _ ih =>
    obtain ⟨h1, h2⟩ := sub cs vs hl (by simpa [AV.ids] using hb) ih
    exact .agg _ vs h1 h2
  | tup cs vs hl _ ih =>
    obtain ⟨h1, h2⟩ := sub cs vs hl (by simpa [AV.ids] using hb) ih
    exact .tup _ vs h1 h2
  | gate e x v _ ih => exact .gate e _ v fun he => ih he (by simpa [AV.ids] using hb)

def renS (a b : Nat) (l : List (Nat × AV)) : List (Nat × AV) := l.map fun p => (p.1, p.2.ren a b)

theorem look_renS {a b s : Nat} : ∀ {l : List (Nat × AV)}, look s (renS a b l) = (look s l).map (AV.ren a b) := by
  intro l
  induction l with
  | nil => rfl
  | cons p l ih =>
    simp only [renS, List.map_cons, look]
    split
    · rfl
    · exact ih

theorem Rep.rename {w0 : World} {lab0 : Labs} {ac : Act} {w : World} (h : Rep w0 lab0 st ac w) {a b : Nat} {nd : Node} (h1 : st.obj a = some nd) (h2 : st.obj b = none) (h3 : b ∉ st.ids) (h4 : a ∉ objIds st.objs) :
    Rep w0 lab0 ⟨st.n, renS a b st.slots, (b, some nd) :: (a, none) :: st.objs⟩ ac w := by
  obtain ⟨lab, loc, hR⟩ := h
  obtain ⟨bk, base, hl, ho⟩ := hR.objs a nd h1
  have hne : a ≠ b := by rintro rfl; rw [h1] at h2; cases h2
  have hstill : ∀ c, still (lab c) → labR lab a b c = lab c := fun c hs => labR_still hs
  have himm : ∀ c, c < w.heap.size → lab c = none → labR lab a b c = none ∧ w.heap[c]? = w.heap[c]? := fun c _ hc => ⟨labR_none hc, rfl⟩
  have hext : Ext lab w (labR lab a b) w := ⟨Nat.le_refl _, rfl, rfl, fun c _ hs => ⟨hstill c hs, rfl⟩, fun _ _ h => h⟩
  have hlocO : ∀ k, k ∈ objIds st.objs → ∀ bb, (if k = b then loc a else if k = a then none else loc k) = some bb → loc k = some bb := by
    intro k hk bb hb
    have hkb : k ≠ b := by rintro rfl; exact h3 (by simp only [St.ids, List.mem_append]; exact Or.inr hk)
    have hka : k ≠ a := by rintro rfl; exact h4 hk
    rw [if_neg hkb, if_neg hka] at hb; exact hb
  have hidO : ∀ {k : Nat} {nk : Node} {m : Nat}, st.obj k = some nk → m ∈ nk.ids → m ∈ objIds st.objs := by
    intro k nk m hk hm
    simp only [objIds, List.mem_flatMap]
    exact ⟨(k, some nk), look_mem (obj_look hk), hm⟩
  refine ⟨labR lab a b, fun k => if k = b then loc a else if k = a then none else loc k, hR.size, hR.defers, ?_, ?_, ?_, ?_, hR.ext.trans hext⟩
  · intro s x hx
    simp only [St.slot] at hx
    rw [look_renS] at hx
    cases hy : look s st.slots with
    | none => rw [hy] at hx; cases hx
    | some y =>
      rw [hy] at hx; cases hx
      exact (hR.slots s y hy).ren (fun c hc hl => labR_none hl) (fun hm => h3 (ids_of_slot (st := st) (s := s) hy hm))
  · intro k nk hk
    simp only [St.obj, look] at hk
    split at hk
    · rename_i e; subst e
      simp at hk; subst hk
      refine ⟨bk, base, by simp [hl], labR_same ho.hlab, ho.blk, ho.es, ?_⟩
      intro i c j x hi hj
      obtain ⟨v, hv, hx⟩ := ho.cells i c j x hi hj
      refine ⟨v, hv, ?_⟩
      rcases hx with hx | hx
      · exact Or.inl (hx.mono himm (Nat.le_refl _) fun m hm bb bs hb => ⟨hlocO m (hidO h1 (ids_of_cell hi hj hm)) _ hb, fun _ h => h⟩)
      · refine Or.inr (hx.move himm ?_ (Nat.le_refl _))
        intro b' q _ hq
        exact ⟨labR_same hq, rfl⟩
    · rename_i hkb
      split at hk
      · simp at hk
      · rename_i hka
        have hk' : st.obj k = some nk := hk
        obtain ⟨b2, base2, hl2, ho2⟩ := hR.objs k nk hk'
        refine ⟨b2, base2, by simp only [if_neg hkb, if_neg hka]; exact hl2, by rw [labR_other ho2.hlab hka]; exact ho2.hlab, ho2.blk, ho2.es, ?_⟩
        intro i c j x hi hj
        obtain ⟨v, hv, hx⟩ := ho2.cells i c j x hi hj
        refine ⟨v, hv, ?_⟩
        rcases hx with hx | hx
        · exact Or.inl (hx.mono himm (Nat.le_refl _) fun m hm bb bs hb => ⟨hlocO m (hidO hk' (ids_of_cell hi hj hm)) _ hb, fun _ h => h⟩)
        · refine Or.inr (hx.move himm ?_ (Nat.le_refl _))
          intro b' q _ hq
          exact ⟨by rw [labR_other hq hka]; exact hq, rfl⟩
  · intro k hk
    simp only [St.obj, look] at hk
    split at hk
    · simp at hk
    · rename_i hkb
      simp only [if_neg hkb]
      split at hk
      · rename_i hka; simp only [if_pos hka]
      · rename_i hka; simp only [if_neg hka]; exact hR.dead k hk
  · intro c hc
    exact hR.fresh c (labR_ne hc)

theorem AW.rename {code : Code} (a b : Nat) {nd : Node} (h1 : st.obj a = some nd) (h2 : st.obj b = none ∧ b ∉ st.ids) (h4 : a ∉ objIds st.objs)
    (h : AW P code ⟨st.n, renS a b st.slots, (b, some nd) :: (a, none) :: st.objs⟩ K) : AW P code st K :=
  AW.ghost (fun _ _ _ _ hR => hR.rename h1 h2.1 h2.2 h4) h

/-! saying less of a slot, of a cell -/
theorem Rep.slotLe {w0 : World} {lab0 : Labs} {ac : Act} {w : World} (h : Rep w0 lab0 st ac w) {s : Nat} {x y : AV} (h1 : st.slot s = some x) (h2 : leA x y) : Rep w0 lab0 ⟨st.n, (s, y) :: st.slots, st.objs⟩ ac w := by
  obtain ⟨lab, loc, hR⟩ := h
  refine ⟨lab, loc, hR.size, hR.defers, ?_, hR.objs, hR.dead, hR.fresh, hR.ext⟩
  intro s' z hz
  simp only [St.slot, look] at hz
  split at hz
  · rename_i e; subst e; cases hz; exact (hR.slots _ _ h1).le h2
  · exact hR.slots s' z hz

theorem AW.slotLe {code : Code} (s : Nat) {x : AV} (y : AV) (h1 : st.slot s = some x) (h2 : leA x y) (h : AW P code ⟨st.n, (s, y) :: st.slots, st.objs⟩ K) : AW P code st K :=
  AW.ghost (fun _ _ _ _ hR => hR.slotLe h1 h2) h

theorem Rep.cellLe {w0 : World} {lab0 : Labs} {ac : Act} {w : World} (h : Rep w0 lab0 st ac w) {id i j : Nat} {nd : Node} {c : List AV} {x y : AV} (h1 : st.obj id = some nd) (h2 : nd.l[i]? = some c) (h3 : c[j]? = some x) (h4 : leA0 x y) :
    Rep w0 lab0 ⟨st.n, st.slots, (id, some ⟨nd.es, nd.l.set i (c.set j y)⟩) :: st.objs⟩ ac w := by
  obtain ⟨lab, loc, hR⟩ := h
  refine ⟨lab, loc, hR.size, hR.defers, hR.slots, ?_, ?_, hR.fresh, hR.ext⟩
  · intro k nk hk
    simp only [St.obj, look] at hk
    split at hk
    · rename_i e; subst e
      simp at hk; subst hk
      obtain ⟨b, base, hl, ho⟩ := hR.objs k nd h1
      refine ⟨b, base, hl, ho.hlab, by simpa using ho.blk, ?_, ?_⟩
      · intro z hz
        rcases List.mem_or_eq_of_mem_set hz with hz | rfl
        · exact ho.es z hz
        · rw [List.length_set]; exact ho.es c (List.mem_of_getElem? h2)
      · intro i2 c2 j2 z hi hj
        rcases set_get hi with ⟨rfl, rfl, hlt⟩ | ⟨hne2, hi⟩
        · rcases set_get hj with ⟨rfl, rfl, hlt⟩ | ⟨hne3, hj⟩
          · obtain ⟨v, hv, hx⟩ := ho.cells i2 c j2 x h2 h3
            exact ⟨v, hv, hx.imp (fun h => h.le0 h4) (fun h => h.le0 h4)⟩
          · exact ho.cells i2 c j2 z h2 hj
        · exact ho.cells i2 c2 j2 z hi hj
    · exact hR.objs k nk hk
  · intro k hk
    simp only [St.obj, look] at hk
    split at hk
    · simp at hk
    · exact hR.dead k hk

theorem AW.cellLe {code : Code} (id i j : Nat) {nd : Node} {c : List AV} {x : AV} (y : AV) (h1 : st.obj id = some nd) (h2 : nd.l[i]? = some c) (h3 : c[j]? = some x) (h4 : leA0 x y)
    (h : AW P code ⟨st.n, st.slots, (id, some ⟨nd.es, nd.l.set i (c.set j y)⟩) :: st.objs⟩ K) : AW P code st K :=
  AW.ghost (fun _ _ _ _ hR => hR.cellLe h1 h2 h3 h4) h
theorem node_here {es i : Nat} {l : List (List AV)} {c : List AV} (h : i < l.length) : (⟨es, l.set i c⟩ : Node).l[i]? = some c := List.getElem?_set_self h
theorem AW.tidy {code : Code} (ks : List Nat) {st' : St} (h : st.keep ks = st') (hk : AW P code st' K) : AW P code st K := by
  subst h; exact AW.less (less_keep ks st) hk
end
end Go.AM
