/- The abstract machine, part 25: an object that nobody writes into any more is only read. -/
import Derived.Test.YtefkpiameojpoaaAm24
set_option linter.unusedVariables false
set_option linter.unusedSimpArgs false
namespace Go.AM

def labFz (lab : Labs) (id : Nat) : Labs := fun b => match lab b with
  | some (.obj k, p) => if k = id then none else some (.obj k, p)
  | l => l
theorem labFz_hit {lab : Labs} {id b : Nat} {q : List (Nat × Nat)} (h : lab b = some (.obj id, q)) : labFz lab id b = none := by simp [labFz, h]
theorem labFz_none {lab : Labs} {id b : Nat} (h : lab b = none) : labFz lab id b = none := by simp [labFz, h]
theorem labFz_other {lab : Labs} {id k b : Nat} {q : List (Nat × Nat)} (h : lab b = some (.obj k, q)) (hk : k ≠ id) : labFz lab id b = some (.obj k, q) := by simp [labFz, h, hk]
theorem labFz_still {lab : Labs} {id b : Nat} (h : still (lab b)) : labFz lab id b = lab b := by
  unfold labFz
  split
  · rename_i h2; rw [h2] at h; exact h.elim
  · rfl
theorem labFz_live {lab : Labs} {id b : Nat} (h : labFz lab id b ≠ none) : lab b ≠ none := by
  intro e; exact h (labFz_none e)

section
variable {P : Program} {st : St} {K : Exit → St → Prop}

theorem RepL.freeze {w0 : World} {lab0 : Labs} {a : Act} {w : World} {lab : Labs} {loc : Locs} {s id es i len : Nat} {nd : Node} (hR : RepL w0 lab0 st a w lab loc) (h1 : st.obj id = some nd) (h2 : st.slot s = some (.sl id es i len))
    (hes : nd.es = es) (hb : i + len ≤ nd.l.length) (ht : ∀ c ∈ nd.l, ∀ x ∈ c, AV.tree x = true) :
    RepL w0 lab0 ⟨st.n, (s, .isl es (((nd.l.drop i).take len).map (·.map unown))) :: st.slots, (id, none) :: st.objs⟩ a w (labFz lab id) (fun k => if k = id then none else loc k) := by
  have hloc : ∀ k b base, (fun k => if k = id then none else loc k) k = some (b, base) → loc k = some (b, base) := by
    intro k b base h
    simp only at h
    split at h
    · cases h
    · exact h
  have hV : ∀ x v, V w lab loc x v → V w (labFz lab id) (fun k => if k = id then none else loc k) x v := fun x v hv =>
    hv.mono (fun b _ h => ⟨labFz_none h, rfl⟩) (Nat.le_refl _) fun k _ b base h => ⟨hloc k b base h, fun _ h => h⟩
  refine ⟨hR.size, hR.defers, ?_, ?_, ?_, fun b h => hR.fresh b (labFz_live h), ?_⟩
  · intro s' x hx
    simp only [St.slot, look] at hx
    split at hx
    · rename_i e; subst e
      cases hx
      obtain ⟨b, base, hl, ho⟩ := hR.objs id nd h1
      obtain ⟨c, cap, hv, k1, k2, k3⟩ := (hR.slots _ _ h2).inv_sl hl
      refine .imm _ _ ?_
      rw [hv]
      have hll : ((nd.l.drop i).take len).length = len := by simp; omega
      by_cases hz : len = 0
      · subst hz
        simp only [List.take_zero, List.map_nil]
        exact .esl _ _ _
      have hc : c = ⟨b, base + i * es, none⟩ := by rcases k2 with h | h; omega; exact h
      subst hc
      have hres := I.isl (w := w) (lab := labFz lab id) es (((nd.l.drop i).take len).map (·.map unown)) b (base + i * es) cap
        (fun i' j => (w.cell? ⟨b, base + i * es + i' * es + j, none⟩).getD undef) (labFz_hit ho.hlab) ho.blk.lt (by rw [List.length_map, hll]; exact k1)
        (by
          intro c hc
          obtain ⟨c', hc', rfl⟩ := List.mem_map.1 hc
          rw [List.length_map, ← hes]
          exact ho.es c' (List.mem_of_mem_drop (List.mem_of_mem_take hc')))
        (by
          intro c hc x hx
          obtain ⟨c', hc', rfl⟩ := List.mem_map.1 hc
          obtain ⟨y, hy, rfl⟩ := List.mem_map.1 hx
          exact unown_plain (ht c' (List.mem_of_mem_drop (List.mem_of_mem_take hc')) y hy))
        ?_ ?_
      · rw [List.length_map, hll] at hres; exact hres
      · intro i' j hi hj
        rw [List.length_map, hll] at hi
        have hi2 : i + i' < nd.l.length := by omega
        have hc : nd.l[i + i']? = some nd.l[i + i'] := List.getElem?_eq_getElem hi2
        have hcl := ho.es _ (List.mem_of_getElem? hc)
        obtain ⟨v, hv, _⟩ := ho.cells (i + i') _ j _ hc (List.getElem?_eq_getElem (by omega))
        rw [hes, Nat.add_mul, ← Nat.add_assoc] at hv
        rw [hv]; rfl
      · intro i' c j x hi hj
        simp only [List.getElem?_map, Option.map_eq_some_iff] at hi
        obtain ⟨c', hc', rfl⟩ := hi
        simp only [List.getElem?_map, Option.map_eq_some_iff] at hj
        obtain ⟨y, hy, rfl⟩ := hj
        have hc2 : nd.l[i + i']? = some c' := by
          rw [List.getElem?_take] at hc'
          split at hc'
          · rwa [List.getElem?_drop] at hc'
          · cases hc'
        obtain ⟨v, hv, hcv⟩ := ho.cells (i + i') c' j y hc2 hy
        rw [hes, Nat.add_mul, ← Nat.add_assoc] at hv
        simp only [hv, Option.getD_some]
        refine (Cell.tree hcv (ht c' (List.mem_of_getElem? hc2) y (List.mem_of_getElem? hy))).unown (fun b h => labFz_none h) ?_
        intro b' q hq
        exact labFz_hit (by rw [hq]; rfl)
    · exact hV _ _ (hR.slots s' x hx)
  · intro k nk hk
    simp only [St.obj, look] at hk
    split at hk
    · simp at hk
    · rename_i hne
      have hne' : k ≠ id := fun e => hne e
      obtain ⟨b, base, hl, ho⟩ := hR.objs k nk hk
      refine ⟨b, base, by rw [if_neg hne']; exact hl, labFz_other ho.hlab hne', ho.blk, ho.es, ?_⟩
      intro i2 c2 j2 z hi hj
      obtain ⟨v, hv, hcv⟩ := ho.cells i2 c2 j2 z hi hj
      refine ⟨v, hv, hcv.imp (hV _ _) fun hT => hT.move (fun b _ h => ⟨labFz_none h, rfl⟩) ?_ (Nat.le_refl _)⟩
      intro b' q _ hq
      exact ⟨by rw [labFz_other (k := k) (q := (Lab.app (.obj k, [(i2, j2)]) q).2) (by rw [hq]; rfl) hne']; rfl, rfl⟩
  · intro k hk
    simp only [St.obj, look] at hk
    split at hk
    · rename_i e; simp [e]
    · have := hR.dead k hk
      split
      · rfl
      · exact this
  · have e := hR.ext
    refine ⟨e.size, e.os, e.out, ?_, e.blk⟩
    intro b hb hs
    obtain ⟨k1, k2⟩ := e.kept b hb hs
    exact ⟨by rw [labFz_still (by rw [k1]; exact hs), k1], k2⟩

theorem AW.freeze {code : Code} (s id : Nat) {es i len : Nat} {nd : Node} {l' : List (List AV)} (h1 : st.obj id = some nd) (h2 : st.slot s = some (.sl id es i len)) (hes : nd.es = es) (hb : i + len ≤ nd.l.length) (ht : ∀ c ∈ nd.l, ∀ x ∈ c, AV.tree x = true)
    (hl : ((nd.l.drop i).take len).map (·.map unown) = l')
    (h : AW P code ⟨st.n, (s, .isl es l') :: st.slots, (id, none) :: st.objs⟩ K) : AW P code st K := by
  subst hl
  exact AW.ghost (fun _ _ _ _ ⟨_, _, hR⟩ => ⟨_, _, hR.freeze h1 h2 hes hb ht⟩) h
end
end Go.AM
