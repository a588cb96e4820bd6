/- The abstract machine, part 24: an object's tail is forgotten. -/
import Derived.Test.YtefkpiameojpoaaAm23
set_option linter.unusedVariables false
set_option linter.unusedSimpArgs false
namespace Go.AM

section
variable {P : Program} {st : St} {K : Exit → St → Prop}

theorem RepL.shrink {w0 : World} {lab0 : Labs} {a : Act} {w : World} {lab : Labs} {loc : Locs} {id : Nat} {nd : Node} (m : Nat) (hR : RepL w0 lab0 st a w lab loc) (h1 : st.obj id = some nd) :
    RepL w0 lab0 ⟨st.n, st.slots, (id, some ⟨nd.es, nd.l.take m⟩) :: st.objs⟩ a w lab loc := by
  refine ⟨hR.size, hR.defers, hR.slots, ?_, ?_, hR.fresh, hR.ext⟩
  · intro k nk hk
    simp only [St.obj, look] at hk
    split at hk
    · rename_i e; subst e
      simp at hk; subst hk
      obtain ⟨b, base, hl, ho⟩ := hR.objs k nd h1
      refine ⟨b, base, hl, ho.hlab, ho.blk.le ?_, ?_, ?_⟩
      · have : (nd.l.take m).length ≤ nd.l.length := by rw [List.length_take]; omega
        have := Nat.mul_le_mul_right nd.es this
        simp only; omega
      · intro z hz
        exact ho.es z (List.mem_of_mem_take hz)
      · intro i2 c2 j2 z hi hj
        have hi' : nd.l[i2]? = some c2 := by
          simp only [List.getElem?_take] at hi
          split at hi
          · exact hi
          · cases hi
        exact ho.cells i2 c2 j2 z hi' hj
    · exact hR.objs k nk hk
  · intro k hk
    simp only [St.obj, look] at hk
    split at hk
    · simp at hk
    · exact hR.dead k hk

theorem AW.shrink {code : Code} (id m : Nat) {nd : Node} (h1 : st.obj id = some nd)
    (h : AW P code ⟨st.n, st.slots, (id, some ⟨nd.es, nd.l.take m⟩) :: st.objs⟩ K) : AW P code st K :=
  AW.ghost (fun _ _ _ _ ⟨lab, loc, hR⟩ => ⟨lab, loc, hR.shrink m h1⟩) h
end
end Go.AM

namespace Go.AM
def labRes (lab : Labs) : Labs := fun b => match lab b with
  | some (.res, _) => none
  | l => l
theorem labRes_res {lab : Labs} {b : Nat} {q : List (Nat × Nat)} (h : lab b = some (.res, q)) : labRes lab b = none := by simp [labRes, h]
theorem labRes_none {lab : Labs} {b : Nat} (h : lab b = none) : labRes lab b = none := by simp [labRes, h]
theorem labRes_still {lab : Labs} {b : Nat} (h : still (lab b)) : labRes lab b = lab b := by
  unfold labRes
  split
  · rename_i h2; rw [h2] at h; exact h.elim
  · rfl

/-- an answer that nobody writes into any more -/
theorem DC.frz {P : Program} {f : FuncId} {args : List AV} {res : AV} (h : DC P f args res []) : DC P f args (unown res) [] := by
  refine ⟨h.body, ?_⟩
  intro w lab vals hl hv hf
  refine (h.calls w lab vals hl hv hf).mono fun e w' he => ?_
  obtain ⟨v, lab', rfl, hT, _, hE, hfr⟩ := he
  refine ⟨v, labRes lab', rfl, .imm _ _ _ (hT.unown (fun b hb => labRes_none hb) (fun b q hb => labRes_res hb)), by simp, ?_, ?_⟩
  · refine ⟨hE.size, hE.os, hE.out, ?_, hE.blk⟩
    intro b hb hs
    obtain ⟨h1, h2⟩ := hE.kept b hb hs
    refine ⟨?_, h2⟩
    have : labRes lab' b = lab' b := labRes_still (by rw [h1]; exact hs)
    rw [this, h1]
  · intro b hb
    apply hfr
    intro hn
    exact hb (labRes_none hn)
end Go.AM

namespace Go.AM
/-- the second part of an answer is not told -/
theorem DC.any2 {P : Program} {f : FuncId} {args : List AV} {x y : AV} {muts : List (Nat × AV)} (h : DC P f args (.tup [x, y]) muts) : DC P f args (.tup [x, .any]) muts := by
  refine ⟨h.body, ?_⟩
  intro w lab vals hl hv hf
  refine (h.calls w lab vals hl hv hf).mono fun e w' he => ?_
  obtain ⟨v, lab', rfl, hT, hm, hE, hfr⟩ := he
  refine ⟨v, lab', rfl, ?_, hm, hE, hfr⟩
  cases hT with
  | imm _ _ _ hI =>
    cases hI with
    | tup cs vs hlen hv =>
      refine .imm _ _ _ (.tup _ _ (by simpa using hlen) ?_)
      intro j a u ha hu
      match j with
      | 0 => exact hv 0 _ u rfl hu |> fun h => by simp at ha; subst ha; exact h
      | 1 => simp at ha; subst ha; exact .any _
      | n + 2 => simp at ha
  | tup _ cs vs hlen hv =>
    refine .tup _ _ _ (by simpa using hlen) ?_
    intro j a u ha hu
    match j with
    | 0 => simp at ha; subst ha; exact hv 0 _ u rfl hu
    | 1 => simp at ha; subst ha; exact .imm _ _ _ (.any _)
    | n + 2 => simp at ha
end Go.AM
