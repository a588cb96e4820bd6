/- Joined texts: Ph Pw Am24 Am25 Am26 Po O1 G8 G9 Ga H4 H5 O2 M1 O3 Pp O4 Pj. -/
import Derived.Test.YtilmgakneefdmaaB1
import Derived.Test.YtilmgakneefdmaaB2
import Derived.Test.YtilmgakneefdmaaB3
import Derived.Test.YtilmgakneefdmaaB4
import Derived.Test.YtilmgakneefdmaaB5
set_option linter.unusedVariables false
set_option linter.unusedSimpArgs false
/-! ### Ph -/
set_option linter.unusedVariables false
set_option linter.unusedSimpArgs false
namespace Go.AM
@[go_sem high] theorem I1_compR : (fun x => List.map unown x) ∘ I1 = I1 := rfl
@[go_sem high] theorem TNode_compR : (fun x => List.map unown x) ∘ TNode.ro = TNode.ro := by funext x; simp [TNode_ro_un]
theorem procAt_at {l : List TProc} {i : Nat} {x : TProc} (h : l[i]? = some x) : procAt l i = procF x.steps := by simp [procAt, List.getD, h]
theorem procsF_len {l : List TProc} (h : inR l.length 1 3 = false) : procsF l = 2 := by rw [procsF, if_pos h]
theorem procsF_len' {l : List TProc} (h : l.length < 1 ∨ 3 < l.length) : procsF l = 2 := procsF_len (inR_not.2 (by omega))
theorem procsF_hit {l : List TProc} {i : Nat} (hR : inR l.length 1 3 = true) (hi : i < l.length) (h : ∀ k, k < i → procAt l k = 0) (hne : procAt l i ≠ 0) : procsF l = procAt l i := by
  rw [procsF, if_neg (by rw [hR]; decide)]
  exact sc_first i 0 (Nat.zero_le _) hi (fun k _ hk => h k hk) hne
theorem procsF_ok {l : List TProc} (hR : inR l.length 1 3 = true) (h : ∀ k, k < l.length → procAt l k = 0) : procsF l = 0 := by
  rw [procsF, if_neg (by rw [hR]; decide), sc_none h]
theorem procsF_zero {l : List TProc} (h : procsF l = 0) : inR l.length 1 3 = true ∧ ∀ k, k < l.length → procAt l k = 0 := by
  unfold procsF at h
  split at h
  · cases h
  · rename_i h1; exact ⟨by simpa using h1, sc_all h⟩
theorem instAt_at {e : TEngine} {i : Nat} {x : TInst} (h : e.insts[i]? = some x) : instAt e i = instF e x := by simp [instAt, List.getD, h]
theorem stepsOf_at {e : TEngine} {x : TInst} {y : TProc} (h : e.procs[x.proc.toNat]? = some y) : stepsOf e x = y.steps := by simp [stepsOf, List.getD, h]
theorem instF_eq (e : TEngine) (x : TInst) : instF e x = if inR x.proc 0 ((e.procs.length : Int) - 1) = false then 3 else if chartF (stepsOf e x) x.chart ≠ 0 then chartF (stepsOf e x) x.chart else if x.chart.now ≠ e.now then 9 else 0 := rfl
theorem engF_hit {e : TEngine} {i : Nat} (h1 : ¬ 6 < e.insts.length) (h2 : procsF e.procs = 0) (h3 : inR e.now 0 1000000 = true) (hi : i < e.insts.length) (h : ∀ k, k < i → instAt e k = 0) (hne : instAt e i ≠ 0) : engF e = instAt e i := by
  rw [engF, if_neg h1, if_neg (by simp [h2]), if_neg (by simp [h3])]
  exact sc_first i 0 (Nat.zero_le _) hi (fun k _ hk => h k hk) hne
theorem engF_ok {e : TEngine} (h1 : ¬ 6 < e.insts.length) (h2 : procsF e.procs = 0) (h3 : inR e.now 0 1000000 = true) (h : ∀ k, k < e.insts.length → instAt e k = 0) : engF e = 0 := by
  rw [engF, if_neg h1, if_neg (by simp [h2]), if_neg (by simp [h3]), sc_none h]
end Go.AM

/-! ### Pw -/
set_option linter.unusedVariables false
set_option linter.unusedSimpArgs false
namespace Go.AM
def TIntsResult.gok (x : TIntsResult) : Prop := x.list.length ≤ 9223372036854775807
def TTextResult.gok (x : TTextResult) : Prop := x.text.length ≤ 9223372036854775807
def TBytesResult.gok (x : TBytesResult) : Prop := x.bytes.length ≤ 9223372036854775807
def TLinesResult.gok (x : TLinesResult) : Prop := (x.lines.length ≤ 9223372036854775807 ∧ ∀ e ∈ x.lines, e.length ≤ 9223372036854775807)
def TJournalResult.gok (x : TJournalResult) : Prop := x.journal.gok
def TProcResult.gok (x : TProcResult) : Prop := (x.proc.length ≤ 9223372036854775807 ∧ ∀ e ∈ x.proc, e.gok)
def TGraphResult.gok (x : TGraphResult) : Prop := x.graph.gok
def TRunResult.gok (x : TRunResult) : Prop := x.run.gok
def TChartResult.gok (x : TChartResult) : Prop := x.chart.gok
def TEngineResult.gok (x : TEngineResult) : Prop := x.engine.gok
def TDeskResult.gok (x : TDeskResult) : Prop := x.desk.gok
def TOfferResult.gok (x : TOfferResult) : Prop := x.claims.length ≤ 9223372036854775807

/-! bytes -/
@[go_sem ↓ high] theorem encB_B1 (s : List UInt8) : encB s = s.map B1 := rfl
theorem byteOfCell_B1 (b : UInt8) : byteOfCell [.int .u8 b.toNat] = some b := by
  have := b.toNat_lt
  simp [byteOfCell]; omega
theorem decB_B1 (s : List UInt8) : decB (s.map B1) = some s := decB_encB s
attribute [go_sem ↓ high] decB_B1 byteOfCell_B1
def b8 (n : Int) : UInt8 := UInt8.ofNat (n % 256).toNat
@[go_sem] theorem wrap_u8 (n : Int) : IntKind.wrap .u8 n = ((b8 n).toNat : Int) := by
  have h : (UInt8.ofNat (n % 256).toNat).toNat = (n % 256).toNat := by rw [UInt8.toNat_ofNat']; omega
  simp only [b8, h, IntKind.wrap, IntKind.bits, IntKind.signed]
  simp
  omega

/-! the digits of a mark -/
def digs : Nat → Int → List UInt8 → List UInt8
  | 0, _, acc => acc
  | n + 1, k, acc => if 0 < k then digs n (k / 10) (b8 (48 + k % 10) :: acc) else acc
def mt (k : Int) : List UInt8 := if k ≤ 0 then [109, 48] else 109 :: digs k.toNat k []
theorem digs_more : ∀ (n m : Nat) (k : Int) (acc : List UInt8), k.toNat ≤ n → k.toNat ≤ m → digs n k acc = digs m k acc := by
  intro n
  induction n with
  | zero =>
    intro m k acc h _
    have : ¬ 0 < k := by omega
    cases m with
    | zero => rfl
    | succ m => simp [digs, this]
  | succ n ih =>
    intro m k acc h h2
    cases m with
    | zero =>
      have : ¬ 0 < k := by omega
      simp [digs, this]
    | succ m =>
      simp only [digs]
      split
      · exact ih m _ _ (by omega) (by omega)
      · rfl
theorem digs_len : ∀ (n : Nat) (k : Int) (acc : List UInt8) (d : Nat), k < 10 ^ d → (digs n k acc).length ≤ acc.length + d := by
  intro n
  induction n with
  | zero => intro k acc d _; simp [digs]
  | succ n ih =>
    intro k acc d h
    simp only [digs]
    split
    · rename_i hk
      cases d with
      | zero => simp at h; omega
      | succ d =>
        have := ih (k / 10) (b8 (48 + k % 10) :: acc) d (by rw [Int.pow_succ] at h; omega)
        simp at this; omega
    · omega

theorem digs_zero {n : Nat} {k : Int} {acc : List UInt8} (h : k ≤ 0) : digs n k acc = acc := by
  cases n with
  | zero => rfl
  | succ n => simp only [digs]; rw [if_neg (by omega)]
theorem digs_step {k : Int} {acc : List UInt8} (h : 0 < k) : digs k.toNat k acc = digs (k / 10).toNat (k / 10) (b8 (48 + k % 10) :: acc) := by
  obtain ⟨n, hn⟩ : ∃ n, k.toNat = n + 1 := ⟨k.toNat - 1, by omega⟩
  rw [hn]
  simp only [digs]
  rw [if_pos h]
  exact digs_more _ _ _ _ (by omega) (by omega)
theorem mt_big {k : Int} {n : Nat} (h : 0 < k) (h2 : k * 10 ^ n ≤ 4611686018427387904) : k ≤ 4611686018427387904 := by
  have h10 : (1 : Int) ≤ 10 ^ n := by have : (0 : Int) < 10 ^ n := Int.pow_pos (by omega); omega
  have := Int.mul_le_mul_of_nonneg_left h10 (show 0 ≤ k by omega)
  omega
theorem mt_step {k : Int} {n : Nat} (h : 0 < k) (h2 : k * 10 ^ n ≤ 4611686018427387904) : n ≤ 18 ∧ (k / 10) * 10 ^ (n + 1) ≤ 4611686018427387904 := by
  have h10 : (0 : Int) ≤ 10 ^ n := Int.pow_nonneg (by omega)
  refine ⟨?_, ?_⟩
  · rcases Nat.lt_or_ge 18 n with hn | hn
    · exfalso
      have e : (10 : Int) ^ n = 10 ^ 19 * 10 ^ (n - 19) := by rw [← Int.pow_add]; congr 1; omega
      have h1 : (1 : Int) ≤ 10 ^ (n - 19) := by have : (0 : Int) < 10 ^ (n - 19) := Int.pow_pos (by omega); omega
      have h3 : (10 : Int) ^ 19 * 1 ≤ 10 ^ 19 * 10 ^ (n - 19) := Int.mul_le_mul_of_nonneg_left h1 (by decide)
      have h4 : 1 * (10 : Int) ^ n ≤ k * 10 ^ n := Int.mul_le_mul_of_nonneg_right (by omega) h10
      have h5 : (10 : Int) ^ 19 * 1 = 10000000000000000000 := by decide
      omega
    · exact hn
  · have e : (k / 10) * 10 ^ (n + 1) = (k / 10 * 10) * 10 ^ n := by rw [Int.pow_succ]; rw [Int.mul_comm (10 ^ n) 10, ← Int.mul_assoc]
    rw [e]
    have : (k / 10 * 10) * 10 ^ n ≤ k * 10 ^ n := Int.mul_le_mul_of_nonneg_right (by omega) h10
    omega

/-! marks -/
def mkP {α : Type} (f : Int → α) (l : List α) (k : Int) (i : Nat) : List α := (List.range i).map (fun (j : Nat) => f (k + j)) ++ l.drop i
def mkL {α : Type} (f : Int → α) (n : Nat) (k : Int) : List α := (List.range n).map fun (j : Nat) => f (k + j)
theorem mkL_len {α : Type} {f : Int → α} {n : Nat} {k : Int} : (mkL f n k).length = n := by simp [mkL]
theorem mkL_at {α : Type} {f : Int → α} {n : Nat} {k : Int} {i : Nat} (h : i < n) : (mkL f n k)[i]? = some (f (k + i)) := by simp [mkL, h]
theorem mkP_len {α : Type} {f : Int → α} {l : List α} {k : Int} {i : Nat} (h : i ≤ l.length) : (mkP f l k i).length = l.length := by simp [mkP]; omega
theorem mkP_zero {α : Type} (f : Int → α) (l : List α) (k : Int) : mkP f l k 0 = l := by simp [mkP]
theorem mkP_end {α : Type} {f : Int → α} {l : List α} {k : Int} {i : Nat} (h : i = l.length) : mkP f l k i = mkL f l.length k := by subst h; simp [mkP, mkL]
theorem mkP_set {α : Type} {f : Int → α} {l : List α} {k : Int} {i : Nat} (h : i < l.length) : (mkP f l k i).set i (f (k + i)) = mkP f l k (i + 1) := by
  unfold mkP
  rw [List.set_append, if_neg (by simp), List.range_succ, List.map_append]
  have e2 : i - ((List.range i).map fun (j : Nat) => f (k + j)).length = 0 := by simp
  rw [e2, List.drop_eq_getElem_cons h, List.set_cons_zero, List.append_assoc]
  rfl
theorem mkP_at {α : Type} {f : Int → α} {l : List α} {k : Int} {i : Nat} {x : α} (h : l[i]? = some x) : (mkP f l k i)[i]? = some x := by
  have hi := at_lt h
  unfold mkP
  rw [List.getElem?_append_right (by simp)]
  simp [h]
end Go.AM

/-! ### Am24 -/
set_option linter.unusedVariables false
set_option linter.unusedSimpArgs false
namespace Go.AM

section
variable {P : Program} {st : St} {K : Exit → St → Prop}

theorem RepL.shrink {w0 : World} {lab0 : Labs} {a : Act} {w : World} {lab : Labs} {loc : Locs} {id : Nat} {nd : Node} (m : Nat) (hR : RepL w0 lab0 st a w lab loc) (h1 : st.obj id = some nd) :
    RepL w0 lab0 ⟨st.n, st.slots, (id, some ⟨nd.es, nd.l.take m⟩) :: st.objs⟩ a w lab loc := by
  refine ⟨hR.size, hR.defers, hR.slots, ?_, ?_, hR.fresh, hR.ext⟩
  · intro k nk hk
    simp only [St.obj, look] at hk
    split at hk
    · rename_i e; subst e
      simp at hk; subst hk
      obtain ⟨b, base, hl, ho⟩ := hR.objs k nd h1
      refine ⟨b, base, hl, ho.hlab, ho.blk.le ?_, ?_, ?_⟩
      · have : (nd.l.take m).length ≤ nd.l.length := by rw [List.length_take]; omega
        have := Nat.mul_le_mul_right nd.es this
        simp only; omega
      · intro z hz
        exact ho.es z (List.mem_of_mem_take hz)
      · intro i2 c2 j2 z hi hj
        have hi' : nd.l[i2]? = some c2 := by
          simp only [List.getElem?_take] at hi
          split at hi
          · exact hi
          · cases hi
        exact ho.cells i2 c2 j2 z hi' hj
    · exact hR.objs k nk hk
  · intro k hk
    simp only [St.obj, look] at hk
    split at hk
    · simp at hk
    · exact hR.dead k hk

theorem AW.shrink {code : Code} (id m : Nat) {nd : Node} (h1 : st.obj id = some nd)
    (h : AW P code ⟨st.n, st.slots, (id, some ⟨nd.es, nd.l.take m⟩) :: st.objs⟩ K) : AW P code st K :=
  AW.ghost (fun _ _ _ _ ⟨lab, loc, hR⟩ => ⟨lab, loc, hR.shrink m h1⟩) h
end
end Go.AM

namespace Go.AM
def labRes (lab : Labs) : Labs := fun b => match lab b with
  | some (.res, _) => none
  | l => l
theorem labRes_res {lab : Labs} {b : Nat} {q : List (Nat × Nat)} (h : lab b = some (.res, q)) : labRes lab b = none := by simp [labRes, h]
theorem labRes_none {lab : Labs} {b : Nat} (h : lab b = none) : labRes lab b = none := by simp [labRes, h]
theorem labRes_still {lab : Labs} {b : Nat} (h : still (lab b)) : labRes lab b = lab b := by
  unfold labRes
  split
  · rename_i h2; rw [h2] at h; exact h.elim
  · rfl

/-- an answer that nobody writes into any more -/
theorem DC.frz {P : Program} {f : FuncId} {args : List AV} {res : AV} (h : DC P f args res []) : DC P f args (unown res) [] := by
  refine ⟨h.body, ?_⟩
  intro w lab vals hl hv hf
  refine (h.calls w lab vals hl hv hf).mono fun e w' he => ?_
  obtain ⟨v, lab', rfl, hT, _, hE, hfr⟩ := he
  refine ⟨v, labRes lab', rfl, .imm _ _ _ (hT.unown (fun b hb => labRes_none hb) (fun b q hb => labRes_res hb)), by simp, ?_, ?_⟩
  · refine ⟨hE.size, hE.os, hE.out, ?_, hE.blk⟩
    intro b hb hs
    obtain ⟨h1, h2⟩ := hE.kept b hb hs
    refine ⟨?_, h2⟩
    have : labRes lab' b = lab' b := labRes_still (by rw [h1]; exact hs)
    rw [this, h1]
  · intro b hb
    apply hfr
    intro hn
    exact hb (labRes_none hn)
end Go.AM

namespace Go.AM
/-- the second part of an answer is not told -/
theorem DC.any2 {P : Program} {f : FuncId} {args : List AV} {x y : AV} {muts : List (Nat × AV)} (h : DC P f args (.tup [x, y]) muts) : DC P f args (.tup [x, .any]) muts := by
  refine ⟨h.body, ?_⟩
  intro w lab vals hl hv hf
  refine (h.calls w lab vals hl hv hf).mono fun e w' he => ?_
  obtain ⟨v, lab', rfl, hT, hm, hE, hfr⟩ := he
  refine ⟨v, lab', rfl, ?_, hm, hE, hfr⟩
  cases hT with
  | imm _ _ _ hI =>
    cases hI with
    | tup cs vs hlen hv =>
      refine .imm _ _ _ (.tup _ _ (by simpa using hlen) ?_)
      intro j a u ha hu
      match j with
      | 0 => exact hv 0 _ u rfl hu |> fun h => by simp at ha; subst ha; exact h
      | 1 => simp at ha; subst ha; exact .any _
      | n + 2 => simp at ha
  | tup _ cs vs hlen hv =>
    refine .tup _ _ _ (by simpa using hlen) ?_
    intro j a u ha hu
    match j with
    | 0 => simp at ha; subst ha; exact hv 0 _ u rfl hu
    | 1 => simp at ha; subst ha; exact .imm _ _ _ (.any _)
    | n + 2 => simp at ha
end Go.AM

/-! ### Am25 -/
set_option linter.unusedVariables false
set_option linter.unusedSimpArgs false
namespace Go.AM

def labFz (lab : Labs) (id : Nat) : Labs := fun b => match lab b with
  | some (.obj k, p) => if k = id then none else some (.obj k, p)
  | l => l
theorem labFz_hit {lab : Labs} {id b : Nat} {q : List (Nat × Nat)} (h : lab b = some (.obj id, q)) : labFz lab id b = none := by simp [labFz, h]
theorem labFz_none {lab : Labs} {id b : Nat} (h : lab b = none) : labFz lab id b = none := by simp [labFz, h]
theorem labFz_other {lab : Labs} {id k b : Nat} {q : List (Nat × Nat)} (h : lab b = some (.obj k, q)) (hk : k ≠ id) : labFz lab id b = some (.obj k, q) := by simp [labFz, h, hk]
theorem labFz_still {lab : Labs} {id b : Nat} (h : still (lab b)) : labFz lab id b = lab b := by
  unfold labFz
  split
  · rename_i h2; rw [h2] at h; exact h.elim
  · rfl
theorem labFz_live {lab : Labs} {id b : Nat} (h : labFz lab id b ≠ none) : lab b ≠ none := by
  intro e; exact h (labFz_none e)

section
variable {P : Program} {st : St} {K : Exit → St → Prop}

theorem RepL.freeze {w0 : World} {lab0 : Labs} {a : Act} {w : World} {lab : Labs} {loc : Locs} {s id es i len : Nat} {nd : Node} (hR : RepL w0 lab0 st a w lab loc) (h1 : st.obj id = some nd) (h2 : st.slot s = some (.sl id es i len))
    (hes : nd.es = es) (hb : i + len ≤ nd.l.length) (ht : ∀ c ∈ nd.l, ∀ x ∈ c, AV.tree x = true) :
    RepL w0 lab0 ⟨st.n, (s, .isl es (((nd.l.drop i).take len).map (·.map unown))) :: st.slots, (id, none) :: st.objs⟩ a w (labFz lab id) (fun k => if k = id then none else loc k) := by
  have hloc : ∀ k b base, (fun k => if k = id then none else loc k) k = some (b, base) → loc k = some (b, base) := by
    intro k b base h
    simp only at h
    split at h
    · cases h
    · exact h
  have hV : ∀ x v, V w lab loc x v → V w (labFz lab id) (fun k => if k = id then none else loc k) x v := fun x v hv =>
    hv.mono (fun b _ h => ⟨labFz_none h, rfl⟩) (Nat.le_refl _) fun k _ b base h => ⟨hloc k b base h, fun _ h => h⟩
  refine ⟨hR.size, hR.defers, ?_, ?_, ?_, fun b h => hR.fresh b (labFz_live h), ?_⟩
  · intro s' x hx
    simp only [St.slot, look] at hx
    split at hx
    · rename_i e; subst e
      cases hx
      obtain ⟨b, base, hl, ho⟩ := hR.objs id nd h1
      obtain ⟨c, cap, hv, k1, k2, k3⟩ := (hR.slots _ _ h2).inv_sl hl
      refine .imm _ _ ?_
      rw [hv]
      have hll : ((nd.l.drop i).take len).length = len := by simp; omega
      by_cases hz : len = 0
      · subst hz
        simp only [List.take_zero, List.map_nil]
        exact .esl _ _ _
      have hc : c = ⟨b, base + i * es, none⟩ := by rcases k2 with h | h; omega; exact h
      subst hc
      have hres := I.isl (w := w) (lab := labFz lab id) es (((nd.l.drop i).take len).map (·.map unown)) b (base + i * es) cap
        (fun i' j => (w.cell? ⟨b, base + i * es + i' * es + j, none⟩).getD undef) (labFz_hit ho.hlab) ho.blk.lt (by rw [List.length_map, hll]; exact k1)
        (by
          intro c hc
          obtain ⟨c', hc', rfl⟩ := List.mem_map.1 hc
          rw [List.length_map, ← hes]
          exact ho.es c' (List.mem_of_mem_drop (List.mem_of_mem_take hc')))
        (by
          intro c hc x hx
          obtain ⟨c', hc', rfl⟩ := List.mem_map.1 hc
          obtain ⟨y, hy, rfl⟩ := List.mem_map.1 hx
          exact unown_plain (ht c' (List.mem_of_mem_drop (List.mem_of_mem_take hc')) y hy))
        ?_ ?_
      · rw [List.length_map, hll] at hres; exact hres
      · intro i' j hi hj
        rw [List.length_map, hll] at hi
        have hi2 : i + i' < nd.l.length := by omega
        have hc : nd.l[i + i']? = some nd.l[i + i'] := List.getElem?_eq_getElem hi2
        have hcl := ho.es _ (List.mem_of_getElem? hc)
        obtain ⟨v, hv, _⟩ := ho.cells (i + i') _ j _ hc (List.getElem?_eq_getElem (by omega))
        rw [hes, Nat.add_mul, ← Nat.add_assoc] at hv
        rw [hv]; rfl
      · intro i' c j x hi hj
        simp only [List.getElem?_map, Option.map_eq_some_iff] at hi
        obtain ⟨c', hc', rfl⟩ := hi
        simp only [List.getElem?_map, Option.map_eq_some_iff] at hj
        obtain ⟨y, hy, rfl⟩ := hj
        have hc2 : nd.l[i + i']? = some c' := by
          rw [List.getElem?_take] at hc'
          split at hc'
          · rwa [List.getElem?_drop] at hc'
          · cases hc'
        obtain ⟨v, hv, hcv⟩ := ho.cells (i + i') c' j y hc2 hy
        rw [hes, Nat.add_mul, ← Nat.add_assoc] at hv
        simp only [hv, Option.getD_some]
        refine (Cell.tree hcv (ht c' (List.mem_of_getElem? hc2) y (List.mem_of_getElem? hy))).unown (fun b h => labFz_none h) ?_
        intro b' q hq
        exact labFz_hit (by rw [hq]; rfl)
    · exact hV _ _ (hR.slots s' x hx)
  · intro k nk hk
    simp only [St.obj, look] at hk
    split at hk
    · simp at hk
    · rename_i hne
      have hne' : k ≠ id := fun e => hne e
      obtain ⟨b, base, hl, ho⟩ := hR.objs k nk hk
      refine ⟨b, base, by rw [if_neg hne']; exact hl, labFz_other ho.hlab hne', ho.blk, ho.es, ?_⟩
      intro i2 c2 j2 z hi hj
      obtain ⟨v, hv, hcv⟩ := ho.cells i2 c2 j2 z hi hj
      refine ⟨v, hv, hcv.imp (hV _ _) fun hT => hT.move (fun b _ h => ⟨labFz_none h, rfl⟩) ?_ (Nat.le_refl _)⟩
      intro b' q _ hq
      exact ⟨by rw [labFz_other (k := k) (q := (Lab.app (.obj k, [(i2, j2)]) q).2) (by rw [hq]; rfl) hne']; rfl, rfl⟩
  · intro k hk
    simp only [St.obj, look] at hk
    split at hk
    · rename_i e; simp [e]
    · have := hR.dead k hk
      split
      · rfl
      · exact this
  · have e := hR.ext
    refine ⟨e.size, e.os, e.out, ?_, e.blk⟩
    intro b hb hs
    obtain ⟨k1, k2⟩ := e.kept b hb hs
    exact ⟨by rw [labFz_still (by rw [k1]; exact hs), k1], k2⟩

theorem AW.freeze {code : Code} (s id : Nat) {es i len : Nat} {nd : Node} {l' : List (List AV)} (h1 : st.obj id = some nd) (h2 : st.slot s = some (.sl id es i len)) (hes : nd.es = es) (hb : i + len ≤ nd.l.length) (ht : ∀ c ∈ nd.l, ∀ x ∈ c, AV.tree x = true)
    (hl : ((nd.l.drop i).take len).map (·.map unown) = l')
    (h : AW P code ⟨st.n, (s, .isl es l') :: st.slots, (id, none) :: st.objs⟩ K) : AW P code st K := by
  subst hl
  exact AW.ghost (fun _ _ _ _ ⟨_, _, hR⟩ => ⟨_, _, hR.freeze h1 h2 hes hb ht⟩) h
end
end Go.AM

/-! ### Am26 -/
set_option linter.unusedVariables false
set_option linter.unusedSimpArgs false
namespace Go.AM
section
variable {P : Program} {st : St} {K : Exit → St → Prop}
theorem RepL.rowUndef {w0 : World} {lab0 : Labs} {a : Act} {w : World} {lab : Labs} {loc : Locs} {id i : Nat} {nd : Node} {c : List AV} (hR : RepL w0 lab0 st a w lab loc) (h1 : st.obj id = some nd) (h2 : nd.l[i]? = some c) :
    RepL w0 lab0 ⟨st.n, st.slots, (id, some ⟨nd.es, nd.l.set i (List.replicate nd.es .undef)⟩) :: st.objs⟩ a w lab loc := by
  refine ⟨hR.size, hR.defers, hR.slots, ?_, ?_, hR.fresh, hR.ext⟩
  · intro k nk hk
    simp only [St.obj, look] at hk
    split at hk
    · rename_i e; subst e
      simp at hk; subst hk
      obtain ⟨b, base, hl, ho⟩ := hR.objs k nd h1
      refine ⟨b, base, hl, ho.hlab, by simpa using ho.blk, ?_, ?_⟩
      · intro z hz
        rcases List.mem_or_eq_of_mem_set hz with hz | hz
        · exact ho.es z hz
        · subst hz; simp
      · intro i2 c2 j2 z hi hj
        rcases set_get hi with ⟨rfl, rfl, hlt⟩ | ⟨hne, hi⟩
        · rw [List.getElem?_replicate] at hj
          split at hj
          · rename_i hjl
            cases hj
            have hc : nd.l[i2]? = some nd.l[i2] := List.getElem?_eq_getElem hlt
            have hcl := ho.es _ (List.mem_of_getElem? hc)
            obtain ⟨v, hv, _⟩ := ho.cells i2 _ j2 _ hc (List.getElem?_eq_getElem (by omega))
            exact ⟨v, hv, Or.inl (.undef v)⟩
          · cases hj
        · exact ho.cells i2 c2 j2 z hi hj
    · exact hR.objs k nk hk
  · intro k hk
    simp only [St.obj, look] at hk
    split at hk
    · simp at hk
    · exact hR.dead k hk
theorem RepL.cellUndef {w0 : World} {lab0 : Labs} {a : Act} {w : World} {lab : Labs} {loc : Locs} {id i : Nat} (j : Nat) {nd : Node} {c : List AV} (hR : RepL w0 lab0 st a w lab loc) (h1 : st.obj id = some nd) (h2 : nd.l[i]? = some c) :
    RepL w0 lab0 ⟨st.n, st.slots, (id, some ⟨nd.es, nd.l.set i (c.set j .undef)⟩) :: st.objs⟩ a w lab loc := by
  refine ⟨hR.size, hR.defers, hR.slots, ?_, ?_, hR.fresh, hR.ext⟩
  · intro k nk hk
    simp only [St.obj, look] at hk
    split at hk
    · rename_i e; subst e
      simp at hk; subst hk
      obtain ⟨b, base, hl, ho⟩ := hR.objs k nd h1
      have hcl := ho.es _ (List.mem_of_getElem? h2)
      refine ⟨b, base, hl, ho.hlab, by simpa using ho.blk, ?_, ?_⟩
      · intro z hz
        rcases List.mem_or_eq_of_mem_set hz with hz | hz
        · exact ho.es z hz
        · subst hz; simpa using hcl
      · intro i2 c2 j2 z hi hj
        rcases set_get hi with ⟨rfl, rfl, hlt⟩ | ⟨hne, hi⟩
        · rcases set_get hj with ⟨rfl, rfl, hjl⟩ | ⟨_, hj⟩
          · obtain ⟨v, hv, _⟩ := ho.cells i2 _ j2 _ h2 (List.getElem?_eq_getElem hjl)
            exact ⟨v, hv, Or.inl (.undef v)⟩
          · exact ho.cells i2 _ j2 z h2 hj
        · exact ho.cells i2 c2 j2 z hi hj
    · exact hR.objs k nk hk
  · intro k hk
    simp only [St.obj, look] at hk
    split at hk
    · simp at hk
    · exact hR.dead k hk
theorem AW.cellUndef {code : Code} (id i j : Nat) {nd : Node} {c : List AV} (h1 : st.obj id = some nd) (h2 : nd.l[i]? = some c)
    (h : AW P code ⟨st.n, st.slots, (id, some ⟨nd.es, nd.l.set i (c.set j .undef)⟩) :: st.objs⟩ K) : AW P code st K :=
  AW.ghost (fun _ _ _ _ ⟨lab, loc, hR⟩ => ⟨lab, loc, hR.cellUndef j h1 h2⟩) h
theorem AW.rowUndef {code : Code} (id i : Nat) {nd : Node} {c : List AV} (h1 : st.obj id = some nd) (h2 : nd.l[i]? = some c)
    (h : AW P code ⟨st.n, st.slots, (id, some ⟨nd.es, nd.l.set i (List.replicate nd.es .undef)⟩) :: st.objs⟩ K) : AW P code st K :=
  AW.ghost (fun _ _ _ _ ⟨lab, loc, hR⟩ => ⟨lab, loc, hR.rowUndef h1 h2⟩) h
end
end Go.AM

/-! ### Po -/
set_option linter.unusedVariables false
set_option linter.unusedSimpArgs false
namespace Go.AM
theorem openU_yes {p : List TStep} {c : TChart} {i : Nat} {x : TStep} (hx : p[i]? = some x) (h : isLeafK x.kind = true ∧ actA c i = 1) : openU p c (i + 1) = openU p c i ++ [(i : Int)] := by
  rw [openU_step, nS_at hx, if_pos h]
theorem openU_not {p : List TStep} {c : TChart} {i : Nat} {x : TStep} (hx : p[i]? = some x) (h : ¬ (isLeafK x.kind = true ∧ actA c i = 1)) : openU p c (i + 1) = openU p c i := by
  rw [openU_step, nS_at hx, if_neg h, List.append_nil]
theorem openU_len (p : List TStep) (c : TChart) (i : Nat) : (openU p c i).length ≤ i := by
  unfold openU; rw [List.length_map]; exact Nat.le_trans (List.length_filter_le _ _) (by simp)
theorem owc_cases (es : Nat) (l : List (List AV)) : (owc es l = .isl es [] ∧ l = []) ∨ (owc es l = .osl es l ∧ l ≠ []) := by
  cases l with
  | nil => exact Or.inl ⟨rfl, rfl⟩
  | cons x r => exact Or.inr ⟨rfl, by simp⟩
/-- a node's marks -/
def fN (k : Int) (x : Int) : List AV := [.int .i64 (k + 4 * x), .int .i64 (k + 4 * x + 1), .int .i64 (k + 4 * x + 2), .int .i64 (k + 4 * x + 3)]
theorem fN_eq (k : Int) (i : Nat) : fN k (0 + i) = [.int .i64 (k + 4 * (i : Int)), .int .i64 (k + 4 * (i : Int) + 1), .int .i64 (k + 4 * (i : Int) + 2), .int .i64 (k + 4 * (i : Int) + 3)] := by simp [fN]
def U6 (_ : Int) : List AV := List.replicate 6 .undef
theorem U6_eq (k : Int) : U6 k = [.undef, .undef, .undef, .undef, .undef, .undef] := rfl
def TStep.mn (x : TStep) : Nat := 4 + 4 * x.cond.length + 4 * x.expr.length
def mkS (l : List TStep) : Nat := (l.map TStep.mn).sum
theorem mkS_take {l : List TStep} {i : Nat} {x : TStep} (h : l[i]? = some x) : mkS (l.take (i + 1)) = mkS (l.take i) + x.mn := by
  unfold mkS; rw [List.map_take, List.map_take]; exact sum_take h
theorem mkS_le (l : List TStep) (i : Nat) : mkS (l.take i) ≤ mkS l := by
  unfold mkS; rw [List.map_take]; exact sum_le
theorem mkS_end {l : List TStep} {i : Nat} (h : l.length ≤ i) : mkS (l.take i) = mkS l := by rw [List.take_of_length_le h]
theorem mkS_len (l : List TStep) : l.length ≤ mkS l := by
  unfold mkS
  induction l with
  | nil => simp
  | cons x l ih => simp only [List.map_cons, List.sum_cons, List.length_cons, TStep.mn] at *; omega
theorem mkS_sz (l : List TStep) : mkS l ≤ 4 * (l.length + (l.map TStep.sz).sum) := by
  unfold mkS
  induction l with
  | nil => simp
  | cons x l ih => simp only [List.map_cons, List.sum_cons, List.length_cons, TStep.mn, TStep.sz] at *; omega
theorem mkP_ids {f : Int → List AV} {l : List (List AV)} {k : Int} {i : Nat} (hf : ∀ x, idsL (f x) = []) (hl : l.flatMap idsL = []) : (mkP f l k i).flatMap idsL = [] := by
  unfold mkP
  rw [List.flatMap_append, flatids (f := fun (j : Nat) => f (k + j)) (fun j => hf _)]
  simp only [List.nil_append, List.flatMap_eq_nil_iff] at *
  exact fun x hx => hl x (List.mem_of_mem_drop hx)
end Go.AM

/-! ### O1 -/
set_option linter.unusedVariables false
set_option linter.unusedSimpArgs false
namespace Go.AM
open Go.Proofs

set_option maxHeartbeats 600000 in
set_option linter.unusedSimpArgs false in
set_option maxRecDepth 100000 in
/-- impl.isLeaf -/
theorem dc_impl_isLeaf (k : Int) : DC Try.prog 89 [.int .i64 k] (.bool (isLeafK k)) [] := by
  refine DC.intro tiOk Try.func89 rfl rfl rfl rfl rfl rfl rfl rfl [] ?_
  refine AW.reg tiOk (fun _ => []) [0] ?_
  intro k hk; simp -dsimp [go_sem, -decide_eq_true_eq, -decide_eq_false_iff_not]
  repeat' (first | refine And.intro ?_ ?_ | refine hk _ ?_ | intro hg | omega | exact True.intro)
  all_goals clear hk k
  refine AW.reg tiOk (fun _ => []) [2] ?_
  intro k hk; simp +contextual -dsimp (maxSteps := 2000000) [go_sem, -decide_eq_true_eq, -decide_eq_false_iff_not]
  repeat' (first | refine And.intro ?_ ?_ | refine hk _ ?_ | (intro hg; try simp only [decide_eq_true_eq, decide_eq_false_iff_not] at hg) | omega | exact True.intro)
  all_goals clear hk k
  all_goals (
    refine AW.retF (ow := []) (muts := []) ?_ (fun h => And.intro (.inr rfl) h)
    simp [go_sem, Try.results89, isLeafK] <;> grind)

set_option maxHeartbeats 600000 in
set_option linter.unusedSimpArgs false in
set_option maxRecDepth 100000 in
/-- spec.l4Leaf -/
theorem dc_spec_l4Leaf (k : Int) : DC Try.prog 88 [.int .i64 k] (.bool (isLeafK k)) [] := by
  refine DC.intro tiOk Try.func88 rfl rfl rfl rfl rfl rfl rfl rfl [] ?_
  refine AW.reg tiOk (fun _ => []) [0] ?_
  intro k hk; simp -dsimp [go_sem, -decide_eq_true_eq, -decide_eq_false_iff_not]
  repeat' (first | refine And.intro ?_ ?_ | refine hk _ ?_ | intro hg | omega | exact True.intro)
  all_goals clear hk k
  refine AW.reg tiOk (fun _ => []) [2] ?_
  intro k hk; simp +contextual -dsimp (maxSteps := 2000000) [go_sem, -decide_eq_true_eq, -decide_eq_false_iff_not]
  repeat' (first | refine And.intro ?_ ?_ | refine hk _ ?_ | (intro hg; try simp only [decide_eq_true_eq, decide_eq_false_iff_not] at hg) | omega | exact True.intro)
  all_goals clear hk k
  all_goals (
    refine AW.retF (ow := []) (muts := []) ?_ (fun h => And.intro (.inr rfl) h)
    simp [go_sem, Try.results88, isLeafK] <;> grind)

set_option maxHeartbeats 600000 in
set_option linter.unusedSimpArgs false in
set_option maxRecDepth 100000 in
/-- impl.openSteps -/
theorem dc_impl_openSteps (p : List TStep) (c : TChart) (hp : p.length ≤ 24) (hla : c.acts.length = p.length) : DC Try.prog 52 [.isl 6 (p.map TStep.ro), .agg c.ro] (.osl 1 ((openU p c p.length).map I1)) [] := by
  refine DC.intro tiOk Try.func52 rfl rfl rfl rfl rfl rfl rfl rfl [1000] ?_
  refine AW.reg tiOk (fun _ => []) [0, 3] ?_
  intro k hk; simp -dsimp [go_sem, -decide_eq_true_eq, -decide_eq_false_iff_not]
  repeat' (first | refine And.intro ?_ ?_ | refine hk _ ?_ | intro hg | omega | exact True.intro)
  all_goals clear hk k
  refine AW.reg tiOk (fun _ => []) [0, 3, 5] ?_
  intro k hk; simp -dsimp [go_sem, -decide_eq_true_eq, -decide_eq_false_iff_not]
  repeat' (first | refine And.intro ?_ ?_ | refine hk _ ?_ | intro hg | omega | exact True.intro)
  all_goals clear hk k
  refine AW.seq ?_
  refine AW.reg tiOk (fun _ => []) [3, 5, 9, 10, 11] ?_
  intro k hk; simp -dsimp [go_sem, -decide_eq_true_eq, -decide_eq_false_iff_not]
  repeat' (first | refine And.intro ?_ ?_ | refine hk _ ?_ | intro hg | omega | exact True.intro)
  all_goals clear hk k
  refine AW.block ?_
  -- live at the loop's head: [3, 5, 9, 10, 11]
  refine AW.rename (nd := ?nd_1) 8 30 ?h1_1 ?h2_1 ?h4_1 ?kk_1
  (case h1_1 => exact rfl)
  (case h2_1 => simp [go_sem])
  (case h4_1 => simp [go_sem])
  refine AW.loopI (fun i : Nat => ⟨33, [(3, .ptr 3 5 0 0), (5, .sl 30 1 0 (openU p c i).length), (9, .isl 6 (p.map TStep.ro)), (10, .int .i64 p.length), (11, .int .i64 i)], [(3, some ⟨5, [c.ro]⟩), (30, some ⟨1, (openU p c i).map I1⟩)]⟩) (fun i => i ≤ p.length) (fun i => p.length - i) (0) (by simp) (Less.of rfl (by simp [go_sem, openU]) (by simp [go_sem, openU])) ?_
  rintro i hi
  refine AW.rename (nd := ?nd_2) 30 8 ?h1_2 ?h2_2 ?h4_2 ?kk_2
  (case h1_2 => exact rfl)
  (case h2_2 => simp [go_sem])
  (case h4_2 => simp [go_sem])
  refine AW.reg tiOk (fun _ => []) [3, 5, 9, 10, 11, 12] ?_
  intro k hk; simp -dsimp [go_sem, -decide_eq_true_eq, -decide_eq_false_iff_not]
  repeat' (first | refine And.intro ?_ ?_ | refine hk _ ?_ | intro hg | omega | exact True.intro)
  all_goals clear hk k
  refine AW.seq ?_
  refine AW.cond rfl ?_ ?_
  · intro hc; try simp at hc
    all_goals (
      have hlt : i < p.length := by assumption
      obtain ⟨x, hx⟩ := at_some hlt
      have haa := actN_at (c := c) (show i < c.acts.length by omega)
      have hol := openU_len p c i
      refine AW.skipN (fun _ h => h) ?_
      refine AW.seq ?_
      refine AW.block ?_
      refine AW.reg tiOk (fun _ => []) [3, 5, 6, 7, 9, 10, 11] ?_
      intro k hk; simp -dsimp [go_sem, -decide_eq_true_eq, -decide_eq_false_iff_not, hx, haa]
      repeat' (first | refine And.intro ?_ ?_ | refine hk _ ?_ | intro hg | omega | exact True.intro)
      all_goals clear hk k
      refine AW.cut ⟨33, [(3, .ptr 3 5 0 0), (5, .sl 8 1 0 (openU p c i).length), (6, .int .i64 i), (9, .isl 6 (p.map TStep.ro)), (10, .int .i64 p.length), (11, .int .i64 i), (26, .bool (decide (isLeafK x.kind = true ∧ actA c i = 1)))], [(3, some ⟨5, [c.ro]⟩), (8, some ⟨1, (openU p c i).map I1⟩)]⟩ ?_ ?_
      · skip
        refine AW.regK tiOk (fun _ => []) ?_
        intro k hk; simp +contextual -dsimp (maxSteps := 2000000) [go_sem, -decide_eq_true_eq, -decide_eq_false_iff_not, hx, haa]
        repeat' (first | refine And.intro ?_ ?_ | refine hk _ ?_ | (intro hg; try simp only [decide_eq_true_eq, decide_eq_false_iff_not] at hg) | (refine CallK.intro (dc_impl_isLeaf _) ?_; simp +contextual -dsimp (maxSteps := 2000000) [go_sem, -decide_eq_true_eq, -decide_eq_false_iff_not, hx, haa]) | omega | exact True.intro)
        all_goals clear hk k
        all_goals (show St.Less _ _; exact Less.of rfl (by simp [go_sem] <;> first | omega | grind) (by simp [go_sem]))
      · skip
        refine AW.cond rfl ?_ ?_
        · intro hc; try simp at hc
          all_goals (
            have hks := openU_yes hx (by simpa using hc)
            refine AW.regN tiOk (fun _ => []) [3, 5, 9, 10, 11] (fun _ h => h) ?_
            intro k hk; simp -dsimp [go_sem, -decide_eq_true_eq, -decide_eq_false_iff_not, hx, haa]
            repeat' (first | refine And.intro ?_ ?_ | refine hk _ ?_ | intro hg | omega | exact True.intro)
            all_goals clear hk k
            try (have hks := openU_not hx (by simpa using hc))
            try (refine AW.rename (nd := ?nd_3) 8 30 ?h1_3 ?h2_3 ?h4_3 ?kk_3; (case h1_3 => exact rfl); (case h2_3 => simp [go_sem]); (case h4_3 => simp [go_sem]))
            refine AW.regK tiOk (fun _ => []) ?_
            intro k hk; simp -dsimp [go_sem, -decide_eq_true_eq, -decide_eq_false_iff_not, hx, haa]
            repeat' (first | refine And.intro ?_ ?_ | refine hk _ ?_ | intro hg | omega | exact True.intro)
            all_goals clear hk k
            show ∃ _, _
            have hw := wrapi hlt (by omega)
            refine ⟨i + 1, by omega, by omega, Less.of rfl (by simp [go_sem, hw, hks] <;> omega) (by simp [go_sem, hks])⟩)
        · intro hc; try simp at hc
          all_goals (
            refine AW.skipN (fun _ h => h) ?_
            try (have hks := openU_not hx (by simpa using hc))
            try (refine AW.rename (nd := ?nd_4) 8 30 ?h1_4 ?h2_4 ?h4_4 ?kk_4; (case h1_4 => exact rfl); (case h2_4 => simp [go_sem]); (case h4_4 => simp [go_sem]))
            refine AW.regK tiOk (fun _ => []) ?_
            intro k hk; simp -dsimp [go_sem, -decide_eq_true_eq, -decide_eq_false_iff_not, hx, haa]
            repeat' (first | refine And.intro ?_ ?_ | refine hk _ ?_ | intro hg | omega | exact True.intro)
            all_goals clear hk k
            show ∃ _, _
            have hw := wrapi hlt (by omega)
            refine ⟨i + 1, by omega, by omega, Less.of rfl (by simp [go_sem, hw, hks] <;> omega) (by simp [go_sem, hks])⟩))
  · intro hc; try simp at hc
    all_goals (
      refine AW.exitN (fun _ h => h) ?_
      refine AW.reg tiOk (fun _ => []) [4] ?_
      intro k hk; simp -dsimp [go_sem, -decide_eq_true_eq, -decide_eq_false_iff_not]
      repeat' (first | refine And.intro ?_ ?_ | refine hk _ ?_ | intro hg | omega | exact True.intro)
      all_goals clear hk k
      refine AW.retF (ow := [1000]) (muts := []) ?_ (fun h => And.intro (.inr rfl) h)
      obtain rfl : i = p.length := (by omega)
      simp [go_sem, Try.results52])

set_option maxHeartbeats 600000 in
set_option linter.unusedSimpArgs false in
set_option maxRecDepth 100000 in
/-- spec.l9Open -/
theorem dc_spec_l9Open (p : List TStep) (c : TChart) (hp : p.length ≤ 24) (hla : c.acts.length = p.length) : DC Try.prog 51 [.isl 6 (p.map TStep.ro), .ip c.ro] (.osl 1 ((openU p c p.length).map I1)) [] := by
  refine DC.intro tiOk Try.func51 rfl rfl rfl rfl rfl rfl rfl rfl [1000] ?_
  refine AW.reg tiOk (fun _ => []) [0, 1] ?_
  intro k hk; simp -dsimp [go_sem, -decide_eq_true_eq, -decide_eq_false_iff_not]
  repeat' (first | refine And.intro ?_ ?_ | refine hk _ ?_ | intro hg | omega | exact True.intro)
  all_goals clear hk k
  refine AW.reg tiOk (fun _ => []) [0, 1, 5] ?_
  intro k hk; simp -dsimp [go_sem, -decide_eq_true_eq, -decide_eq_false_iff_not]
  repeat' (first | refine And.intro ?_ ?_ | refine hk _ ?_ | intro hg | omega | exact True.intro)
  all_goals clear hk k
  refine AW.seq ?_
  refine AW.reg tiOk (fun _ => []) [0, 1, 5, 6] ?_
  intro k hk; simp -dsimp [go_sem, -decide_eq_true_eq, -decide_eq_false_iff_not]
  repeat' (first | refine And.intro ?_ ?_ | refine hk _ ?_ | intro hg | omega | exact True.intro)
  all_goals clear hk k
  refine AW.block ?_
  -- live at the loop's head: [0, 1, 5, 6]
  refine AW.rename (nd := ?nd_1) 7 33 ?h1_1 ?h2_1 ?h4_1 ?kk_1
  (case h1_1 => exact rfl)
  (case h2_1 => simp [go_sem])
  (case h4_1 => simp [go_sem])
  refine AW.loopI (fun i : Nat => ⟨35, [(0, .isl 6 (p.map TStep.ro)), (1, .ip c.ro), (5, .sl 33 1 0 (openU p c i).length), (6, .int .i64 i)], [(33, some ⟨1, (openU p c i).map I1⟩)]⟩) (fun i => i ≤ p.length) (fun i => p.length - i) (0) (by simp) (Less.of rfl (by simp [go_sem, openU]) (by simp [go_sem, openU])) ?_
  rintro i hi
  refine AW.rename (nd := ?nd_2) 33 7 ?h1_2 ?h2_2 ?h4_2 ?kk_2
  (case h1_2 => exact rfl)
  (case h2_2 => simp [go_sem])
  (case h4_2 => simp [go_sem])
  refine AW.seq ?_
  refine AW.reg tiOk (fun _ => []) [0, 1, 5, 6, 11] ?_
  intro k hk; simp -dsimp [go_sem, -decide_eq_true_eq, -decide_eq_false_iff_not]
  repeat' (first | refine And.intro ?_ ?_ | refine hk _ ?_ | intro hg | omega | exact True.intro)
  all_goals clear hk k
  refine AW.cond rfl ?_ ?_
  · intro hc; try simp at hc
    all_goals (
      have hlt : i < p.length := by assumption
      obtain ⟨x, hx⟩ := at_some hlt
      have haa := actN_at (c := c) (show i < c.acts.length by omega)
      have hol := openU_len p c i
      refine AW.skipN (fun _ h => h) ?_
      refine AW.seq ?_
      refine AW.block ?_
      refine AW.cut ⟨35, [(0, .isl 6 (p.map TStep.ro)), (1, .ip c.ro), (5, .sl 7 1 0 (openU p c i).length), (6, .int .i64 i), (29, .bool (decide (isLeafK x.kind = true ∧ actA c i = 1)))], [(7, some ⟨1, (openU p c i).map I1⟩)]⟩ ?_ ?_
      · skip
        refine AW.regK tiOk (fun _ => []) ?_
        intro k hk; simp +contextual -dsimp (maxSteps := 2000000) [go_sem, -decide_eq_true_eq, -decide_eq_false_iff_not, hx, haa]
        repeat' (first | refine And.intro ?_ ?_ | refine hk _ ?_ | (intro hg; try simp only [decide_eq_true_eq, decide_eq_false_iff_not] at hg) | (refine CallK.intro (dc_spec_l4Leaf _) ?_; simp +contextual -dsimp (maxSteps := 2000000) [go_sem, -decide_eq_true_eq, -decide_eq_false_iff_not, hx, haa]) | omega | exact True.intro)
        all_goals clear hk k
        all_goals (show St.Less _ _; exact Less.of rfl (by simp [go_sem] <;> first | omega | grind) (by simp [go_sem]))
      · skip
        refine AW.cond rfl ?_ ?_
        · intro hc; try simp at hc
          all_goals (
            have hks := openU_yes hx (by simpa using hc)
            refine AW.regN tiOk (fun _ => []) [0, 1, 5, 6] (fun _ h => h) ?_
            intro k hk; simp -dsimp [go_sem, -decide_eq_true_eq, -decide_eq_false_iff_not, hx, haa]
            repeat' (first | refine And.intro ?_ ?_ | refine hk _ ?_ | intro hg | omega | exact True.intro)
            all_goals clear hk k
            try (have hks := openU_not hx (by simpa using hc))
            try (refine AW.rename (nd := ?nd_3) 7 33 ?h1_3 ?h2_3 ?h4_3 ?kk_3; (case h1_3 => exact rfl); (case h2_3 => simp [go_sem]); (case h4_3 => simp [go_sem]))
            refine AW.regK tiOk (fun _ => []) ?_
            intro k hk; simp -dsimp [go_sem, -decide_eq_true_eq, -decide_eq_false_iff_not, hx, haa]
            repeat' (first | refine And.intro ?_ ?_ | refine hk _ ?_ | intro hg | omega | exact True.intro)
            all_goals clear hk k
            show ∃ _, _
            have hw := wrapi hlt (by omega)
            refine ⟨i + 1, by omega, by omega, Less.of rfl (by simp [go_sem, hw, hks] <;> omega) (by simp [go_sem, hks])⟩)
        · intro hc; try simp at hc
          all_goals (
            refine AW.skipN (fun _ h => h) ?_
            try (have hks := openU_not hx (by simpa using hc))
            try (refine AW.rename (nd := ?nd_4) 7 33 ?h1_4 ?h2_4 ?h4_4 ?kk_4; (case h1_4 => exact rfl); (case h2_4 => simp [go_sem]); (case h4_4 => simp [go_sem]))
            refine AW.regK tiOk (fun _ => []) ?_
            intro k hk; simp -dsimp [go_sem, -decide_eq_true_eq, -decide_eq_false_iff_not, hx, haa]
            repeat' (first | refine And.intro ?_ ?_ | refine hk _ ?_ | intro hg | omega | exact True.intro)
            all_goals clear hk k
            show ∃ _, _
            have hw := wrapi hlt (by omega)
            refine ⟨i + 1, by omega, by omega, Less.of rfl (by simp [go_sem, hw, hks] <;> omega) (by simp [go_sem, hks])⟩))
  · intro hc; try simp at hc
    all_goals (
      refine AW.exitN (fun _ h => h) ?_
      refine AW.reg tiOk (fun _ => []) [4] ?_
      intro k hk; simp -dsimp [go_sem, -decide_eq_true_eq, -decide_eq_false_iff_not]
      repeat' (first | refine And.intro ?_ ?_ | refine hk _ ?_ | intro hg | omega | exact True.intro)
      all_goals clear hk k
      refine AW.retF (ow := [1000]) (muts := []) ?_ (fun h => And.intro (.inr rfl) h)
      obtain rfl : i = p.length := (by omega)
      simp [go_sem, Try.results51])

end Go.AM

/-! ### G8 -/
set_option linter.unusedVariables false
set_option linter.unusedSimpArgs false
namespace Go.AM
open Go.Proofs

set_option maxHeartbeats 600000 in
set_option linter.unusedSimpArgs false in
set_option maxRecDepth 100000 in
/-- spec.l4One -/
theorem dc_spec_l4One (p : List TStep) (hp : 1 ≤ p.length ∧ p.length ≤ 24) (hg : ∀ e ∈ p, e.gok) (i : Nat) (hi : i < p.length) (h1 : ∀ k, k < i → oneF p k = 0) : DC Try.prog 98 [.isl 6 (p.map TStep.ro), .int .i64 (i : Nat)] (.int .i64 (oneF p i)) [] := by
  obtain ⟨x, hx⟩ := at_some hi
  obtain ⟨g0, g1, g2⟩ := hg x (List.mem_of_getElem? hx)
  have hl := ones_ok i (by omega) h1
  have hL : ((pars p).take i).length = i := take_len (by omega)
  have hxo := oneF_at hx
  have hwi : IntKind.wrap .i64 ((i : Int) - 1) = (i : Int) - 1 := wrap64 (by omega) (by omega)
  have hdi : (decide ((i : Int) = 0)) = decide (i = 0) := by by_cases h : i = 0 <;> simp [h]
  refine DC.intro tiOk Try.func98 rfl rfl rfl rfl rfl rfl rfl rfl [] ?_
  refine AW.reg tiOk (fun _ => []) [0, 1] ?_
  intro k hk; simp -dsimp (maxSteps := 2000000) [go_sem, -decide_eq_true_eq, -decide_eq_false_iff_not, hx, hwi]
  repeat' (first | refine And.intro ?_ ?_ | refine hk _ ?_ | (intro hg; try simp only [decide_eq_true_eq, decide_eq_false_iff_not] at hg) | omega | exact True.intro)
  all_goals clear hk k
  refine AW.reg tiOk (fun _ => []) [0, 1, 5] ?_
  intro k hk; simp -dsimp (maxSteps := 2000000) [go_sem, -decide_eq_true_eq, -decide_eq_false_iff_not, hx, hwi]
  repeat' (first | refine And.intro ?_ ?_ | refine hk _ ?_ | (intro hg; try simp only [decide_eq_true_eq, decide_eq_false_iff_not] at hg) | omega | exact True.intro)
  all_goals clear hk k
  refine AW.seq ?_
  refine AW.cut ⟨82, [(0, .isl 6 (p.map TStep.ro)), (1, .int .i64 (i : Nat)), (5, .ip x.ro), (20, .bool (decide (inR x.kind 1 8 = false ∨ alien x = true)))], []⟩ ?_ ?_
  · skip
    refine AW.regK tiOk (fun _ => []) ?_
    intro k hk; simp +contextual -dsimp (maxSteps := 2000000) [go_sem, -decide_eq_true_eq, -decide_eq_false_iff_not, hx, hwi]
    repeat' (first | refine And.intro ?_ ?_ | refine hk _ ?_ | (intro hg; try simp only [decide_eq_true_eq, decide_eq_false_iff_not] at hg) | (refine CallK.intro (dc_spec_l1In _ _ _) ?_; simp +contextual -dsimp (maxSteps := 2000000) [go_sem, -decide_eq_true_eq, -decide_eq_false_iff_not, hx, hwi]) | (refine CallK.intro (dc_spec_l4Bare x ⟨g0, g1, g2⟩) ?_; simp +contextual -dsimp (maxSteps := 2000000) [go_sem, -decide_eq_true_eq, -decide_eq_false_iff_not, hx, hwi]) | omega | exact True.intro)
    all_goals clear hk k
    all_goals (show St.Less _ _; exact Less.of rfl (by simp [go_sem] <;> first | omega | grind) (by simp [go_sem]))
  · skip
    refine AW.cond rfl ?_ ?_
    · intro hc; try simp at hc
      all_goals try (exfalso; omega; done)
      all_goals (
        refine AW.reg tiOk (fun _ => []) [4] ?_
        intro k hk; simp -dsimp (maxSteps := 2000000) [go_sem, -decide_eq_true_eq, -decide_eq_false_iff_not, hx, hwi]
        repeat' (first | refine And.intro ?_ ?_ | refine hk _ ?_ | (intro hg; try simp only [decide_eq_true_eq, decide_eq_false_iff_not] at hg) | omega | exact True.intro)
        all_goals clear hk k
        refine AW.retF (ow := []) (muts := []) ?_ (fun h => And.intro (.inr rfl) h)
        rw [hxo]
        first | (have hs : stepF ((pars p).take i) x = 1 := (by have := @inR_iff x.kind 1 8; unfold stepF; grind); rw [hs]; simp [go_sem, Try.results98]; done) | (have hs : stepF ((pars p).take i) x = 3 := (by have := @inR_iff x.kind 1 8; unfold stepF; grind); rw [hs]; simp [go_sem, Try.results98]; done) | (have hs : stepF ((pars p).take i) x = 2 := (by have := @inR_iff x.kind 1 8; unfold stepF; grind); rw [hs]; simp [go_sem, Try.results98]; done) | (have hs : stepF ((pars p).take i) x = nameF x.name := (by have := @inR_iff x.kind 1 8; unfold stepF; grind); rw [hs]; simp [go_sem, Try.results98]; done) | (have hs : stepF ((pars p).take i) x = exprF x.expr := (by have := @inR_iff x.kind 1 8; unfold stepF; grind); rw [hs]; simp [go_sem, Try.results98]; done) | (have hs : stepF ((pars p).take i) x = 0 := (by have := @inR_iff x.kind 1 8; unfold stepF; unfold alien at *; unfold lowA highA at *; grind); rw [hs]; simp [go_sem, Try.results98]))
    · intro hc; try simp at hc
      all_goals try (exfalso; omega; done)
      all_goals (
        refine AW.skipN (fun _ h => h) ?_
        refine AW.seq ?_
        refine AW.cut ⟨82, [(0, .isl 6 (p.map TStep.ro)), (1, .int .i64 (i : Nat)), (5, .ip x.ro), (43, .bool (decide (parF ((pars p).take i) x.par = 3)))], []⟩ ?_ ?_
        · skip
          refine AW.regK tiOk (fun _ => []) ?_
          intro k hk; simp +contextual -dsimp (maxSteps := 2000000) [go_sem, -decide_eq_true_eq, -decide_eq_false_iff_not, hx, hwi]
          repeat' (first | refine And.intro ?_ ?_ | refine hk _ ?_ | (intro hg; try simp only [decide_eq_true_eq, decide_eq_false_iff_not] at hg) | (refine CallK.intro (dc_spec_l1In _ _ _) ?_; simp +contextual -dsimp (maxSteps := 2000000) [go_sem, -decide_eq_true_eq, -decide_eq_false_iff_not, hx, hwi]) | omega | exact True.intro)
          all_goals clear hk k
          all_goals (show St.Less _ _; exact Less.of rfl (by simp [go_sem, parF, hL, inR] at * <;> grind) (by simp [go_sem]))
        · skip
          refine AW.cond rfl ?_ ?_
          · intro hc; try simp at hc
            all_goals try (exfalso; omega; done)
            all_goals (
              refine AW.reg tiOk (fun _ => []) [4] ?_
              intro k hk; simp -dsimp (maxSteps := 2000000) [go_sem, -decide_eq_true_eq, -decide_eq_false_iff_not, hx, hwi]
              repeat' (first | refine And.intro ?_ ?_ | refine hk _ ?_ | (intro hg; try simp only [decide_eq_true_eq, decide_eq_false_iff_not] at hg) | omega | exact True.intro)
              all_goals clear hk k
              refine AW.retF (ow := []) (muts := []) ?_ (fun h => And.intro (.inr rfl) h)
              rw [hxo]
              first | (have hs : stepF ((pars p).take i) x = 1 := (by have := @inR_iff x.kind 1 8; unfold stepF; grind); rw [hs]; simp [go_sem, Try.results98]; done) | (have hs : stepF ((pars p).take i) x = 3 := (by have := @inR_iff x.kind 1 8; unfold stepF; grind); rw [hs]; simp [go_sem, Try.results98]; done) | (have hs : stepF ((pars p).take i) x = 2 := (by have := @inR_iff x.kind 1 8; unfold stepF; grind); rw [hs]; simp [go_sem, Try.results98]; done) | (have hs : stepF ((pars p).take i) x = nameF x.name := (by have := @inR_iff x.kind 1 8; unfold stepF; grind); rw [hs]; simp [go_sem, Try.results98]; done) | (have hs : stepF ((pars p).take i) x = exprF x.expr := (by have := @inR_iff x.kind 1 8; unfold stepF; grind); rw [hs]; simp [go_sem, Try.results98]; done) | (have hs : stepF ((pars p).take i) x = 0 := (by have := @inR_iff x.kind 1 8; unfold stepF; unfold alien at *; unfold lowA highA at *; grind); rw [hs]; simp [go_sem, Try.results98]))
          · intro hc; try simp at hc
            all_goals try (exfalso; omega; done)
            all_goals (
              refine AW.skipN (fun _ h => h) ?_
              refine AW.seq ?_
              refine AW.cut ⟨82, [(0, .isl 6 (p.map TStep.ro)), (1, .int .i64 (i : Nat)), (5, .ip x.ro), (51, .bool (decide (parF ((pars p).take i) x.par = 1)))], []⟩ ?_ ?_
              · skip
                refine AW.regK tiOk (fun _ => []) ?_
                intro k hk; simp +contextual -dsimp (maxSteps := 2000000) [go_sem, -decide_eq_true_eq, -decide_eq_false_iff_not, hx, hwi]
                repeat' (first | refine And.intro ?_ ?_ | refine hk _ ?_ | (intro hg; try simp only [decide_eq_true_eq, decide_eq_false_iff_not] at hg) | (refine CallK.intro (dc_spec_l4Line p hp.2 i x hx (by omega) hl) ?_; simp +contextual -dsimp (maxSteps := 2000000) [go_sem, -decide_eq_true_eq, -decide_eq_false_iff_not, hx, hwi]) | omega | exact True.intro)
                all_goals clear hk k
                all_goals (show St.Less _ _; exact Less.of rfl (by simp [go_sem, parF, hL] at * <;> grind) (by simp [go_sem]))
              · skip
                refine AW.cond rfl ?_ ?_
                · intro hc; try simp at hc
                  all_goals try (exfalso; omega; done)
                  all_goals (
                    refine AW.reg tiOk (fun _ => []) [4] ?_
                    intro k hk; simp -dsimp (maxSteps := 2000000) [go_sem, -decide_eq_true_eq, -decide_eq_false_iff_not, hx, hwi]
                    repeat' (first | refine And.intro ?_ ?_ | refine hk _ ?_ | (intro hg; try simp only [decide_eq_true_eq, decide_eq_false_iff_not] at hg) | omega | exact True.intro)
                    all_goals clear hk k
                    refine AW.retF (ow := []) (muts := []) ?_ (fun h => And.intro (.inr rfl) h)
                    rw [hxo]
                    first | (have hs : stepF ((pars p).take i) x = 1 := (by have := @inR_iff x.kind 1 8; unfold stepF; grind); rw [hs]; simp [go_sem, Try.results98]; done) | (have hs : stepF ((pars p).take i) x = 3 := (by have := @inR_iff x.kind 1 8; unfold stepF; grind); rw [hs]; simp [go_sem, Try.results98]; done) | (have hs : stepF ((pars p).take i) x = 2 := (by have := @inR_iff x.kind 1 8; unfold stepF; grind); rw [hs]; simp [go_sem, Try.results98]; done) | (have hs : stepF ((pars p).take i) x = nameF x.name := (by have := @inR_iff x.kind 1 8; unfold stepF; grind); rw [hs]; simp [go_sem, Try.results98]; done) | (have hs : stepF ((pars p).take i) x = exprF x.expr := (by have := @inR_iff x.kind 1 8; unfold stepF; grind); rw [hs]; simp [go_sem, Try.results98]; done) | (have hs : stepF ((pars p).take i) x = 0 := (by have := @inR_iff x.kind 1 8; unfold stepF; unfold alien at *; unfold lowA highA at *; grind); rw [hs]; simp [go_sem, Try.results98]))
                · intro hc; try simp at hc
                  all_goals try (exfalso; omega; done)
                  all_goals (
                    refine AW.skipN (fun _ h => h) ?_
                    refine AW.seq ?_
                    have hz : parF ((pars p).take i) x.par = 0 := by have : parF ((pars p).take i) x.par = 0 ∨ parF ((pars p).take i) x.par = 1 ∨ parF ((pars p).take i) x.par = 3 := (by unfold parF; split; exact Or.inr (Or.inr rfl); split; exact Or.inr (Or.inl rfl); exact Or.inl rfl); grind
                    have hpo := parF_ok hz
                    have htn := take_next hx
                    have hl2 : ParOk ((pars p).take (i + 1)) := by rw [htn]; exact hl.snoc hpo.1 hpo.2.1
                    refine AW.reg tiOk (fun _ => []) [5, 55] ?_
                    intro k hk; simp -dsimp (maxSteps := 2000000) [go_sem, -decide_eq_true_eq, -decide_eq_false_iff_not, hx, hwi, htn]
                    repeat' (first | refine And.intro ?_ ?_ | refine hk _ ?_ | (intro hg; try simp only [decide_eq_true_eq, decide_eq_false_iff_not] at hg) | (refine CallK.intro (dc_spec_l4Deep p hp.2 (i + 1) (by omega) hl2 (i : Int) (by omega)) ?_; simp -dsimp (maxSteps := 2000000) [go_sem, -decide_eq_true_eq, -decide_eq_false_iff_not, hx, hwi, htn]) | omega | exact True.intro)
                    all_goals clear hk k
                    refine AW.cond rfl ?_ ?_
                    · intro hc; try simp at hc
                      all_goals try (exfalso; omega; done)
                      all_goals (
                        refine AW.reg tiOk (fun _ => []) [4] ?_
                        intro k hk; simp -dsimp (maxSteps := 2000000) [go_sem, -decide_eq_true_eq, -decide_eq_false_iff_not, hx, hwi]
                        repeat' (first | refine And.intro ?_ ?_ | refine hk _ ?_ | (intro hg; try simp only [decide_eq_true_eq, decide_eq_false_iff_not] at hg) | omega | exact True.intro)
                        all_goals clear hk k
                        refine AW.retF (ow := []) (muts := []) ?_ (fun h => And.intro (.inr rfl) h)
                        rw [hxo]
                        first | (have hs : stepF ((pars p).take i) x = 1 := (by have := @inR_iff x.kind 1 8; unfold stepF; grind); rw [hs]; simp [go_sem, Try.results98]; done) | (have hs : stepF ((pars p).take i) x = 3 := (by have := @inR_iff x.kind 1 8; unfold stepF; grind); rw [hs]; simp [go_sem, Try.results98]; done) | (have hs : stepF ((pars p).take i) x = 2 := (by have := @inR_iff x.kind 1 8; unfold stepF; grind); rw [hs]; simp [go_sem, Try.results98]; done) | (have hs : stepF ((pars p).take i) x = nameF x.name := (by have := @inR_iff x.kind 1 8; unfold stepF; grind); rw [hs]; simp [go_sem, Try.results98]; done) | (have hs : stepF ((pars p).take i) x = exprF x.expr := (by have := @inR_iff x.kind 1 8; unfold stepF; grind); rw [hs]; simp [go_sem, Try.results98]; done) | (have hs : stepF ((pars p).take i) x = 0 := (by have := @inR_iff x.kind 1 8; unfold stepF; unfold alien at *; unfold lowA highA at *; grind); rw [hs]; simp [go_sem, Try.results98]))
                    · intro hc; try simp at hc
                      all_goals try (exfalso; omega; done)
                      all_goals (
                        refine AW.skipN (fun _ h => h) ?_
                        refine AW.seq ?_
                        refine AW.reg tiOk (fun _ => []) [5, 60] ?_
                        intro k hk; simp -dsimp (maxSteps := 2000000) [go_sem, -decide_eq_true_eq, -decide_eq_false_iff_not, hx, hwi]
                        repeat' (first | refine And.intro ?_ ?_ | refine hk _ ?_ | (intro hg; try simp only [decide_eq_true_eq, decide_eq_false_iff_not] at hg) | omega | exact True.intro)
                        all_goals clear hk k
                        refine AW.cond rfl ?_ ?_
                        · intro hc; try simp at hc
                          all_goals try (exfalso; omega; done)
                          all_goals (
                            refine AW.reg tiOk (fun _ => []) [5, 6] ?_
                            intro k hk; simp -dsimp (maxSteps := 2000000) [go_sem, -decide_eq_true_eq, -decide_eq_false_iff_not, hx, hwi]
                            repeat' (first | refine And.intro ?_ ?_ | refine hk _ ?_ | (intro hg; try simp only [decide_eq_true_eq, decide_eq_false_iff_not] at hg) | (refine CallK.intro (dc_spec_l1Name x.name g0) ?_; simp -dsimp (maxSteps := 2000000) [go_sem, -decide_eq_true_eq, -decide_eq_false_iff_not, hx, hwi]) | omega | exact True.intro)
                            all_goals clear hk k
                            refine AW.reg tiOk (fun _ => []) [5, 6, 67] ?_
                            intro k hk; simp -dsimp (maxSteps := 2000000) [go_sem, -decide_eq_true_eq, -decide_eq_false_iff_not, hx, hwi]
                            repeat' (first | refine And.intro ?_ ?_ | refine hk _ ?_ | (intro hg; try simp only [decide_eq_true_eq, decide_eq_false_iff_not] at hg) | omega | exact True.intro)
                            all_goals clear hk k
                            refine AW.cond rfl ?_ ?_
                            · intro hc; try simp at hc
                              all_goals try (exfalso; omega; done)
                              all_goals (
                                refine AW.reg tiOk (fun _ => []) [4] ?_
                                intro k hk; simp -dsimp (maxSteps := 2000000) [go_sem, -decide_eq_true_eq, -decide_eq_false_iff_not, hx, hwi]
                                repeat' (first | refine And.intro ?_ ?_ | refine hk _ ?_ | (intro hg; try simp only [decide_eq_true_eq, decide_eq_false_iff_not] at hg) | omega | exact True.intro)
                                all_goals clear hk k
                                refine AW.retF (ow := []) (muts := []) ?_ (fun h => And.intro (.inr rfl) h)
                                rw [hxo]
                                first | (have hs : stepF ((pars p).take i) x = 1 := (by have := @inR_iff x.kind 1 8; unfold stepF; grind); rw [hs]; simp [go_sem, Try.results98]; done) | (have hs : stepF ((pars p).take i) x = 3 := (by have := @inR_iff x.kind 1 8; unfold stepF; grind); rw [hs]; simp [go_sem, Try.results98]; done) | (have hs : stepF ((pars p).take i) x = 2 := (by have := @inR_iff x.kind 1 8; unfold stepF; grind); rw [hs]; simp [go_sem, Try.results98]; done) | (have hs : stepF ((pars p).take i) x = nameF x.name := (by have := @inR_iff x.kind 1 8; unfold stepF; grind); rw [hs]; simp [go_sem, Try.results98]; done) | (have hs : stepF ((pars p).take i) x = exprF x.expr := (by have := @inR_iff x.kind 1 8; unfold stepF; grind); rw [hs]; simp [go_sem, Try.results98]; done) | (have hs : stepF ((pars p).take i) x = 0 := (by have := @inR_iff x.kind 1 8; unfold stepF; unfold alien at *; unfold lowA highA at *; grind); rw [hs]; simp [go_sem, Try.results98]))
                            · intro hc; try simp at hc
                              all_goals try (exfalso; omega; done)
                              all_goals (
                                refine AW.skipN (fun _ h => h) ?_
                                refine AW.seq ?_
                                refine AW.reg tiOk (fun _ => []) [5, 71] ?_
                                intro k hk; simp -dsimp (maxSteps := 2000000) [go_sem, -decide_eq_true_eq, -decide_eq_false_iff_not, hx, hwi]
                                repeat' (first | refine And.intro ?_ ?_ | refine hk _ ?_ | (intro hg; try simp only [decide_eq_true_eq, decide_eq_false_iff_not] at hg) | (refine CallK.intro (dc_spec_l4Arg _) ?_; simp -dsimp (maxSteps := 2000000) [go_sem, -decide_eq_true_eq, -decide_eq_false_iff_not, hx, hwi]) | omega | exact True.intro)
                                all_goals clear hk k
                                refine AW.cond rfl ?_ ?_
                                · intro hc; try simp at hc
                                  all_goals try (exfalso; omega; done)
                                  all_goals (
                                    refine AW.reg tiOk (fun _ => []) [4] ?_
                                    intro k hk; simp -dsimp (maxSteps := 2000000) [go_sem, -decide_eq_true_eq, -decide_eq_false_iff_not, hx, hwi]
                                    repeat' (first | refine And.intro ?_ ?_ | refine hk _ ?_ | (intro hg; try simp only [decide_eq_true_eq, decide_eq_false_iff_not] at hg) | omega | exact True.intro)
                                    all_goals clear hk k
                                    refine AW.retF (ow := []) (muts := []) ?_ (fun h => And.intro (.inr rfl) h)
                                    rw [hxo]
                                    first | (have hs : stepF ((pars p).take i) x = 1 := (by have := @inR_iff x.kind 1 8; unfold stepF; grind); rw [hs]; simp [go_sem, Try.results98]; done) | (have hs : stepF ((pars p).take i) x = 3 := (by have := @inR_iff x.kind 1 8; unfold stepF; grind); rw [hs]; simp [go_sem, Try.results98]; done) | (have hs : stepF ((pars p).take i) x = 2 := (by have := @inR_iff x.kind 1 8; unfold stepF; grind); rw [hs]; simp [go_sem, Try.results98]; done) | (have hs : stepF ((pars p).take i) x = nameF x.name := (by have := @inR_iff x.kind 1 8; unfold stepF; grind); rw [hs]; simp [go_sem, Try.results98]; done) | (have hs : stepF ((pars p).take i) x = exprF x.expr := (by have := @inR_iff x.kind 1 8; unfold stepF; grind); rw [hs]; simp [go_sem, Try.results98]; done) | (have hs : stepF ((pars p).take i) x = 0 := (by have := @inR_iff x.kind 1 8; unfold stepF; unfold alien at *; unfold lowA highA at *; grind); rw [hs]; simp [go_sem, Try.results98]))
                                · intro hc; try simp at hc
                                  all_goals try (exfalso; omega; done)
                                  all_goals (
                                    refine AW.skipN (fun _ h => h) ?_
                                    refine AW.seq ?_
                                    refine AW.reg tiOk (fun _ => []) [5, 76] ?_
                                    intro k hk; simp -dsimp (maxSteps := 2000000) [go_sem, -decide_eq_true_eq, -decide_eq_false_iff_not, hx, hwi]
                                    repeat' (first | refine And.intro ?_ ?_ | refine hk _ ?_ | (intro hg; try simp only [decide_eq_true_eq, decide_eq_false_iff_not] at hg) | omega | exact True.intro)
                                    all_goals clear hk k
                                    refine AW.cond rfl ?_ ?_
                                    · intro hc; try simp at hc
                                      all_goals try (exfalso; omega; done)
                                      all_goals (
                                        refine AW.reg tiOk (fun _ => []) [4] ?_
                                        intro k hk; simp -dsimp (maxSteps := 2000000) [go_sem, -decide_eq_true_eq, -decide_eq_false_iff_not, hx, hwi]
                                        repeat' (first | refine And.intro ?_ ?_ | refine hk _ ?_ | (intro hg; try simp only [decide_eq_true_eq, decide_eq_false_iff_not] at hg) | (refine CallK.intro (dc_spec_l3Fault x.expr g2) ?_; simp -dsimp (maxSteps := 2000000) [go_sem, -decide_eq_true_eq, -decide_eq_false_iff_not, hx, hwi]) | omega | exact True.intro)
                                        all_goals clear hk k
                                        refine AW.retF (ow := []) (muts := []) ?_ (fun h => And.intro (.inr rfl) h)
                                        rw [hxo]
                                        first | (have hs : stepF ((pars p).take i) x = 1 := (by have := @inR_iff x.kind 1 8; unfold stepF; grind); rw [hs]; simp [go_sem, Try.results98]; done) | (have hs : stepF ((pars p).take i) x = 3 := (by have := @inR_iff x.kind 1 8; unfold stepF; grind); rw [hs]; simp [go_sem, Try.results98]; done) | (have hs : stepF ((pars p).take i) x = 2 := (by have := @inR_iff x.kind 1 8; unfold stepF; grind); rw [hs]; simp [go_sem, Try.results98]; done) | (have hs : stepF ((pars p).take i) x = nameF x.name := (by have := @inR_iff x.kind 1 8; unfold stepF; grind); rw [hs]; simp [go_sem, Try.results98]; done) | (have hs : stepF ((pars p).take i) x = exprF x.expr := (by have := @inR_iff x.kind 1 8; unfold stepF; grind); rw [hs]; simp [go_sem, Try.results98]; done) | (have hs : stepF ((pars p).take i) x = 0 := (by have := @inR_iff x.kind 1 8; unfold stepF; unfold alien at *; unfold lowA highA at *; grind); rw [hs]; simp [go_sem, Try.results98]))
                                    · intro hc; try simp at hc
                                      all_goals try (exfalso; omega; done)
                                      all_goals (
                                        refine AW.skipN (fun _ h => h) ?_
                                        refine AW.reg tiOk (fun _ => []) [4] ?_
                                        intro k hk; simp -dsimp (maxSteps := 2000000) [go_sem, -decide_eq_true_eq, -decide_eq_false_iff_not, hx, hwi]
                                        repeat' (first | refine And.intro ?_ ?_ | refine hk _ ?_ | (intro hg; try simp only [decide_eq_true_eq, decide_eq_false_iff_not] at hg) | omega | exact True.intro)
                                        all_goals clear hk k
                                        refine AW.retF (ow := []) (muts := []) ?_ (fun h => And.intro (.inr rfl) h)
                                        rw [hxo]
                                        first | (have hs : stepF ((pars p).take i) x = 1 := (by have := @inR_iff x.kind 1 8; unfold stepF; grind); rw [hs]; simp [go_sem, Try.results98]; done) | (have hs : stepF ((pars p).take i) x = 3 := (by have := @inR_iff x.kind 1 8; unfold stepF; grind); rw [hs]; simp [go_sem, Try.results98]; done) | (have hs : stepF ((pars p).take i) x = 2 := (by have := @inR_iff x.kind 1 8; unfold stepF; grind); rw [hs]; simp [go_sem, Try.results98]; done) | (have hs : stepF ((pars p).take i) x = nameF x.name := (by have := @inR_iff x.kind 1 8; unfold stepF; grind); rw [hs]; simp [go_sem, Try.results98]; done) | (have hs : stepF ((pars p).take i) x = exprF x.expr := (by have := @inR_iff x.kind 1 8; unfold stepF; grind); rw [hs]; simp [go_sem, Try.results98]; done) | (have hs : stepF ((pars p).take i) x = 0 := (by have := @inR_iff x.kind 1 8; unfold stepF; unfold alien at *; unfold lowA highA at *; grind); rw [hs]; simp [go_sem, Try.results98])))))
                        · intro hc; try simp at hc
                          all_goals try (exfalso; omega; done)
                          all_goals (
                            refine AW.skipN (fun _ h => h) ?_
                            refine AW.seq ?_
                            refine AW.reg tiOk (fun _ => []) [5, 71] ?_
                            intro k hk; simp -dsimp (maxSteps := 2000000) [go_sem, -decide_eq_true_eq, -decide_eq_false_iff_not, hx, hwi]
                            repeat' (first | refine And.intro ?_ ?_ | refine hk _ ?_ | (intro hg; try simp only [decide_eq_true_eq, decide_eq_false_iff_not] at hg) | (refine CallK.intro (dc_spec_l4Arg _) ?_; simp -dsimp (maxSteps := 2000000) [go_sem, -decide_eq_true_eq, -decide_eq_false_iff_not, hx, hwi]) | omega | exact True.intro)
                            all_goals clear hk k
                            refine AW.cond rfl ?_ ?_
                            · intro hc; try simp at hc
                              all_goals try (exfalso; omega; done)
                              all_goals (
                                refine AW.reg tiOk (fun _ => []) [4] ?_
                                intro k hk; simp -dsimp (maxSteps := 2000000) [go_sem, -decide_eq_true_eq, -decide_eq_false_iff_not, hx, hwi]
                                repeat' (first | refine And.intro ?_ ?_ | refine hk _ ?_ | (intro hg; try simp only [decide_eq_true_eq, decide_eq_false_iff_not] at hg) | omega | exact True.intro)
                                all_goals clear hk k
                                refine AW.retF (ow := []) (muts := []) ?_ (fun h => And.intro (.inr rfl) h)
                                rw [hxo]
                                first | (have hs : stepF ((pars p).take i) x = 1 := (by have := @inR_iff x.kind 1 8; unfold stepF; grind); rw [hs]; simp [go_sem, Try.results98]; done) | (have hs : stepF ((pars p).take i) x = 3 := (by have := @inR_iff x.kind 1 8; unfold stepF; grind); rw [hs]; simp [go_sem, Try.results98]; done) | (have hs : stepF ((pars p).take i) x = 2 := (by have := @inR_iff x.kind 1 8; unfold stepF; grind); rw [hs]; simp [go_sem, Try.results98]; done) | (have hs : stepF ((pars p).take i) x = nameF x.name := (by have := @inR_iff x.kind 1 8; unfold stepF; grind); rw [hs]; simp [go_sem, Try.results98]; done) | (have hs : stepF ((pars p).take i) x = exprF x.expr := (by have := @inR_iff x.kind 1 8; unfold stepF; grind); rw [hs]; simp [go_sem, Try.results98]; done) | (have hs : stepF ((pars p).take i) x = 0 := (by have := @inR_iff x.kind 1 8; unfold stepF; unfold alien at *; unfold lowA highA at *; grind); rw [hs]; simp [go_sem, Try.results98]))
                            · intro hc; try simp at hc
                              all_goals try (exfalso; omega; done)
                              all_goals (
                                refine AW.skipN (fun _ h => h) ?_
                                refine AW.seq ?_
                                refine AW.reg tiOk (fun _ => []) [5, 76] ?_
                                intro k hk; simp -dsimp (maxSteps := 2000000) [go_sem, -decide_eq_true_eq, -decide_eq_false_iff_not, hx, hwi]
                                repeat' (first | refine And.intro ?_ ?_ | refine hk _ ?_ | (intro hg; try simp only [decide_eq_true_eq, decide_eq_false_iff_not] at hg) | omega | exact True.intro)
                                all_goals clear hk k
                                refine AW.cond rfl ?_ ?_
                                · intro hc; try simp at hc
                                  all_goals try (exfalso; omega; done)
                                  all_goals (
                                    refine AW.reg tiOk (fun _ => []) [4] ?_
                                    intro k hk; simp -dsimp (maxSteps := 2000000) [go_sem, -decide_eq_true_eq, -decide_eq_false_iff_not, hx, hwi]
                                    repeat' (first | refine And.intro ?_ ?_ | refine hk _ ?_ | (intro hg; try simp only [decide_eq_true_eq, decide_eq_false_iff_not] at hg) | (refine CallK.intro (dc_spec_l3Fault x.expr g2) ?_; simp -dsimp (maxSteps := 2000000) [go_sem, -decide_eq_true_eq, -decide_eq_false_iff_not, hx, hwi]) | omega | exact True.intro)
                                    all_goals clear hk k
                                    refine AW.retF (ow := []) (muts := []) ?_ (fun h => And.intro (.inr rfl) h)
                                    rw [hxo]
                                    first | (have hs : stepF ((pars p).take i) x = 1 := (by have := @inR_iff x.kind 1 8; unfold stepF; grind); rw [hs]; simp [go_sem, Try.results98]; done) | (have hs : stepF ((pars p).take i) x = 3 := (by have := @inR_iff x.kind 1 8; unfold stepF; grind); rw [hs]; simp [go_sem, Try.results98]; done) | (have hs : stepF ((pars p).take i) x = 2 := (by have := @inR_iff x.kind 1 8; unfold stepF; grind); rw [hs]; simp [go_sem, Try.results98]; done) | (have hs : stepF ((pars p).take i) x = nameF x.name := (by have := @inR_iff x.kind 1 8; unfold stepF; grind); rw [hs]; simp [go_sem, Try.results98]; done) | (have hs : stepF ((pars p).take i) x = exprF x.expr := (by have := @inR_iff x.kind 1 8; unfold stepF; grind); rw [hs]; simp [go_sem, Try.results98]; done) | (have hs : stepF ((pars p).take i) x = 0 := (by have := @inR_iff x.kind 1 8; unfold stepF; unfold alien at *; unfold lowA highA at *; grind); rw [hs]; simp [go_sem, Try.results98]))
                                · intro hc; try simp at hc
                                  all_goals try (exfalso; omega; done)
                                  all_goals (
                                    refine AW.skipN (fun _ h => h) ?_
                                    refine AW.reg tiOk (fun _ => []) [4] ?_
                                    intro k hk; simp -dsimp (maxSteps := 2000000) [go_sem, -decide_eq_true_eq, -decide_eq_false_iff_not, hx, hwi]
                                    repeat' (first | refine And.intro ?_ ?_ | refine hk _ ?_ | (intro hg; try simp only [decide_eq_true_eq, decide_eq_false_iff_not] at hg) | omega | exact True.intro)
                                    all_goals clear hk k
                                    refine AW.retF (ow := []) (muts := []) ?_ (fun h => And.intro (.inr rfl) h)
                                    rw [hxo]
                                    first | (have hs : stepF ((pars p).take i) x = 1 := (by have := @inR_iff x.kind 1 8; unfold stepF; grind); rw [hs]; simp [go_sem, Try.results98]; done) | (have hs : stepF ((pars p).take i) x = 3 := (by have := @inR_iff x.kind 1 8; unfold stepF; grind); rw [hs]; simp [go_sem, Try.results98]; done) | (have hs : stepF ((pars p).take i) x = 2 := (by have := @inR_iff x.kind 1 8; unfold stepF; grind); rw [hs]; simp [go_sem, Try.results98]; done) | (have hs : stepF ((pars p).take i) x = nameF x.name := (by have := @inR_iff x.kind 1 8; unfold stepF; grind); rw [hs]; simp [go_sem, Try.results98]; done) | (have hs : stepF ((pars p).take i) x = exprF x.expr := (by have := @inR_iff x.kind 1 8; unfold stepF; grind); rw [hs]; simp [go_sem, Try.results98]; done) | (have hs : stepF ((pars p).take i) x = 0 := (by have := @inR_iff x.kind 1 8; unfold stepF; unfold alien at *; unfold lowA highA at *; grind); rw [hs]; simp [go_sem, Try.results98]))))))))

end Go.AM

/-! ### G9 -/
set_option linter.unusedVariables false
set_option linter.unusedSimpArgs false
namespace Go.AM
open Go.Proofs

set_option maxHeartbeats 600000 in
set_option linter.unusedSimpArgs false in
set_option maxRecDepth 100000 in
/-- spec.l4Shape -/
theorem dc_spec_l4Shape (p : List TStep) (ho : StepsOk p) (hg : ∀ e ∈ p, e.gok) : DC Try.prog 99 [.isl 6 (p.map TStep.ro)] (.int .i64 (sc (shapeF p) p.length 0)) [] := by
  have hlen := ho.len
  refine DC.intro tiOk Try.func99 rfl rfl rfl rfl rfl rfl rfl rfl [] ?_
  refine AW.reg tiOk (fun _ => []) [0] ?_
  intro k hk; simp -dsimp (maxSteps := 2000000) [go_sem, -decide_eq_true_eq, -decide_eq_false_iff_not]
  repeat' (first | refine And.intro ?_ ?_ | refine hk _ ?_ | (intro hg; try simp only [decide_eq_true_eq, decide_eq_false_iff_not] at hg) | omega | exact True.intro)
  all_goals clear hk k
  refine AW.seq ?_
  refine AW.reg tiOk (fun _ => []) [0, 3] ?_
  intro k hk; simp -dsimp (maxSteps := 2000000) [go_sem, -decide_eq_true_eq, -decide_eq_false_iff_not]
  repeat' (first | refine And.intro ?_ ?_ | refine hk _ ?_ | (intro hg; try simp only [decide_eq_true_eq, decide_eq_false_iff_not] at hg) | omega | exact True.intro)
  all_goals clear hk k
  refine AW.block ?_
  -- live at the loop's head: [0, 3]
  refine AW.loopI (fun i : Nat => ⟨49, [(0, .isl 6 (p.map TStep.ro)), (3, .int .i64 i)], []⟩) (fun i => i ≤ p.length ∧ ∀ k, k < i → shapeF p k = 0) (fun i => p.length - i) (0) (by simp) (Less.of rfl (by simp [go_sem]) (by simp [go_sem])) ?_
  rintro i ⟨hi, hall⟩
  refine AW.seq ?_
  refine AW.reg tiOk (fun _ => []) [0, 3, 8] ?_
  intro k hk; simp -dsimp (maxSteps := 2000000) [go_sem, -decide_eq_true_eq, -decide_eq_false_iff_not]
  repeat' (first | refine And.intro ?_ ?_ | refine hk _ ?_ | (intro hg; try simp only [decide_eq_true_eq, decide_eq_false_iff_not] at hg) | omega | exact True.intro)
  all_goals clear hk k
  refine AW.cond rfl ?_ ?_
  · intro hc; try simp at hc
    all_goals (
      have hlt : i < p.length := by assumption
      obtain ⟨x, hx⟩ := at_some hlt
      have hxS := nS_at hx
      obtain ⟨g0, g1, g2⟩ := hg x (List.mem_of_getElem? hx)
      have hkm := kids_len p (i : Int)
      refine AW.skipN (fun _ h => h) ?_
      refine AW.seq ?_
      refine AW.block ?_
      refine AW.seq ?_
      refine AW.reg tiOk (fun _ => []) [0, 3, 21] ?_
      intro k hk; simp -dsimp (maxSteps := 2000000) [go_sem, -decide_eq_true_eq, -decide_eq_false_iff_not, hx]
      repeat' (first | refine And.intro ?_ ?_ | (refine Chk.keys ?_; simp only [go_sem, List.map_cons, List.map_nil, List.flatMap_cons, List.flatMap_nil, List.flatMap_append, List.append_nil, List.nil_append, List.cons_append]; decide +kernel) | refine hk _ ?_ | (intro hg; try simp only [decide_eq_true_eq, decide_eq_false_iff_not] at hg) | (refine CallK.intro (dc_spec_l4Kids p (i : Int) (by omega) (by rw [ho.par0]; omega)) ?_; simp -dsimp (maxSteps := 2000000) [go_sem, -decide_eq_true_eq, -decide_eq_false_iff_not, hx]) | (refine CallK.intro (dc_spec_l4Many x.kind (kids p (i : Int)).length (by omega)) ?_; simp -dsimp (maxSteps := 2000000) [go_sem, -decide_eq_true_eq, -decide_eq_false_iff_not, hx]) | omega | exact True.intro)
      all_goals clear hk k
      refine AW.cond rfl ?_ ?_
      · intro hc; try simp at hc
        all_goals (
          refine AW.reg tiOk (fun _ => []) [2] ?_
          intro k hk; simp -dsimp (maxSteps := 2000000) [go_sem, -decide_eq_true_eq, -decide_eq_false_iff_not, hx]
          repeat' (first | refine And.intro ?_ ?_ | refine hk _ ?_ | (intro hg; try simp only [decide_eq_true_eq, decide_eq_false_iff_not] at hg) | omega | exact True.intro)
          all_goals clear hk k
          refine AW.retF (ow := []) (muts := []) ?_ (fun h => And.intro (.inr rfl) h)
          first | (rw [sc_none (fun k hk => hall k (by omega))]; simp [go_sem, Try.results99]; done) | (have hs : shapeF p i = 1 := (by simp [shapeF, hxS] at * <;> grind); rw [shape_sc hlt hall (by rw [hs]; decide), hs]; simp [go_sem, Try.results99]; done) | (have hs : shapeF p i = exprF x.cond := (by simp [shapeF, hxS] at * <;> grind); rw [shape_sc hlt hall (by rw [hs]; first | assumption | simpa using hc), hs]; simp [go_sem, Try.results99]))
      · intro hc; try simp at hc
        all_goals (
          refine AW.skipN (fun _ h => h) ?_
          refine AW.seq ?_
          refine AW.reg tiOk (fun _ => []) [0, 3, 32] ?_
          intro k hk; simp -dsimp (maxSteps := 2000000) [go_sem, -decide_eq_true_eq, -decide_eq_false_iff_not, hx]
          repeat' (first | refine And.intro ?_ ?_ | (refine Chk.keys ?_; simp only [go_sem, List.map_cons, List.map_nil, List.flatMap_cons, List.flatMap_nil, List.flatMap_append, List.append_nil, List.nil_append, List.cons_append]; decide +kernel) | refine hk _ ?_ | (intro hg; try simp only [decide_eq_true_eq, decide_eq_false_iff_not] at hg) | (refine CallK.intro (dc_spec_l4Needs p ho i hlt) ?_; simp -dsimp (maxSteps := 2000000) [go_sem, -decide_eq_true_eq, -decide_eq_false_iff_not, hx]) | omega | exact True.intro)
          all_goals clear hk k
          refine AW.cond rfl ?_ ?_
          · intro hc; try simp at hc
            all_goals (
              refine AW.reg tiOk (fun _ => []) [2] ?_
              intro k hk; simp -dsimp (maxSteps := 2000000) [go_sem, -decide_eq_true_eq, -decide_eq_false_iff_not, hx]
              repeat' (first | refine And.intro ?_ ?_ | refine hk _ ?_ | (intro hg; try simp only [decide_eq_true_eq, decide_eq_false_iff_not] at hg) | omega | exact True.intro)
              all_goals clear hk k
              refine AW.retF (ow := []) (muts := []) ?_ (fun h => And.intro (.inr rfl) h)
              first | (rw [sc_none (fun k hk => hall k (by omega))]; simp [go_sem, Try.results99]; done) | (have hs : shapeF p i = 1 := (by simp [shapeF, hxS] at * <;> grind); rw [shape_sc hlt hall (by rw [hs]; decide), hs]; simp [go_sem, Try.results99]; done) | (have hs : shapeF p i = exprF x.cond := (by simp [shapeF, hxS] at * <;> grind); rw [shape_sc hlt hall (by rw [hs]; first | assumption | simpa using hc), hs]; simp [go_sem, Try.results99]))
          · intro hc; try simp at hc
            all_goals (
              refine AW.skipN (fun _ h => h) ?_
              refine AW.reg tiOk (fun _ => []) [0, 3, 39] ?_
              intro k hk; simp -dsimp (maxSteps := 2000000) [go_sem, -decide_eq_true_eq, -decide_eq_false_iff_not, hx]
              repeat' (first | refine And.intro ?_ ?_ | refine hk _ ?_ | (intro hg; try simp only [decide_eq_true_eq, decide_eq_false_iff_not] at hg) | omega | exact True.intro)
              all_goals clear hk k
              refine AW.cond rfl ?_ ?_
              · intro hc; try simp at hc
                all_goals (
                  refine AW.reg tiOk (fun _ => []) [0, 3, 4] ?_
                  intro k hk; simp -dsimp (maxSteps := 2000000) [go_sem, -decide_eq_true_eq, -decide_eq_false_iff_not, hx]
                  repeat' (first | refine And.intro ?_ ?_ | refine hk _ ?_ | (intro hg; try simp only [decide_eq_true_eq, decide_eq_false_iff_not] at hg) | (refine CallK.intro (dc_spec_l3Fault x.cond g1) ?_; simp -dsimp (maxSteps := 2000000) [go_sem, -decide_eq_true_eq, -decide_eq_false_iff_not, hx]) | omega | exact True.intro)
                  all_goals clear hk k
                  refine AW.reg tiOk (fun _ => []) [0, 3, 4, 47] ?_
                  intro k hk; simp -dsimp (maxSteps := 2000000) [go_sem, -decide_eq_true_eq, -decide_eq_false_iff_not, hx]
                  repeat' (first | refine And.intro ?_ ?_ | refine hk _ ?_ | (intro hg; try simp only [decide_eq_true_eq, decide_eq_false_iff_not] at hg) | omega | exact True.intro)
                  all_goals clear hk k
                  refine AW.cond rfl ?_ ?_
                  · intro hc; try simp at hc
                    all_goals (
                      refine AW.reg tiOk (fun _ => []) [2] ?_
                      intro k hk; simp -dsimp (maxSteps := 2000000) [go_sem, -decide_eq_true_eq, -decide_eq_false_iff_not, hx]
                      repeat' (first | refine And.intro ?_ ?_ | refine hk _ ?_ | (intro hg; try simp only [decide_eq_true_eq, decide_eq_false_iff_not] at hg) | omega | exact True.intro)
                      all_goals clear hk k
                      refine AW.retF (ow := []) (muts := []) ?_ (fun h => And.intro (.inr rfl) h)
                      first | (rw [sc_none (fun k hk => hall k (by omega))]; simp [go_sem, Try.results99]; done) | (have hs : shapeF p i = 1 := (by simp [shapeF, hxS] at * <;> grind); rw [shape_sc hlt hall (by rw [hs]; decide), hs]; simp [go_sem, Try.results99]; done) | (have hs : shapeF p i = exprF x.cond := (by simp [shapeF, hxS] at * <;> grind); rw [shape_sc hlt hall (by rw [hs]; first | assumption | simpa using hc), hs]; simp [go_sem, Try.results99]))
                  · intro hc; try simp at hc
                    all_goals (
                      refine AW.skipN (fun _ h => h) ?_
                      refine AW.regK tiOk (fun _ => []) ?_
                      intro k hk; simp -dsimp (maxSteps := 2000000) [go_sem, -decide_eq_true_eq, -decide_eq_false_iff_not, hx]
                      repeat' (first | refine And.intro ?_ ?_ | refine hk _ ?_ | (intro hg; try simp only [decide_eq_true_eq, decide_eq_false_iff_not] at hg) | omega | exact True.intro)
                      all_goals clear hk k
                      show ∃ _, _
                      have hw := wrapi hlt (by omega)
                      refine ⟨i + 1, ⟨by omega, upto hall (by simp [shapeF, hxS] at * <;> grind)⟩, by omega, Less.of rfl (by simp [go_sem, hw]) (by simp [go_sem])⟩))
              · intro hc; try simp at hc
                all_goals (
                  refine AW.skipN (fun _ h => h) ?_
                  refine AW.regK tiOk (fun _ => []) ?_
                  intro k hk; simp -dsimp (maxSteps := 2000000) [go_sem, -decide_eq_true_eq, -decide_eq_false_iff_not, hx]
                  repeat' (first | refine And.intro ?_ ?_ | refine hk _ ?_ | (intro hg; try simp only [decide_eq_true_eq, decide_eq_false_iff_not] at hg) | omega | exact True.intro)
                  all_goals clear hk k
                  show ∃ _, _
                  have hw := wrapi hlt (by omega)
                  refine ⟨i + 1, ⟨by omega, upto hall (by simp [shapeF, hxS] at * <;> grind)⟩, by omega, Less.of rfl (by simp [go_sem, hw]) (by simp [go_sem])⟩))))
  · intro hc; try simp at hc
    all_goals (
      refine AW.exitN (fun _ h => h) ?_
      refine AW.reg tiOk (fun _ => []) [2] ?_
      intro k hk; simp -dsimp (maxSteps := 2000000) [go_sem, -decide_eq_true_eq, -decide_eq_false_iff_not]
      repeat' (first | refine And.intro ?_ ?_ | refine hk _ ?_ | (intro hg; try simp only [decide_eq_true_eq, decide_eq_false_iff_not] at hg) | omega | exact True.intro)
      all_goals clear hk k
      refine AW.retF (ow := []) (muts := []) ?_ (fun h => And.intro (.inr rfl) h)
      first | (rw [sc_none (fun k hk => hall k (by omega))]; simp [go_sem, Try.results99]; done) | (have hs : shapeF p i = 1 := (by simp [shapeF, hxS] at * <;> grind); rw [shape_sc hlt hall (by rw [hs]; decide), hs]; simp [go_sem, Try.results99]; done) | (have hs : shapeF p i = exprF x.cond := (by simp [shapeF, hxS] at * <;> grind); rw [shape_sc hlt hall (by rw [hs]; first | assumption | simpa using hc), hs]; simp [go_sem, Try.results99]))

end Go.AM

/-! ### Ga -/
set_option linter.unusedVariables false
set_option linter.unusedSimpArgs false
namespace Go.AM
open Go.Proofs

set_option maxHeartbeats 600000 in
set_option linter.unusedSimpArgs false in
set_option maxRecDepth 100000 in
/-- spec.l4Fault -/
theorem dc_spec_l4Fault (p : List TStep) (hp : p.length ≤ 9223372036854775807) (hg : ∀ e ∈ p, e.gok) : DC Try.prog 74 [.isl 6 (p.map TStep.ro)] (.int .i64 (procF p)) [] := by
  refine DC.intro tiOk Try.func74 rfl rfl rfl rfl rfl rfl rfl rfl [] ?_
  refine AW.reg tiOk (fun _ => []) [0] ?_
  intro k hk; simp -dsimp (maxSteps := 2000000) [go_sem, -decide_eq_true_eq, -decide_eq_false_iff_not]
  repeat' (first | refine And.intro ?_ ?_ | refine hk _ ?_ | (intro hg; try simp only [decide_eq_true_eq, decide_eq_false_iff_not] at hg) | omega | exact True.intro)
  all_goals clear hk k
  refine AW.seq ?_
  refine AW.cut ⟨58, [(0, .isl 6 (p.map TStep.ro)), (16, .bool (decide (p.length < 1 ∨ 24 < p.length)))], []⟩ ?_ ?_
  · skip
    refine AW.regK tiOk (fun _ => []) ?_
    intro k hk; simp +contextual -dsimp (maxSteps := 2000000) [go_sem, -decide_eq_true_eq, -decide_eq_false_iff_not]
    repeat' (first | refine And.intro ?_ ?_ | refine hk _ ?_ | (intro hg; try simp only [decide_eq_true_eq, decide_eq_false_iff_not] at hg) | omega | exact True.intro)
    all_goals clear hk k
    all_goals (show St.Less _ _; exact Less.of rfl (by simp [go_sem, -Nat.lt_one_iff, -List.length_eq_zero_iff] <;> first | omega | grind) (by simp [go_sem]))
  · skip
    refine AW.cond rfl ?_ ?_
    · intro hc; try simp at hc
      all_goals (
        refine AW.reg tiOk (fun _ => []) [2] ?_
        intro k hk; simp -dsimp (maxSteps := 2000000) [go_sem, -decide_eq_true_eq, -decide_eq_false_iff_not]
        repeat' (first | refine And.intro ?_ ?_ | refine hk _ ?_ | (intro hg; try simp only [decide_eq_true_eq, decide_eq_false_iff_not] at hg) | omega | exact True.intro)
        all_goals clear hk k
        refine AW.retF (ow := []) (muts := []) ?_ (fun h => And.intro (.inr rfl) h)
        first | (rw [procF_len' (by simpa using hc)]; simp [go_sem, Try.results74]; done) | (rw [procF_ok hR h1 h2 h3]; simp [go_sem, Try.results74]; done) | (have hty : tyF p i = typF x.cond 2 := (by rw [hxt]; grind); rw [procF_ty hR h1 h2 hlt hal3 (by rw [hty]; first | assumption | simpa using hc), hty]; simp [go_sem, Try.results74]; done) | (have hty : tyF p i = typF x.expr 1 := (by rw [hxt]; grind); rw [procF_ty hR h1 h2 hlt hal3 (by rw [hty]; first | assumption | simpa using hc), hty]; simp [go_sem, Try.results74]; done) | (rw [procF_shape' hR h1 (by first | assumption | simpa using hc)]; simp [go_sem, Try.results74]; done) | (rw [procF_one hR hlt hall (by first | assumption | simpa using hc)]; simp [go_sem, Try.results74]))
    · intro hc; try simp at hc
      all_goals (
        refine AW.skipN (fun _ h => h) ?_
        refine AW.seq ?_
        have hlen : 1 ≤ p.length ∧ p.length ≤ 24 := by obtain ⟨h8, h9⟩ := hc; have : p.length ≠ 0 := (fun h => h8 (List.length_eq_zero_iff.1 h)); omega
        have hR : inR p.length 1 24 = true := inR_iff.2 (by omega)
        refine AW.reg tiOk (fun _ => []) [0, 3] ?_
        intro k hk; simp -dsimp (maxSteps := 2000000) [go_sem, -decide_eq_true_eq, -decide_eq_false_iff_not]
        repeat' (first | refine And.intro ?_ ?_ | refine hk _ ?_ | (intro hg; try simp only [decide_eq_true_eq, decide_eq_false_iff_not] at hg) | omega | exact True.intro)
        all_goals clear hk k
        refine AW.block ?_
        -- live at the loop's head: [0, 3]
        refine AW.loopI (fun i : Nat => ⟨58, [(0, .isl 6 (p.map TStep.ro)), (3, .int .i64 i)], []⟩) (fun i => i ≤ p.length ∧ ∀ k, k < i → oneF p k = 0) (fun i => p.length - i) (0) (by simp) (Less.of rfl (by simp [go_sem]) (by simp [go_sem])) ?_
        rintro i ⟨hi, hall⟩
        refine AW.seq ?_
        refine AW.reg tiOk (fun _ => []) [0, 3, 20] ?_
        intro k hk; simp -dsimp (maxSteps := 2000000) [go_sem, -decide_eq_true_eq, -decide_eq_false_iff_not]
        repeat' (first | refine And.intro ?_ ?_ | refine hk _ ?_ | (intro hg; try simp only [decide_eq_true_eq, decide_eq_false_iff_not] at hg) | omega | exact True.intro)
        all_goals clear hk k
        refine AW.cond rfl ?_ ?_
        · intro hc; try simp at hc
          all_goals (
            have hlt : i < p.length := by assumption
            refine AW.skipN (fun _ h => h) ?_
            refine AW.seq ?_
            refine AW.block ?_
            refine AW.reg tiOk (fun _ => []) [0, 3, 4] ?_
            intro k hk; simp -dsimp (maxSteps := 2000000) [go_sem, -decide_eq_true_eq, -decide_eq_false_iff_not]
            repeat' (first | refine And.intro ?_ ?_ | refine hk _ ?_ | (intro hg; try simp only [decide_eq_true_eq, decide_eq_false_iff_not] at hg) | (refine CallK.intro (dc_spec_l4One p (by omega) hg i hlt hall) ?_; simp -dsimp (maxSteps := 2000000) [go_sem, -decide_eq_true_eq, -decide_eq_false_iff_not]) | omega | exact True.intro)
            all_goals clear hk k
            refine AW.reg tiOk (fun _ => []) [0, 3, 4, 27] ?_
            intro k hk; simp -dsimp (maxSteps := 2000000) [go_sem, -decide_eq_true_eq, -decide_eq_false_iff_not]
            repeat' (first | refine And.intro ?_ ?_ | refine hk _ ?_ | (intro hg; try simp only [decide_eq_true_eq, decide_eq_false_iff_not] at hg) | omega | exact True.intro)
            all_goals clear hk k
            refine AW.cond rfl ?_ ?_
            · intro hc; try simp at hc
              all_goals (
                refine AW.reg tiOk (fun _ => []) [2] ?_
                intro k hk; simp -dsimp (maxSteps := 2000000) [go_sem, -decide_eq_true_eq, -decide_eq_false_iff_not]
                repeat' (first | refine And.intro ?_ ?_ | refine hk _ ?_ | (intro hg; try simp only [decide_eq_true_eq, decide_eq_false_iff_not] at hg) | omega | exact True.intro)
                all_goals clear hk k
                refine AW.retF (ow := []) (muts := []) ?_ (fun h => And.intro (.inr rfl) h)
                first | (rw [procF_len' (by simpa using hc)]; simp [go_sem, Try.results74]; done) | (rw [procF_ok hR h1 h2 h3]; simp [go_sem, Try.results74]; done) | (have hty : tyF p i = typF x.cond 2 := (by rw [hxt]; grind); rw [procF_ty hR h1 h2 hlt hal3 (by rw [hty]; first | assumption | simpa using hc), hty]; simp [go_sem, Try.results74]; done) | (have hty : tyF p i = typF x.expr 1 := (by rw [hxt]; grind); rw [procF_ty hR h1 h2 hlt hal3 (by rw [hty]; first | assumption | simpa using hc), hty]; simp [go_sem, Try.results74]; done) | (rw [procF_shape' hR h1 (by first | assumption | simpa using hc)]; simp [go_sem, Try.results74]; done) | (rw [procF_one hR hlt hall (by first | assumption | simpa using hc)]; simp [go_sem, Try.results74]))
            · intro hc; try simp at hc
              all_goals (
                refine AW.skipN (fun _ h => h) ?_
                refine AW.regK tiOk (fun _ => []) ?_
                intro k hk; simp -dsimp (maxSteps := 2000000) [go_sem, -decide_eq_true_eq, -decide_eq_false_iff_not]
                repeat' (first | refine And.intro ?_ ?_ | refine hk _ ?_ | (intro hg; try simp only [decide_eq_true_eq, decide_eq_false_iff_not] at hg) | omega | exact True.intro)
                all_goals clear hk k
                show ∃ _, _
                have hw := wrapi hlt (by omega)
                refine ⟨i + 1, ⟨by omega, upto hall (by first | assumption | simpa using hc)⟩, by omega, Less.of rfl (by simp [go_sem, hw]) (by simp [go_sem])⟩))
        · intro hc; try simp at hc
          all_goals (
            refine AW.exitN (fun _ h => h) ?_
            refine AW.seq ?_
            have h1 : ∀ k, k < p.length → oneF p k = 0 := fun k hk => hall k (by omega)
            have ho : StepsOk p := ⟨by omega, h1⟩
            refine AW.reg tiOk (fun _ => []) [0, 5] ?_
            intro k hk; simp -dsimp (maxSteps := 2000000) [go_sem, -decide_eq_true_eq, -decide_eq_false_iff_not]
            repeat' (first | refine And.intro ?_ ?_ | refine hk _ ?_ | (intro hg; try simp only [decide_eq_true_eq, decide_eq_false_iff_not] at hg) | (refine CallK.intro (dc_spec_l4Shape p ho hg) ?_; simp -dsimp (maxSteps := 2000000) [go_sem, -decide_eq_true_eq, -decide_eq_false_iff_not]) | omega | exact True.intro)
            all_goals clear hk k
            refine AW.reg tiOk (fun _ => []) [0, 5, 32] ?_
            intro k hk; simp -dsimp (maxSteps := 2000000) [go_sem, -decide_eq_true_eq, -decide_eq_false_iff_not]
            repeat' (first | refine And.intro ?_ ?_ | refine hk _ ?_ | (intro hg; try simp only [decide_eq_true_eq, decide_eq_false_iff_not] at hg) | omega | exact True.intro)
            all_goals clear hk k
            refine AW.cond rfl ?_ ?_
            · intro hc; try simp at hc
              all_goals (
                refine AW.reg tiOk (fun _ => []) [2] ?_
                intro k hk; simp -dsimp (maxSteps := 2000000) [go_sem, -decide_eq_true_eq, -decide_eq_false_iff_not]
                repeat' (first | refine And.intro ?_ ?_ | refine hk _ ?_ | (intro hg; try simp only [decide_eq_true_eq, decide_eq_false_iff_not] at hg) | omega | exact True.intro)
                all_goals clear hk k
                refine AW.retF (ow := []) (muts := []) ?_ (fun h => And.intro (.inr rfl) h)
                first | (rw [procF_len' (by simpa using hc)]; simp [go_sem, Try.results74]; done) | (rw [procF_ok hR h1 h2 h3]; simp [go_sem, Try.results74]; done) | (have hty : tyF p i = typF x.cond 2 := (by rw [hxt]; grind); rw [procF_ty hR h1 h2 hlt hal3 (by rw [hty]; first | assumption | simpa using hc), hty]; simp [go_sem, Try.results74]; done) | (have hty : tyF p i = typF x.expr 1 := (by rw [hxt]; grind); rw [procF_ty hR h1 h2 hlt hal3 (by rw [hty]; first | assumption | simpa using hc), hty]; simp [go_sem, Try.results74]; done) | (rw [procF_shape' hR h1 (by first | assumption | simpa using hc)]; simp [go_sem, Try.results74]; done) | (rw [procF_one hR hlt hall (by first | assumption | simpa using hc)]; simp [go_sem, Try.results74]))
            · intro hc; try simp at hc
              all_goals (
                refine AW.skipN (fun _ h => h) ?_
                refine AW.seq ?_
                have h2 : ∀ k, k < p.length → shapeF p k = 0 := sc_all (by first | assumption | simpa using hc)
                refine AW.reg tiOk (fun _ => []) [0, 6] ?_
                intro k hk; simp -dsimp (maxSteps := 2000000) [go_sem, -decide_eq_true_eq, -decide_eq_false_iff_not]
                repeat' (first | refine And.intro ?_ ?_ | refine hk _ ?_ | (intro hg; try simp only [decide_eq_true_eq, decide_eq_false_iff_not] at hg) | omega | exact True.intro)
                all_goals clear hk k
                refine AW.block ?_
                -- live at the loop's head: [0, 6]
                refine AW.loopI (fun i : Nat => ⟨58, [(0, .isl 6 (p.map TStep.ro)), (6, .int .i64 i)], []⟩) (fun i => i ≤ p.length ∧ ∀ k, k < i → tyF p k = 0) (fun i => p.length - i) (0) (by simp) (Less.of rfl (by simp [go_sem]) (by simp [go_sem])) ?_
                rintro i ⟨hi, hal3⟩
                refine AW.seq ?_
                refine AW.reg tiOk (fun _ => []) [0, 6, 37] ?_
                intro k hk; simp -dsimp (maxSteps := 2000000) [go_sem, -decide_eq_true_eq, -decide_eq_false_iff_not]
                repeat' (first | refine And.intro ?_ ?_ | refine hk _ ?_ | (intro hg; try simp only [decide_eq_true_eq, decide_eq_false_iff_not] at hg) | omega | exact True.intro)
                all_goals clear hk k
                refine AW.cond rfl ?_ ?_
                · intro hc; try simp at hc
                  all_goals (
                    have hlt : i < p.length := by assumption
                    obtain ⟨x, hx⟩ := at_some hlt
                    have hxt := tyF_at hx
                    obtain ⟨g0, g1, g2⟩ := hg x (List.mem_of_getElem? hx)
                    refine AW.skipN (fun _ h => h) ?_
                    refine AW.seq ?_
                    refine AW.block ?_
                    refine AW.seq ?_
                    refine AW.reg tiOk (fun _ => []) [0, 6, 7] ?_
                    intro k hk; simp -dsimp (maxSteps := 2000000) [go_sem, -decide_eq_true_eq, -decide_eq_false_iff_not, hx]
                    repeat' (first | refine And.intro ?_ ?_ | refine hk _ ?_ | (intro hg; try simp only [decide_eq_true_eq, decide_eq_false_iff_not] at hg) | (refine CallK.intro (dc_spec_l4Typed x.cond 2 g1) ?_; simp -dsimp (maxSteps := 2000000) [go_sem, -decide_eq_true_eq, -decide_eq_false_iff_not, hx]) | (refine CallK.intro (dc_spec_l4Typed x.expr 1 g2) ?_; simp -dsimp (maxSteps := 2000000) [go_sem, -decide_eq_true_eq, -decide_eq_false_iff_not, hx]) | omega | exact True.intro)
                    all_goals clear hk k
                    refine AW.reg tiOk (fun _ => []) [0, 6, 7, 47] ?_
                    intro k hk; simp -dsimp (maxSteps := 2000000) [go_sem, -decide_eq_true_eq, -decide_eq_false_iff_not, hx]
                    repeat' (first | refine And.intro ?_ ?_ | refine hk _ ?_ | (intro hg; try simp only [decide_eq_true_eq, decide_eq_false_iff_not] at hg) | omega | exact True.intro)
                    all_goals clear hk k
                    refine AW.cond rfl ?_ ?_
                    · intro hc; try simp at hc
                      all_goals (
                        refine AW.reg tiOk (fun _ => []) [2] ?_
                        intro k hk; simp -dsimp (maxSteps := 2000000) [go_sem, -decide_eq_true_eq, -decide_eq_false_iff_not, hx]
                        repeat' (first | refine And.intro ?_ ?_ | refine hk _ ?_ | (intro hg; try simp only [decide_eq_true_eq, decide_eq_false_iff_not] at hg) | omega | exact True.intro)
                        all_goals clear hk k
                        refine AW.retF (ow := []) (muts := []) ?_ (fun h => And.intro (.inr rfl) h)
                        first | (rw [procF_len' (by simpa using hc)]; simp [go_sem, Try.results74]; done) | (rw [procF_ok hR h1 h2 h3]; simp [go_sem, Try.results74]; done) | (have hty : tyF p i = typF x.cond 2 := (by rw [hxt]; grind); rw [procF_ty hR h1 h2 hlt hal3 (by rw [hty]; first | assumption | simpa using hc), hty]; simp [go_sem, Try.results74]; done) | (have hty : tyF p i = typF x.expr 1 := (by rw [hxt]; grind); rw [procF_ty hR h1 h2 hlt hal3 (by rw [hty]; first | assumption | simpa using hc), hty]; simp [go_sem, Try.results74]; done) | (rw [procF_shape' hR h1 (by first | assumption | simpa using hc)]; simp [go_sem, Try.results74]; done) | (rw [procF_one hR hlt hall (by first | assumption | simpa using hc)]; simp [go_sem, Try.results74]))
                    · intro hc; try simp at hc
                      all_goals (
                        refine AW.skipN (fun _ h => h) ?_
                        refine AW.reg tiOk (fun _ => []) [0, 6, 8] ?_
                        intro k hk; simp -dsimp (maxSteps := 2000000) [go_sem, -decide_eq_true_eq, -decide_eq_false_iff_not, hx]
                        repeat' (first | refine And.intro ?_ ?_ | refine hk _ ?_ | (intro hg; try simp only [decide_eq_true_eq, decide_eq_false_iff_not] at hg) | (refine CallK.intro (dc_spec_l4Typed x.cond 2 g1) ?_; simp -dsimp (maxSteps := 2000000) [go_sem, -decide_eq_true_eq, -decide_eq_false_iff_not, hx]) | (refine CallK.intro (dc_spec_l4Typed x.expr 1 g2) ?_; simp -dsimp (maxSteps := 2000000) [go_sem, -decide_eq_true_eq, -decide_eq_false_iff_not, hx]) | omega | exact True.intro)
                        all_goals clear hk k
                        refine AW.reg tiOk (fun _ => []) [0, 6, 8, 56] ?_
                        intro k hk; simp -dsimp (maxSteps := 2000000) [go_sem, -decide_eq_true_eq, -decide_eq_false_iff_not, hx]
                        repeat' (first | refine And.intro ?_ ?_ | refine hk _ ?_ | (intro hg; try simp only [decide_eq_true_eq, decide_eq_false_iff_not] at hg) | omega | exact True.intro)
                        all_goals clear hk k
                        refine AW.cond rfl ?_ ?_
                        · intro hc; try simp at hc
                          all_goals (
                            refine AW.reg tiOk (fun _ => []) [2] ?_
                            intro k hk; simp -dsimp (maxSteps := 2000000) [go_sem, -decide_eq_true_eq, -decide_eq_false_iff_not, hx]
                            repeat' (first | refine And.intro ?_ ?_ | refine hk _ ?_ | (intro hg; try simp only [decide_eq_true_eq, decide_eq_false_iff_not] at hg) | omega | exact True.intro)
                            all_goals clear hk k
                            refine AW.retF (ow := []) (muts := []) ?_ (fun h => And.intro (.inr rfl) h)
                            first | (rw [procF_len' (by simpa using hc)]; simp [go_sem, Try.results74]; done) | (rw [procF_ok hR h1 h2 h3]; simp [go_sem, Try.results74]; done) | (have hty : tyF p i = typF x.cond 2 := (by rw [hxt]; grind); rw [procF_ty hR h1 h2 hlt hal3 (by rw [hty]; first | assumption | simpa using hc), hty]; simp [go_sem, Try.results74]; done) | (have hty : tyF p i = typF x.expr 1 := (by rw [hxt]; grind); rw [procF_ty hR h1 h2 hlt hal3 (by rw [hty]; first | assumption | simpa using hc), hty]; simp [go_sem, Try.results74]; done) | (rw [procF_shape' hR h1 (by first | assumption | simpa using hc)]; simp [go_sem, Try.results74]; done) | (rw [procF_one hR hlt hall (by first | assumption | simpa using hc)]; simp [go_sem, Try.results74]))
                        · intro hc; try simp at hc
                          all_goals (
                            refine AW.skipN (fun _ h => h) ?_
                            refine AW.regK tiOk (fun _ => []) ?_
                            intro k hk; simp -dsimp (maxSteps := 2000000) [go_sem, -decide_eq_true_eq, -decide_eq_false_iff_not, hx]
                            repeat' (first | refine And.intro ?_ ?_ | refine hk _ ?_ | (intro hg; try simp only [decide_eq_true_eq, decide_eq_false_iff_not] at hg) | omega | exact True.intro)
                            all_goals clear hk k
                            show ∃ _, _
                            have hw := wrapi hlt (by omega)
                            have htz : tyF p i = 0 := by rw [hxt]; grind
                            refine ⟨i + 1, ⟨by omega, upto hal3 htz⟩, by omega, Less.of rfl (by simp [go_sem, hw]) (by simp [go_sem])⟩)))
                · intro hc; try simp at hc
                  all_goals (
                    refine AW.exitN (fun _ h => h) ?_
                    have h3 : ∀ k, k < p.length → tyF p k = 0 := fun k hk => hal3 k (by omega)
                    refine AW.reg tiOk (fun _ => []) [2] ?_
                    intro k hk; simp -dsimp (maxSteps := 2000000) [go_sem, -decide_eq_true_eq, -decide_eq_false_iff_not]
                    repeat' (first | refine And.intro ?_ ?_ | refine hk _ ?_ | (intro hg; try simp only [decide_eq_true_eq, decide_eq_false_iff_not] at hg) | omega | exact True.intro)
                    all_goals clear hk k
                    refine AW.retF (ow := []) (muts := []) ?_ (fun h => And.intro (.inr rfl) h)
                    first | (rw [procF_len' (by simpa using hc)]; simp [go_sem, Try.results74]; done) | (rw [procF_ok hR h1 h2 h3]; simp [go_sem, Try.results74]; done) | (have hty : tyF p i = typF x.cond 2 := (by rw [hxt]; grind); rw [procF_ty hR h1 h2 hlt hal3 (by rw [hty]; first | assumption | simpa using hc), hty]; simp [go_sem, Try.results74]; done) | (have hty : tyF p i = typF x.expr 1 := (by rw [hxt]; grind); rw [procF_ty hR h1 h2 hlt hal3 (by rw [hty]; first | assumption | simpa using hc), hty]; simp [go_sem, Try.results74]; done) | (rw [procF_shape' hR h1 (by first | assumption | simpa using hc)]; simp [go_sem, Try.results74]; done) | (rw [procF_one hR hlt hall (by first | assumption | simpa using hc)]; simp [go_sem, Try.results74])))))

end Go.AM

/-! ### H4 -/
set_option linter.unusedVariables false
set_option linter.unusedSimpArgs false
namespace Go.AM
open Go.Proofs

set_option maxHeartbeats 4000000 in
set_option linter.unusedSimpArgs false in
set_option maxRecDepth 100000 in
/-- spec.l9Wrong -/
theorem dc_spec_l9Wrong (p : List TStep) (c : TChart) (ho : StepsOk p) (hla : c.acts.length = p.length) (hld : c.dues.length = p.length) (i : Nat) (hi : i < p.length) : DC Try.prog 78 [.isl 6 (p.map TStep.ro), .ip c.ro, .int .i64 (i : Nat)] (.bool (wrong9 p c (i : Int))) [] := by
  have hlen := ho.len
  obtain ⟨x, hx⟩ := at_some hi
  have hxS := nS_at hx
  have haa := actN_at (c := c) (show i < c.acts.length by omega)
  have hdd := dueN_at (c := c) (show i < c.dues.length by omega)
  have hkl := kids_len p (i : Int)
  have hkb : ∀ k ∈ (kids p (i : Int)), 0 ≤ k ∧ k.toNat < c.acts.length := fun k hk => by have := kids_bd hk; omega
  have hc1 := cnt_le c 1 (kids p (i : Int))
  have hc2 := cnt_le c 2 (kids p (i : Int))
  have hwn : IntKind.wrap .i64 (cnt c 1 (kids p (i : Int)) + cnt c 2 (kids p (i : Int))) = cnt c 1 (kids p (i : Int)) + cnt c 2 (kids p (i : Int)) := wrap64 (by omega) (by omega)
  refine DC.intro tiOk Try.func78 rfl rfl rfl rfl rfl rfl rfl rfl [] ?_
  refine AW.reg tiOk (fun _ => []) [0, 1, 2] ?_
  intro k hk; simp -dsimp (maxSteps := 2000000) [go_sem, -decide_eq_true_eq, -decide_eq_false_iff_not, hx, haa, hdd]
  repeat' (first | refine And.intro ?_ ?_ | refine hk _ ?_ | (intro hg; try simp only [decide_eq_true_eq, decide_eq_false_iff_not] at hg) | omega | exact True.intro | (refine And.elim (fun h8 h9 => ?_) (hho ?_) <;> first | assumption | omega) | fail)
  all_goals clear hk k
  refine AW.reg tiOk (fun _ => []) [0, 1, 2, 7] ?_
  intro k hk; simp -dsimp (maxSteps := 2000000) [go_sem, -decide_eq_true_eq, -decide_eq_false_iff_not, hx, haa, hdd]
  repeat' (first | refine And.intro ?_ ?_ | refine hk _ ?_ | (intro hg; try simp only [decide_eq_true_eq, decide_eq_false_iff_not] at hg) | (refine CallK.intro (dc_spec_l4Kids p (i : Int) (by omega) (by rw [ho.par0]; omega)) ?_; simp -dsimp (maxSteps := 2000000) [go_sem, -decide_eq_true_eq, -decide_eq_false_iff_not, hx, haa, hdd]) | omega | exact True.intro | (refine And.elim (fun h8 h9 => ?_) (hho ?_) <;> first | assumption | omega) | fail)
  all_goals clear hk k
  refine AW.reg tiOk (fun _ => []) [0, 1, 2, 7, 8] ?_
  intro k hk; simp -dsimp (maxSteps := 2000000) [go_sem, -decide_eq_true_eq, -decide_eq_false_iff_not, hx, haa, hdd]
  repeat' (first | refine And.intro ?_ ?_ | refine hk _ ?_ | (intro hg; try simp only [decide_eq_true_eq, decide_eq_false_iff_not] at hg) | omega | exact True.intro | (refine And.elim (fun h8 h9 => ?_) (hho ?_) <;> first | assumption | omega) | fail)
  all_goals clear hk k
  refine AW.reg tiOk (fun _ => []) [0, 1, 2, 7, 8, 9] ?_
  intro k hk; simp -dsimp (maxSteps := 2000000) [go_sem, -decide_eq_true_eq, -decide_eq_false_iff_not, hx, haa, hdd]
  repeat' (first | refine And.intro ?_ ?_ | refine hk _ ?_ | (intro hg; try simp only [decide_eq_true_eq, decide_eq_false_iff_not] at hg) | omega | exact True.intro | (refine And.elim (fun h8 h9 => ?_) (hho ?_) <;> first | assumption | omega) | fail)
  all_goals clear hk k
  refine AW.seq ?_
  refine AW.reg tiOk (fun _ => []) [0, 1, 2, 7, 8, 9, 10] ?_
  intro k hk; simp -dsimp (maxSteps := 2000000) [go_sem, -decide_eq_true_eq, -decide_eq_false_iff_not, hx, haa, hdd]
  repeat' (first | refine And.intro ?_ ?_ | refine hk _ ?_ | (intro hg; try simp only [decide_eq_true_eq, decide_eq_false_iff_not] at hg) | omega | exact True.intro | (refine And.elim (fun h8 h9 => ?_) (hho ?_) <;> first | assumption | omega) | fail)
  all_goals clear hk k
  refine AW.block ?_
  -- live at the loop's head: [0, 1, 2, 7, 8, 9, 10]
  refine AW.loopI (fun j : Nat => ⟨130, [(0, .isl 6 (p.map TStep.ro)), (1, .ip c.ro), (2, .int .i64 (i : Nat)), (7, .sl 1014 1 0 (kids p (i : Int)).length), (8, .int .i64 (cnt c 1 ((kids p (i : Int)).take j))), (9, .int .i64 (cnt c 2 ((kids p (i : Int)).take j))), (10, .int .i64 j)], [(1014, some ⟨1, (kids p (i : Int)).map I1⟩)]⟩) (fun j => j ≤ (kids p (i : Int)).length) (fun j => (kids p (i : Int)).length - j) (0) (by simp) (Less.of rfl (by simp [go_sem, cnt]) (by simp [go_sem])) ?_
  rintro j hj
  refine AW.seq ?_
  refine AW.reg tiOk (fun _ => []) [0, 1, 2, 7, 8, 9, 10, 18] ?_
  intro k hk; simp -dsimp (maxSteps := 2000000) [go_sem, -decide_eq_true_eq, -decide_eq_false_iff_not, hx, haa, hdd]
  repeat' (first | refine And.intro ?_ ?_ | refine hk _ ?_ | (intro hg; try simp only [decide_eq_true_eq, decide_eq_false_iff_not] at hg) | omega | exact True.intro | (refine And.elim (fun h8 h9 => ?_) (hho ?_) <;> first | assumption | omega) | fail)
  all_goals clear hk k
  refine AW.cond rfl ?_ ?_
  · intro hc; try simp at hc
    all_goals try (exfalso; omega; done)
    all_goals (
      have hlt : j < (kids p (i : Int)).length := by assumption
      obtain ⟨y, hy⟩ := at_some hlt
      obtain ⟨hy0, hy1⟩ := hkb y (List.mem_of_getElem? hy)
      have hya := actA_at hy1
      have hs1 := cnt_step (c := c) (a := 1) hy
      have hs2 := cnt_step (c := c) (a := 2) hy
      have hcl1 := cnt_le c 1 ((kids p (i : Int)).take j)
      have hcl2 := cnt_le c 2 ((kids p (i : Int)).take j)
      have hcl3 : ((kids p (i : Int)).take j).length ≤ 24 := by rw [List.length_take]; omega
      have hwc1 : IntKind.wrap .i64 (cnt c 1 ((kids p (i : Int)).take j) + 1) = cnt c 1 ((kids p (i : Int)).take j) + 1 := wrap64 (by omega) (by omega)
      have hwc2 : IntKind.wrap .i64 (cnt c 2 ((kids p (i : Int)).take j) + 1) = cnt c 2 ((kids p (i : Int)).take j) + 1 := wrap64 (by omega) (by omega)
      refine AW.skipN (fun _ h => h) ?_
      refine AW.seq ?_
      refine AW.block ?_
      refine AW.reg tiOk (fun _ => []) [0, 1, 2, 7, 8, 9, 10, 30] ?_
      intro k hk; simp -dsimp (maxSteps := 2000000) [go_sem, -decide_eq_true_eq, -decide_eq_false_iff_not, hx, haa, hdd, hy, hya, hwc1, hwc2]
      repeat' (first | refine And.intro ?_ ?_ | (refine Chk.keys ?_; simp only [go_sem, List.map_cons, List.map_nil, List.flatMap_cons, List.flatMap_nil, List.flatMap_append, List.append_nil, List.nil_append, List.cons_append]; decide +kernel) | refine hk _ ?_ | (intro hg; try simp only [decide_eq_true_eq, decide_eq_false_iff_not] at hg) | omega | exact True.intro | (refine And.elim (fun h8 h9 => ?_) (hho ?_) <;> first | assumption | omega) | fail)
      all_goals clear hk k
      refine AW.block ?_
      refine AW.reg tiOk (fun _ => []) [0, 1, 2, 7, 8, 9, 10, 30, 31] ?_
      intro k hk; simp -dsimp (maxSteps := 2000000) [go_sem, -decide_eq_true_eq, -decide_eq_false_iff_not, hx, haa, hdd, hy, hya, hwc1, hwc2]
      repeat' (first | refine And.intro ?_ ?_ | refine hk _ ?_ | (intro hg; try simp only [decide_eq_true_eq, decide_eq_false_iff_not] at hg) | omega | exact True.intro | (refine And.elim (fun h8 h9 => ?_) (hho ?_) <;> first | assumption | omega) | fail)
      all_goals clear hk k
      refine AW.cond rfl ?_ ?_
      · intro hc; try simp at hc
        all_goals try (exfalso; omega; done)
        all_goals (
          refine AW.regN tiOk (fun _ => []) [0, 1, 2, 7, 8, 9, 10] (fun _ h => h) ?_
          intro k hk; simp -dsimp (maxSteps := 2000000) [go_sem, -decide_eq_true_eq, -decide_eq_false_iff_not, hx, haa, hdd, hy, hya, hwc1, hwc2]
          repeat' (first | refine And.intro ?_ ?_ | refine hk _ ?_ | (intro hg; try simp only [decide_eq_true_eq, decide_eq_false_iff_not] at hg) | omega | exact True.intro | (refine And.elim (fun h8 h9 => ?_) (hho ?_) <;> first | assumption | omega) | fail)
          all_goals clear hk k
          refine AW.regK tiOk (fun _ => []) ?_
          intro k hk; simp -dsimp (maxSteps := 2000000) [go_sem, -decide_eq_true_eq, -decide_eq_false_iff_not, hx, haa, hdd, hy, hya, hwc1, hwc2]
          repeat' (first | refine And.intro ?_ ?_ | refine hk _ ?_ | (intro hg; try simp only [decide_eq_true_eq, decide_eq_false_iff_not] at hg) | omega | exact True.intro | (refine And.elim (fun h8 h9 => ?_) (hho ?_) <;> first | assumption | omega) | fail)
          all_goals clear hk k
          show ∃ _, _
          have hw := wrapi hlt (by omega)
          refine ⟨j + 1, by omega, by omega, Less.of rfl (by simp [go_sem, hw, hs1, hs2] <;> grind) (by simp [go_sem])⟩)
      · intro hc; try simp at hc
        all_goals try (exfalso; omega; done)
        all_goals (
          refine AW.reg tiOk (fun _ => []) [0, 1, 2, 7, 8, 9, 10, 35] ?_
          intro k hk; simp -dsimp (maxSteps := 2000000) [go_sem, -decide_eq_true_eq, -decide_eq_false_iff_not, hx, haa, hdd, hy, hya, hwc1, hwc2]
          repeat' (first | refine And.intro ?_ ?_ | refine hk _ ?_ | (intro hg; try simp only [decide_eq_true_eq, decide_eq_false_iff_not] at hg) | omega | exact True.intro | (refine And.elim (fun h8 h9 => ?_) (hho ?_) <;> first | assumption | omega) | fail)
          all_goals clear hk k
          refine AW.cond rfl ?_ ?_
          · intro hc; try simp at hc
            all_goals try (exfalso; omega; done)
            all_goals (
              refine AW.regN tiOk (fun _ => []) [0, 1, 2, 7, 8, 9, 10] (fun _ h => h) ?_
              intro k hk; simp -dsimp (maxSteps := 2000000) [go_sem, -decide_eq_true_eq, -decide_eq_false_iff_not, hx, haa, hdd, hy, hya, hwc1, hwc2]
              repeat' (first | refine And.intro ?_ ?_ | refine hk _ ?_ | (intro hg; try simp only [decide_eq_true_eq, decide_eq_false_iff_not] at hg) | omega | exact True.intro | (refine And.elim (fun h8 h9 => ?_) (hho ?_) <;> first | assumption | omega) | fail)
              all_goals clear hk k
              refine AW.regK tiOk (fun _ => []) ?_
              intro k hk; simp -dsimp (maxSteps := 2000000) [go_sem, -decide_eq_true_eq, -decide_eq_false_iff_not, hx, haa, hdd, hy, hya, hwc1, hwc2]
              repeat' (first | refine And.intro ?_ ?_ | refine hk _ ?_ | (intro hg; try simp only [decide_eq_true_eq, decide_eq_false_iff_not] at hg) | omega | exact True.intro | (refine And.elim (fun h8 h9 => ?_) (hho ?_) <;> first | assumption | omega) | fail)
              all_goals clear hk k
              show ∃ _, _
              have hw := wrapi hlt (by omega)
              refine ⟨j + 1, by omega, by omega, Less.of rfl (by simp [go_sem, hw, hs1, hs2] <;> grind) (by simp [go_sem])⟩)
          · intro hc; try simp at hc
            all_goals try (exfalso; omega; done)
            all_goals (
              refine AW.skipN (fun _ h => h) ?_
              refine AW.regK tiOk (fun _ => []) ?_
              intro k hk; simp -dsimp (maxSteps := 2000000) [go_sem, -decide_eq_true_eq, -decide_eq_false_iff_not, hx, haa, hdd, hy, hya, hwc1, hwc2]
              repeat' (first | refine And.intro ?_ ?_ | refine hk _ ?_ | (intro hg; try simp only [decide_eq_true_eq, decide_eq_false_iff_not] at hg) | omega | exact True.intro | (refine And.elim (fun h8 h9 => ?_) (hho ?_) <;> first | assumption | omega) | fail)
              all_goals clear hk k
              show ∃ _, _
              have hw := wrapi hlt (by omega)
              refine ⟨j + 1, by omega, by omega, Less.of rfl (by simp [go_sem, hw, hs1, hs2] <;> grind) (by simp [go_sem])⟩)))
  · intro hc; try simp at hc
    all_goals try (exfalso; omega; done)
    all_goals (
      refine AW.exitN (fun _ h => h) ?_
      refine AW.seq ?_
      have htk : ((kids p (i : Int)).take j) = (kids p (i : Int)) := List.take_of_length_le (by omega)
      rw [htk]
      refine AW.reg tiOk (fun _ => []) [0, 1, 2, 7, 8, 9, 46] ?_
      intro k hk; simp -dsimp (maxSteps := 2000000) [go_sem, -decide_eq_true_eq, -decide_eq_false_iff_not, hx, haa, hdd]
      repeat' (first | refine And.intro ?_ ?_ | refine hk _ ?_ | (intro hg; try simp only [decide_eq_true_eq, decide_eq_false_iff_not] at hg) | omega | exact True.intro | (refine And.elim (fun h8 h9 => ?_) (hho ?_) <;> first | assumption | omega) | fail)
      all_goals clear hk k
      refine AW.cond rfl ?_ ?_
      · intro hc; try simp at hc
        all_goals try (exfalso; omega; done)
        all_goals (
          refine AW.reg tiOk (fun _ => []) [6] ?_
          intro k hk; simp +contextual -dsimp (maxSteps := 2000000) [go_sem, -decide_eq_true_eq, -decide_eq_false_iff_not, hx, haa, hdd, hwn]
          repeat' (first | refine And.intro ?_ ?_ | refine hk _ ?_ | (intro hg; try simp only [decide_eq_true_eq, decide_eq_false_iff_not] at hg) | omega | exact True.intro | (refine And.elim (fun h8 h9 => ?_) (hho ?_) <;> first | assumption | omega) | fail)
          all_goals clear hk k
          all_goals (
            refine AW.retF (ow := []) (muts := []) ?_ (fun h => And.intro (.inr rfl) h)
            rw [wrong9_at hx]
            simp [go_sem, Try.results78] at * <;> grind))
      · intro hc; try simp at hc
        all_goals try (exfalso; omega; done)
        all_goals (
          refine AW.skipN (fun _ h => h) ?_
          refine AW.reg tiOk (fun _ => []) [0, 1, 2, 7, 8, 9, 11] ?_
          intro k hk; simp -dsimp (maxSteps := 2000000) [go_sem, -decide_eq_true_eq, -decide_eq_false_iff_not, hx, haa, hdd]
          repeat' (first | refine And.intro ?_ ?_ | refine hk _ ?_ | (intro hg; try simp only [decide_eq_true_eq, decide_eq_false_iff_not] at hg) | omega | exact True.intro | (refine And.elim (fun h8 h9 => ?_) (hho ?_) <;> first | assumption | omega) | fail)
          all_goals clear hk k
          refine AW.seq ?_
          refine AW.reg tiOk (fun _ => []) [1, 7, 8, 9, 11, 73] ?_
          intro k hk; simp -dsimp (maxSteps := 2000000) [go_sem, -decide_eq_true_eq, -decide_eq_false_iff_not, hx, haa, hdd]
          repeat' (first | refine And.intro ?_ ?_ | refine hk _ ?_ | (intro hg; try simp only [decide_eq_true_eq, decide_eq_false_iff_not] at hg) | omega | exact True.intro | (refine And.elim (fun h8 h9 => ?_) (hho ?_) <;> first | assumption | omega) | fail)
          all_goals clear hk k
          refine AW.block ?_
          refine AW.seq ?_
          refine AW.reg tiOk (fun _ => []) [1, 7, 8, 9, 11, 73, 74] ?_
          intro k hk; simp -dsimp (maxSteps := 2000000) [go_sem, -decide_eq_true_eq, -decide_eq_false_iff_not, hx, haa, hdd]
          repeat' (first | refine And.intro ?_ ?_ | refine hk _ ?_ | (intro hg; try simp only [decide_eq_true_eq, decide_eq_false_iff_not] at hg) | omega | exact True.intro | (refine And.elim (fun h8 h9 => ?_) (hho ?_) <;> first | assumption | omega) | fail)
          all_goals clear hk k
          refine AW.cond rfl ?_ ?_
          · intro hc; try simp at hc
            all_goals try (exfalso; omega; done)
            all_goals (
              refine AW.skipN (fun _ h => h) ?_
              refine AW.cond rfl ?_ ?_
              · intro hc; try simp at hc
                all_goals try (exfalso; omega; done)
                all_goals (
                  refine AW.reg tiOk (fun _ => []) [6] ?_
                  intro k hk; simp +contextual -dsimp (maxSteps := 2000000) [go_sem, -decide_eq_true_eq, -decide_eq_false_iff_not, hx, haa, hdd]
                  repeat' (first | refine And.intro ?_ ?_ | refine hk _ ?_ | (intro hg; try simp only [decide_eq_true_eq, decide_eq_false_iff_not] at hg) | omega | exact True.intro | (refine And.elim (fun h8 h9 => ?_) (hho ?_) <;> first | assumption | omega) | fail)
                  all_goals clear hk k
                  all_goals (
                    refine AW.retF (ow := []) (muts := []) ?_ (fun h => And.intro (.inr rfl) h)
                    rw [wrong9_at hx]
                    simp [go_sem, Try.results78] at * <;> grind))
              · intro hc; try simp at hc
                all_goals try (exfalso; omega; done)
                all_goals (
                  refine AW.reg tiOk (fun _ => []) [1, 7, 8, 9, 11, 73, 86] ?_
                  intro k hk; simp -dsimp (maxSteps := 2000000) [go_sem, -decide_eq_true_eq, -decide_eq_false_iff_not, hx, haa, hdd]
                  repeat' (first | refine And.intro ?_ ?_ | refine hk _ ?_ | (intro hg; try simp only [decide_eq_true_eq, decide_eq_false_iff_not] at hg) | omega | exact True.intro | (refine And.elim (fun h8 h9 => ?_) (hho ?_) <;> first | assumption | omega) | fail)
                  all_goals clear hk k
                  refine AW.cond rfl ?_ ?_
                  · intro hc; try simp at hc
                    all_goals try (exfalso; omega; done)
                    all_goals (
                      refine AW.reg tiOk (fun _ => []) [6] ?_
                      intro k hk; simp +contextual -dsimp (maxSteps := 2000000) [go_sem, -decide_eq_true_eq, -decide_eq_false_iff_not, hx, haa, hdd, hwn]
                      repeat' (first | refine And.intro ?_ ?_ | refine hk _ ?_ | (intro hg; try simp only [decide_eq_true_eq, decide_eq_false_iff_not] at hg) | omega | exact True.intro | (refine And.elim (fun h8 h9 => ?_) (hho ?_) <;> first | assumption | omega) | fail)
                      all_goals clear hk k
                      all_goals (
                        refine AW.retF (ow := []) (muts := []) ?_ (fun h => And.intro (.inr rfl) h)
                        rw [wrong9_at hx]
                        simp [go_sem, Try.results78] at * <;> grind))
                  · intro hc; try simp at hc
                    all_goals try (exfalso; omega; done)
                    all_goals (
                      refine AW.reg tiOk (fun _ => []) [1, 7, 8, 9, 11, 73, 101] ?_
                      intro k hk; simp -dsimp (maxSteps := 2000000) [go_sem, -decide_eq_true_eq, -decide_eq_false_iff_not, hx, haa, hdd]
                      repeat' (first | refine And.intro ?_ ?_ | refine hk _ ?_ | (intro hg; try simp only [decide_eq_true_eq, decide_eq_false_iff_not] at hg) | omega | exact True.intro | (refine And.elim (fun h8 h9 => ?_) (hho ?_) <;> first | assumption | omega) | fail)
                      all_goals clear hk k
                      refine AW.cond rfl ?_ ?_
                      · intro hc; try simp at hc
                        all_goals try (exfalso; omega; done)
                        all_goals (
                          have hh0 : cnt c 1 (kids p (i : Int)) = 1 → (kids p (i : Int)) ≠ [] := fun h => cnt_kids (show 0 < cnt c 1 (kids p (i : Int)) by omega)
                          have hho : cnt c 1 (kids p (i : Int)) = 1 → 0 ≤ headI (kids p (i : Int)) ∧ (headI (kids p (i : Int))).toNat < c.acts.length := fun h => hkb _ (List.mem_of_getElem? (head_at (hh0 h)))
                          have hhd : decide (cnt c 1 (kids p (i : Int)) = 1) = true → (kids p (i : Int))[0]? = some (headI (kids p (i : Int))) := fun h => head_at (hh0 (by simpa using h))
                          have hha : decide (cnt c 1 (kids p (i : Int)) = 1) = true → c.acts[(headI (kids p (i : Int))).toNat]? = some (actA c (headI (kids p (i : Int)))) := fun h => actA_at (hho (by simpa using h)).2
                          refine AW.reg tiOk (fun _ => []) [6] ?_
                          intro k hk; simp +contextual -dsimp (maxSteps := 2000000) [go_sem, -decide_eq_true_eq, -decide_eq_false_iff_not, hx, haa, hdd, hhd, hha]
                          repeat' (first | refine And.intro ?_ ?_ | (refine Chk.keys ?_; simp only [go_sem, List.map_cons, List.map_nil, List.flatMap_cons, List.flatMap_nil, List.flatMap_append, List.append_nil, List.nil_append, List.cons_append]; decide +kernel) | refine hk _ ?_ | (intro hg; try simp only [decide_eq_true_eq, decide_eq_false_iff_not] at hg) | omega | exact True.intro | (refine And.elim (fun h8 h9 => ?_) (hho ?_) <;> first | assumption | omega) | fail)
                          all_goals clear hk k
                          all_goals (
                            refine AW.retF (ow := []) (muts := []) ?_ (fun h => And.intro (.inr rfl) h)
                            rw [wrong9_at hx]
                            simp [go_sem, Try.results78] at * <;> grind))
                      · intro hc; try simp at hc
                        all_goals try (exfalso; omega; done)
                        all_goals (
                          refine AW.reg tiOk (fun _ => []) [11, 73, 123] ?_
                          intro k hk; simp -dsimp (maxSteps := 2000000) [go_sem, -decide_eq_true_eq, -decide_eq_false_iff_not, hx, haa, hdd]
                          repeat' (first | refine And.intro ?_ ?_ | refine hk _ ?_ | (intro hg; try simp only [decide_eq_true_eq, decide_eq_false_iff_not] at hg) | omega | exact True.intro | (refine And.elim (fun h8 h9 => ?_) (hho ?_) <;> first | assumption | omega) | fail)
                          all_goals clear hk k
                          refine AW.cond rfl ?_ ?_
                          · intro hc; try simp at hc
                            all_goals try (exfalso; omega; done)
                            all_goals (
                              refine AW.reg tiOk (fun _ => []) [6] ?_
                              intro k hk; simp -dsimp (maxSteps := 2000000) [go_sem, -decide_eq_true_eq, -decide_eq_false_iff_not, hx, haa, hdd]
                              repeat' (first | refine And.intro ?_ ?_ | refine hk _ ?_ | (intro hg; try simp only [decide_eq_true_eq, decide_eq_false_iff_not] at hg) | omega | exact True.intro | (refine And.elim (fun h8 h9 => ?_) (hho ?_) <;> first | assumption | omega) | fail)
                              all_goals clear hk k
                              refine AW.retF (ow := []) (muts := []) ?_ (fun h => And.intro (.inr rfl) h)
                              rw [wrong9_at hx]
                              simp [go_sem, Try.results78] at * <;> grind)
                          · intro hc; try simp at hc
                            all_goals try (exfalso; omega; done)
                            all_goals (
                              refine AW.reg tiOk (fun _ => []) [11, 127] ?_
                              intro k hk; simp -dsimp (maxSteps := 2000000) [go_sem, -decide_eq_true_eq, -decide_eq_false_iff_not, hx, haa, hdd]
                              repeat' (first | refine And.intro ?_ ?_ | refine hk _ ?_ | (intro hg; try simp only [decide_eq_true_eq, decide_eq_false_iff_not] at hg) | omega | exact True.intro | (refine And.elim (fun h8 h9 => ?_) (hho ?_) <;> first | assumption | omega) | fail)
                              all_goals clear hk k
                              refine AW.cond rfl ?_ ?_
                              · intro hc; try simp at hc
                                all_goals try (exfalso; omega; done)
                                all_goals (
                                  refine AW.reg tiOk (fun _ => []) [6] ?_
                                  intro k hk; simp -dsimp (maxSteps := 2000000) [go_sem, -decide_eq_true_eq, -decide_eq_false_iff_not, hx, haa, hdd]
                                  repeat' (first | refine And.intro ?_ ?_ | refine hk _ ?_ | (intro hg; try simp only [decide_eq_true_eq, decide_eq_false_iff_not] at hg) | omega | exact True.intro | (refine And.elim (fun h8 h9 => ?_) (hho ?_) <;> first | assumption | omega) | fail)
                                  all_goals clear hk k
                                  refine AW.retF (ow := []) (muts := []) ?_ (fun h => And.intro (.inr rfl) h)
                                  rw [wrong9_at hx]
                                  simp [go_sem, Try.results78] at * <;> grind)
                              · intro hc; try simp at hc
                                all_goals try (exfalso; omega; done)
                                all_goals (
                                  refine AW.skipN (fun _ h => h) ?_
                                  refine AW.reg tiOk (fun _ => []) [6] ?_
                                  intro k hk; simp -dsimp (maxSteps := 2000000) [go_sem, -decide_eq_true_eq, -decide_eq_false_iff_not, hx, haa, hdd]
                                  repeat' (first | refine And.intro ?_ ?_ | refine hk _ ?_ | (intro hg; try simp only [decide_eq_true_eq, decide_eq_false_iff_not] at hg) | omega | exact True.intro | (refine And.elim (fun h8 h9 => ?_) (hho ?_) <;> first | assumption | omega) | fail)
                                  all_goals clear hk k
                                  refine AW.retF (ow := []) (muts := []) ?_ (fun h => And.intro (.inr rfl) h)
                                  rw [wrong9_at hx]
                                  simp [go_sem, Try.results78] at * <;> grind))))))
          · intro hc; try simp at hc
            all_goals try (exfalso; omega; done)
            all_goals (
              refine AW.regN tiOk (fun _ => []) [1, 7, 8, 9, 11, 73, 74] (fun _ h => h) ?_
              intro k hk; simp -dsimp (maxSteps := 2000000) [go_sem, -decide_eq_true_eq, -decide_eq_false_iff_not, hx, haa, hdd]
              repeat' (first | refine And.intro ?_ ?_ | refine hk _ ?_ | (intro hg; try simp only [decide_eq_true_eq, decide_eq_false_iff_not] at hg) | omega | exact True.intro | (refine And.elim (fun h8 h9 => ?_) (hho ?_) <;> first | assumption | omega) | fail)
              all_goals clear hk k
              refine AW.cond rfl ?_ ?_
              · intro hc; try simp at hc
                all_goals try (exfalso; omega; done)
                all_goals (
                  refine AW.reg tiOk (fun _ => []) [6] ?_
                  intro k hk; simp +contextual -dsimp (maxSteps := 2000000) [go_sem, -decide_eq_true_eq, -decide_eq_false_iff_not, hx, haa, hdd]
                  repeat' (first | refine And.intro ?_ ?_ | refine hk _ ?_ | (intro hg; try simp only [decide_eq_true_eq, decide_eq_false_iff_not] at hg) | omega | exact True.intro | (refine And.elim (fun h8 h9 => ?_) (hho ?_) <;> first | assumption | omega) | fail)
                  all_goals clear hk k
                  all_goals (
                    refine AW.retF (ow := []) (muts := []) ?_ (fun h => And.intro (.inr rfl) h)
                    rw [wrong9_at hx]
                    simp [go_sem, Try.results78] at * <;> grind))
              · intro hc; try simp at hc
                all_goals try (exfalso; omega; done)
                all_goals (
                  refine AW.reg tiOk (fun _ => []) [1, 7, 8, 9, 11, 73, 86] ?_
                  intro k hk; simp -dsimp (maxSteps := 2000000) [go_sem, -decide_eq_true_eq, -decide_eq_false_iff_not, hx, haa, hdd]
                  repeat' (first | refine And.intro ?_ ?_ | refine hk _ ?_ | (intro hg; try simp only [decide_eq_true_eq, decide_eq_false_iff_not] at hg) | omega | exact True.intro | (refine And.elim (fun h8 h9 => ?_) (hho ?_) <;> first | assumption | omega) | fail)
                  all_goals clear hk k
                  refine AW.cond rfl ?_ ?_
                  · intro hc; try simp at hc
                    all_goals try (exfalso; omega; done)
                    all_goals (
                      refine AW.reg tiOk (fun _ => []) [6] ?_
                      intro k hk; simp +contextual -dsimp (maxSteps := 2000000) [go_sem, -decide_eq_true_eq, -decide_eq_false_iff_not, hx, haa, hdd, hwn]
                      repeat' (first | refine And.intro ?_ ?_ | refine hk _ ?_ | (intro hg; try simp only [decide_eq_true_eq, decide_eq_false_iff_not] at hg) | omega | exact True.intro | (refine And.elim (fun h8 h9 => ?_) (hho ?_) <;> first | assumption | omega) | fail)
                      all_goals clear hk k
                      all_goals (
                        refine AW.retF (ow := []) (muts := []) ?_ (fun h => And.intro (.inr rfl) h)
                        rw [wrong9_at hx]
                        simp [go_sem, Try.results78] at * <;> grind))
                  · intro hc; try simp at hc
                    all_goals try (exfalso; omega; done)
                    all_goals (
                      refine AW.reg tiOk (fun _ => []) [1, 7, 8, 9, 11, 73, 101] ?_
                      intro k hk; simp -dsimp (maxSteps := 2000000) [go_sem, -decide_eq_true_eq, -decide_eq_false_iff_not, hx, haa, hdd]
                      repeat' (first | refine And.intro ?_ ?_ | refine hk _ ?_ | (intro hg; try simp only [decide_eq_true_eq, decide_eq_false_iff_not] at hg) | omega | exact True.intro | (refine And.elim (fun h8 h9 => ?_) (hho ?_) <;> first | assumption | omega) | fail)
                      all_goals clear hk k
                      refine AW.cond rfl ?_ ?_
                      · intro hc; try simp at hc
                        all_goals try (exfalso; omega; done)
                        all_goals (
                          have hh0 : cnt c 1 (kids p (i : Int)) = 1 → (kids p (i : Int)) ≠ [] := fun h => cnt_kids (show 0 < cnt c 1 (kids p (i : Int)) by omega)
                          have hho : cnt c 1 (kids p (i : Int)) = 1 → 0 ≤ headI (kids p (i : Int)) ∧ (headI (kids p (i : Int))).toNat < c.acts.length := fun h => hkb _ (List.mem_of_getElem? (head_at (hh0 h)))
                          have hhd : decide (cnt c 1 (kids p (i : Int)) = 1) = true → (kids p (i : Int))[0]? = some (headI (kids p (i : Int))) := fun h => head_at (hh0 (by simpa using h))
                          have hha : decide (cnt c 1 (kids p (i : Int)) = 1) = true → c.acts[(headI (kids p (i : Int))).toNat]? = some (actA c (headI (kids p (i : Int)))) := fun h => actA_at (hho (by simpa using h)).2
                          refine AW.reg tiOk (fun _ => []) [6] ?_
                          intro k hk; simp +contextual -dsimp (maxSteps := 2000000) [go_sem, -decide_eq_true_eq, -decide_eq_false_iff_not, hx, haa, hdd, hhd, hha]
                          repeat' (first | refine And.intro ?_ ?_ | (refine Chk.keys ?_; simp only [go_sem, List.map_cons, List.map_nil, List.flatMap_cons, List.flatMap_nil, List.flatMap_append, List.append_nil, List.nil_append, List.cons_append]; decide +kernel) | refine hk _ ?_ | (intro hg; try simp only [decide_eq_true_eq, decide_eq_false_iff_not] at hg) | omega | exact True.intro | (refine And.elim (fun h8 h9 => ?_) (hho ?_) <;> first | assumption | omega) | fail)
                          all_goals clear hk k
                          all_goals (
                            refine AW.retF (ow := []) (muts := []) ?_ (fun h => And.intro (.inr rfl) h)
                            rw [wrong9_at hx]
                            simp [go_sem, Try.results78] at * <;> grind))
                      · intro hc; try simp at hc
                        all_goals try (exfalso; omega; done)
                        all_goals (
                          refine AW.reg tiOk (fun _ => []) [11, 73, 123] ?_
                          intro k hk; simp -dsimp (maxSteps := 2000000) [go_sem, -decide_eq_true_eq, -decide_eq_false_iff_not, hx, haa, hdd]
                          repeat' (first | refine And.intro ?_ ?_ | refine hk _ ?_ | (intro hg; try simp only [decide_eq_true_eq, decide_eq_false_iff_not] at hg) | omega | exact True.intro | (refine And.elim (fun h8 h9 => ?_) (hho ?_) <;> first | assumption | omega) | fail)
                          all_goals clear hk k
                          refine AW.cond rfl ?_ ?_
                          · intro hc; try simp at hc
                            all_goals try (exfalso; omega; done)
                            all_goals (
                              refine AW.reg tiOk (fun _ => []) [6] ?_
                              intro k hk; simp -dsimp (maxSteps := 2000000) [go_sem, -decide_eq_true_eq, -decide_eq_false_iff_not, hx, haa, hdd]
                              repeat' (first | refine And.intro ?_ ?_ | refine hk _ ?_ | (intro hg; try simp only [decide_eq_true_eq, decide_eq_false_iff_not] at hg) | omega | exact True.intro | (refine And.elim (fun h8 h9 => ?_) (hho ?_) <;> first | assumption | omega) | fail)
                              all_goals clear hk k
                              refine AW.retF (ow := []) (muts := []) ?_ (fun h => And.intro (.inr rfl) h)
                              rw [wrong9_at hx]
                              simp [go_sem, Try.results78] at * <;> grind)
                          · intro hc; try simp at hc
                            all_goals try (exfalso; omega; done)
                            all_goals (
                              refine AW.reg tiOk (fun _ => []) [11, 127] ?_
                              intro k hk; simp -dsimp (maxSteps := 2000000) [go_sem, -decide_eq_true_eq, -decide_eq_false_iff_not, hx, haa, hdd]
                              repeat' (first | refine And.intro ?_ ?_ | refine hk _ ?_ | (intro hg; try simp only [decide_eq_true_eq, decide_eq_false_iff_not] at hg) | omega | exact True.intro | (refine And.elim (fun h8 h9 => ?_) (hho ?_) <;> first | assumption | omega) | fail)
                              all_goals clear hk k
                              refine AW.cond rfl ?_ ?_
                              · intro hc; try simp at hc
                                all_goals try (exfalso; omega; done)
                                all_goals (
                                  refine AW.reg tiOk (fun _ => []) [6] ?_
                                  intro k hk; simp -dsimp (maxSteps := 2000000) [go_sem, -decide_eq_true_eq, -decide_eq_false_iff_not, hx, haa, hdd]
                                  repeat' (first | refine And.intro ?_ ?_ | refine hk _ ?_ | (intro hg; try simp only [decide_eq_true_eq, decide_eq_false_iff_not] at hg) | omega | exact True.intro | (refine And.elim (fun h8 h9 => ?_) (hho ?_) <;> first | assumption | omega) | fail)
                                  all_goals clear hk k
                                  refine AW.retF (ow := []) (muts := []) ?_ (fun h => And.intro (.inr rfl) h)
                                  rw [wrong9_at hx]
                                  simp [go_sem, Try.results78] at * <;> grind)
                              · intro hc; try simp at hc
                                all_goals try (exfalso; omega; done)
                                all_goals (
                                  refine AW.skipN (fun _ h => h) ?_
                                  refine AW.reg tiOk (fun _ => []) [6] ?_
                                  intro k hk; simp -dsimp (maxSteps := 2000000) [go_sem, -decide_eq_true_eq, -decide_eq_false_iff_not, hx, haa, hdd]
                                  repeat' (first | refine And.intro ?_ ?_ | refine hk _ ?_ | (intro hg; try simp only [decide_eq_true_eq, decide_eq_false_iff_not] at hg) | omega | exact True.intro | (refine And.elim (fun h8 h9 => ?_) (hho ?_) <;> first | assumption | omega) | fail)
                                  all_goals clear hk k
                                  refine AW.retF (ow := []) (muts := []) ?_ (fun h => And.intro (.inr rfl) h)
                                  rw [wrong9_at hx]
                                  simp [go_sem, Try.results78] at * <;> grind))))))))

end Go.AM

/-! ### H5 -/
set_option linter.unusedVariables false
set_option linter.unusedSimpArgs false
namespace Go.AM
open Go.Proofs

set_option maxHeartbeats 600000 in
set_option linter.unusedSimpArgs false in
set_option maxRecDepth 100000 in
/-- spec.l9Fault -/
theorem dc_spec_l9Fault (p : List TStep) (c : TChart) (hp : p.length ≤ 9223372036854775807) (hg : ∀ e ∈ p, e.gok) (hc0 : c.gok) : DC Try.prog 38 [.isl 6 (p.map TStep.ro), .ip c.ro] (.int .i64 (chartF p c)) [] := by
  obtain ⟨g0, g1, g2⟩ := hc0
  refine DC.intro tiOk Try.func38 rfl rfl rfl rfl rfl rfl rfl rfl [] ?_
  refine AW.reg tiOk (fun _ => []) [0, 1] ?_
  intro k hk; simp -dsimp (maxSteps := 2000000) [go_sem, -decide_eq_true_eq, -decide_eq_false_iff_not]
  repeat' (first | refine And.intro ?_ ?_ | refine hk _ ?_ | (intro hg; try simp only [decide_eq_true_eq, decide_eq_false_iff_not] at hg) | omega | exact True.intro)
  all_goals clear hk k
  refine AW.seq ?_
  refine AW.reg tiOk (fun _ => []) [0, 1, 5] ?_
  intro k hk; simp -dsimp (maxSteps := 2000000) [go_sem, -decide_eq_true_eq, -decide_eq_false_iff_not]
  repeat' (first | refine And.intro ?_ ?_ | refine hk _ ?_ | (intro hg; try simp only [decide_eq_true_eq, decide_eq_false_iff_not] at hg) | (refine CallK.intro (dc_spec_l4Fault p hp hg) ?_; simp -dsimp (maxSteps := 2000000) [go_sem, -decide_eq_true_eq, -decide_eq_false_iff_not]) | omega | exact True.intro)
  all_goals clear hk k
  refine AW.reg tiOk (fun _ => []) [0, 1, 5, 13] ?_
  intro k hk; simp -dsimp (maxSteps := 2000000) [go_sem, -decide_eq_true_eq, -decide_eq_false_iff_not]
  repeat' (first | refine And.intro ?_ ?_ | refine hk _ ?_ | (intro hg; try simp only [decide_eq_true_eq, decide_eq_false_iff_not] at hg) | omega | exact True.intro)
  all_goals clear hk k
  refine AW.cond rfl ?_ ?_
  · intro hc; try simp at hc
    all_goals (
      refine AW.reg tiOk (fun _ => []) [4] ?_
      intro k hk; simp -dsimp (maxSteps := 2000000) [go_sem, -decide_eq_true_eq, -decide_eq_false_iff_not]
      repeat' (first | refine And.intro ?_ ?_ | refine hk _ ?_ | (intro hg; try simp only [decide_eq_true_eq, decide_eq_false_iff_not] at hg) | omega | exact True.intro)
      all_goals clear hk k
      refine AW.retF (ow := []) (muts := []) ?_ (fun h => And.intro (.inr rfl) h)
      first | (rw [chartF_2 h0, if_neg hs, if_neg (by simp [hst]), if_neg (fun h8 => by have h9 := someWrong_hit hlt (show wrong9 p c (i : Int) = true by first | assumption | simpa using hc); rw [h8.2] at h9; cases h9)]; simp [go_sem, Try.results38]; done) | (have hie2 : i = p.length := (by omega); rw [hie2] at hwr; rw [chartF_2 h0, if_neg hs, if_neg (by simp [hst]), if_pos ⟨hon, hwr⟩]; simp [go_sem, Try.results38]; done) | (rw [chartF_2 h0, if_neg hs, if_neg (by simp [hst]), if_neg (fun h8 => absurd h8.1 (by first | assumption | simpa using hc))]; simp [go_sem, Try.results38]; done) | (rw [chartF_2 h0, if_neg hs, if_pos (by assumption), if_pos (hz.1 (by first | assumption | simpa using hc))]; simp [go_sem, Try.results38]; done) | (rw [chartF_2 h0, if_neg hs, if_pos (by assumption), if_neg (fun h8 => by have h9 := hz.2 h8; simp_all)]; simp [go_sem, Try.results38]; done) | (rw [chartF_2 h0, if_pos (by have h9 := @smallB_miss c.acts 2 i (by omega); have h8 := @smallB_miss c.dues (c.now + 99) i (by omega); rw [← actA_nat] at h9; rw [← dueA_nat] at h8; grind)]; simp [go_sem, Try.results38]; done) | (simp [go_sem, Try.results38]; unfold chartF; grind))
  · intro hc; try simp at hc
    all_goals (
      refine AW.skipN (fun _ h => h) ?_
      refine AW.seq ?_
      refine AW.cut ⟨130, [(0, .isl 6 (p.map TStep.ro)), (1, .ip c.ro), (28, .bool (decide (inR c.status 1 3 = false ∨ inR c.now 0 1000000 = false)))], []⟩ ?_ ?_
      · skip
        refine AW.regK tiOk (fun _ => []) ?_
        intro k hk; simp +contextual -dsimp (maxSteps := 2000000) [go_sem, -decide_eq_true_eq, -decide_eq_false_iff_not]
        repeat' (first | refine And.intro ?_ ?_ | refine hk _ ?_ | (intro hg; try simp only [decide_eq_true_eq, decide_eq_false_iff_not] at hg) | (refine CallK.intro (dc_spec_l1In _ _ _) ?_; simp +contextual -dsimp (maxSteps := 2000000) [go_sem, -decide_eq_true_eq, -decide_eq_false_iff_not]) | (refine CallK.intro (dc_spec_l8Time _) ?_; simp +contextual -dsimp (maxSteps := 2000000) [go_sem, -decide_eq_true_eq, -decide_eq_false_iff_not]) | omega | exact True.intro)
        all_goals clear hk k
        all_goals (show St.Less _ _; exact Less.of rfl (by simp [go_sem] <;> first | omega | grind) (by simp [go_sem]))
      · skip
        refine AW.cond rfl ?_ ?_
        · intro hc; try simp at hc
          all_goals (
            refine AW.reg tiOk (fun _ => []) [4] ?_
            intro k hk; simp -dsimp (maxSteps := 2000000) [go_sem, -decide_eq_true_eq, -decide_eq_false_iff_not]
            repeat' (first | refine And.intro ?_ ?_ | refine hk _ ?_ | (intro hg; try simp only [decide_eq_true_eq, decide_eq_false_iff_not] at hg) | omega | exact True.intro)
            all_goals clear hk k
            refine AW.retF (ow := []) (muts := []) ?_ (fun h => And.intro (.inr rfl) h)
            first | (rw [chartF_2 h0, if_neg hs, if_neg (by simp [hst]), if_neg (fun h8 => by have h9 := someWrong_hit hlt (show wrong9 p c (i : Int) = true by first | assumption | simpa using hc); rw [h8.2] at h9; cases h9)]; simp [go_sem, Try.results38]; done) | (have hie2 : i = p.length := (by omega); rw [hie2] at hwr; rw [chartF_2 h0, if_neg hs, if_neg (by simp [hst]), if_pos ⟨hon, hwr⟩]; simp [go_sem, Try.results38]; done) | (rw [chartF_2 h0, if_neg hs, if_neg (by simp [hst]), if_neg (fun h8 => absurd h8.1 (by first | assumption | simpa using hc))]; simp [go_sem, Try.results38]; done) | (rw [chartF_2 h0, if_neg hs, if_pos (by assumption), if_pos (hz.1 (by first | assumption | simpa using hc))]; simp [go_sem, Try.results38]; done) | (rw [chartF_2 h0, if_neg hs, if_pos (by assumption), if_neg (fun h8 => by have h9 := hz.2 h8; simp_all)]; simp [go_sem, Try.results38]; done) | (rw [chartF_2 h0, if_pos (by have h9 := @smallB_miss c.acts 2 i (by omega); have h8 := @smallB_miss c.dues (c.now + 99) i (by omega); rw [← actA_nat] at h9; rw [← dueA_nat] at h8; grind)]; simp [go_sem, Try.results38]; done) | (simp [go_sem, Try.results38]; unfold chartF; grind))
        · intro hc; try simp at hc
          all_goals (
            refine AW.skipN (fun _ h => h) ?_
            refine AW.seq ?_
            have q2 : ¬ (inR c.status 1 3 = false ∨ inR c.now 0 1000000 = false) := by first | assumption | simpa using hc
            refine AW.reg tiOk (fun _ => []) [0, 1, 6] ?_
            intro k hk; simp -dsimp (maxSteps := 2000000) [go_sem, -decide_eq_true_eq, -decide_eq_false_iff_not]
            repeat' (first | refine And.intro ?_ ?_ | refine hk _ ?_ | (intro hg; try simp only [decide_eq_true_eq, decide_eq_false_iff_not] at hg) | (refine CallK.intro (dc_spec_VarsFault c.vars g0) ?_; simp -dsimp (maxSteps := 2000000) [go_sem, -decide_eq_true_eq, -decide_eq_false_iff_not]) | omega | exact True.intro)
            all_goals clear hk k
            refine AW.reg tiOk (fun _ => []) [0, 1, 6, 35] ?_
            intro k hk; simp -dsimp (maxSteps := 2000000) [go_sem, -decide_eq_true_eq, -decide_eq_false_iff_not]
            repeat' (first | refine And.intro ?_ ?_ | refine hk _ ?_ | (intro hg; try simp only [decide_eq_true_eq, decide_eq_false_iff_not] at hg) | omega | exact True.intro)
            all_goals clear hk k
            refine AW.cond rfl ?_ ?_
            · intro hc; try simp at hc
              all_goals (
                refine AW.reg tiOk (fun _ => []) [4] ?_
                intro k hk; simp -dsimp (maxSteps := 2000000) [go_sem, -decide_eq_true_eq, -decide_eq_false_iff_not]
                repeat' (first | refine And.intro ?_ ?_ | refine hk _ ?_ | (intro hg; try simp only [decide_eq_true_eq, decide_eq_false_iff_not] at hg) | omega | exact True.intro)
                all_goals clear hk k
                refine AW.retF (ow := []) (muts := []) ?_ (fun h => And.intro (.inr rfl) h)
                first | (rw [chartF_2 h0, if_neg hs, if_neg (by simp [hst]), if_neg (fun h8 => by have h9 := someWrong_hit hlt (show wrong9 p c (i : Int) = true by first | assumption | simpa using hc); rw [h8.2] at h9; cases h9)]; simp [go_sem, Try.results38]; done) | (have hie2 : i = p.length := (by omega); rw [hie2] at hwr; rw [chartF_2 h0, if_neg hs, if_neg (by simp [hst]), if_pos ⟨hon, hwr⟩]; simp [go_sem, Try.results38]; done) | (rw [chartF_2 h0, if_neg hs, if_neg (by simp [hst]), if_neg (fun h8 => absurd h8.1 (by first | assumption | simpa using hc))]; simp [go_sem, Try.results38]; done) | (rw [chartF_2 h0, if_neg hs, if_pos (by assumption), if_pos (hz.1 (by first | assumption | simpa using hc))]; simp [go_sem, Try.results38]; done) | (rw [chartF_2 h0, if_neg hs, if_pos (by assumption), if_neg (fun h8 => by have h9 := hz.2 h8; simp_all)]; simp [go_sem, Try.results38]; done) | (rw [chartF_2 h0, if_pos (by have h9 := @smallB_miss c.acts 2 i (by omega); have h8 := @smallB_miss c.dues (c.now + 99) i (by omega); rw [← actA_nat] at h9; rw [← dueA_nat] at h8; grind)]; simp [go_sem, Try.results38]; done) | (simp [go_sem, Try.results38]; unfold chartF; grind))
            · intro hc; try simp at hc
              all_goals (
                refine AW.skipN (fun _ h => h) ?_
                refine AW.seq ?_
                refine AW.cut ⟨130, [(0, .isl 6 (p.map TStep.ro)), (1, .ip c.ro), (54, .bool (decide (c.acts.length ≠ p.length ∨ c.dues.length ≠ p.length)))], []⟩ ?_ ?_
                · skip
                  refine AW.regK tiOk (fun _ => []) ?_
                  intro k hk; simp +contextual -dsimp (maxSteps := 2000000) [go_sem, -decide_eq_true_eq, -decide_eq_false_iff_not]
                  repeat' (first | refine And.intro ?_ ?_ | refine hk _ ?_ | (intro hg; try simp only [decide_eq_true_eq, decide_eq_false_iff_not] at hg) | omega | exact True.intro)
                  all_goals clear hk k
                  all_goals (show St.Less _ _; exact Less.of rfl (by simp [go_sem] <;> first | omega | grind) (by simp [go_sem]))
                · skip
                  refine AW.cond rfl ?_ ?_
                  · intro hc; try simp at hc
                    all_goals (
                      refine AW.reg tiOk (fun _ => []) [4] ?_
                      intro k hk; simp -dsimp (maxSteps := 2000000) [go_sem, -decide_eq_true_eq, -decide_eq_false_iff_not]
                      repeat' (first | refine And.intro ?_ ?_ | refine hk _ ?_ | (intro hg; try simp only [decide_eq_true_eq, decide_eq_false_iff_not] at hg) | omega | exact True.intro)
                      all_goals clear hk k
                      refine AW.retF (ow := []) (muts := []) ?_ (fun h => And.intro (.inr rfl) h)
                      first | (rw [chartF_2 h0, if_neg hs, if_neg (by simp [hst]), if_neg (fun h8 => by have h9 := someWrong_hit hlt (show wrong9 p c (i : Int) = true by first | assumption | simpa using hc); rw [h8.2] at h9; cases h9)]; simp [go_sem, Try.results38]; done) | (have hie2 : i = p.length := (by omega); rw [hie2] at hwr; rw [chartF_2 h0, if_neg hs, if_neg (by simp [hst]), if_pos ⟨hon, hwr⟩]; simp [go_sem, Try.results38]; done) | (rw [chartF_2 h0, if_neg hs, if_neg (by simp [hst]), if_neg (fun h8 => absurd h8.1 (by first | assumption | simpa using hc))]; simp [go_sem, Try.results38]; done) | (rw [chartF_2 h0, if_neg hs, if_pos (by assumption), if_pos (hz.1 (by first | assumption | simpa using hc))]; simp [go_sem, Try.results38]; done) | (rw [chartF_2 h0, if_neg hs, if_pos (by assumption), if_neg (fun h8 => by have h9 := hz.2 h8; simp_all)]; simp [go_sem, Try.results38]; done) | (rw [chartF_2 h0, if_pos (by have h9 := @smallB_miss c.acts 2 i (by omega); have h8 := @smallB_miss c.dues (c.now + 99) i (by omega); rw [← actA_nat] at h9; rw [← dueA_nat] at h8; grind)]; simp [go_sem, Try.results38]; done) | (simp [go_sem, Try.results38]; unfold chartF; grind))
                  · intro hc; try simp at hc
                    all_goals (
                      refine AW.skipN (fun _ h => h) ?_
                      have q1 : procF p = 0 := by assumption
                      have q3 : varsF c.vars = 0 := by assumption
                      have q4 : ¬ (c.acts.length ≠ p.length ∨ c.dues.length ≠ p.length) := by first | assumption | simpa using hc
                      have h0 : chart1 p c = 0 := by rw [chart1, if_neg (by simp [q1]), if_neg q2, if_neg (by simp [q3]), if_neg q4]
                      obtain ⟨k1, k2, k3, k4, k5, k6⟩ := chart1_ok h0
                      have ho := (procOk k1).steps
                      have hlen := ho.len
                      have k3' := inR_iff.1 k3
                      have hwn : IntKind.wrap .i64 (c.now + 99) = c.now + 99 := wrap64 (by omega) (by omega)
                      refine AW.reg tiOk (fun _ => []) [0, 1, 7] ?_
                      intro k hk; simp -dsimp (maxSteps := 2000000) [go_sem, -decide_eq_true_eq, -decide_eq_false_iff_not]
                      repeat' (first | refine And.intro ?_ ?_ | refine hk _ ?_ | (intro hg; try simp only [decide_eq_true_eq, decide_eq_false_iff_not] at hg) | omega | exact True.intro)
                      all_goals clear hk k
                      refine AW.seq ?_
                      refine AW.reg tiOk (fun _ => []) [0, 1, 7, 8] ?_
                      intro k hk; simp -dsimp (maxSteps := 2000000) [go_sem, -decide_eq_true_eq, -decide_eq_false_iff_not]
                      repeat' (first | refine And.intro ?_ ?_ | refine hk _ ?_ | (intro hg; try simp only [decide_eq_true_eq, decide_eq_false_iff_not] at hg) | omega | exact True.intro)
                      all_goals clear hk k
                      refine AW.block ?_
                      -- live at the loop's head: [0, 1, 7, 8]
                      refine AW.loopI (fun i : Nat => ⟨130, [(0, .isl 6 (p.map TStep.ro)), (1, .ip c.ro), (7, .bool (someNZ c i)), (8, .int .i64 i)], []⟩) (fun i => i ≤ p.length ∧ ∀ k : Nat, k < i → inR (actA c k) 0 2 = true ∧ inR (dueA c k) 0 (c.now + 99) = true) (fun i => p.length - i) (0) (by simp) (Less.of rfl (by simp [go_sem, someNZ]) (by simp [go_sem])) ?_
                      rintro i ⟨hi, hall⟩
                      refine AW.seq ?_
                      refine AW.reg tiOk (fun _ => []) [0, 1, 7, 8, 58] ?_
                      intro k hk; simp -dsimp (maxSteps := 2000000) [go_sem, -decide_eq_true_eq, -decide_eq_false_iff_not]
                      repeat' (first | refine And.intro ?_ ?_ | refine hk _ ?_ | (intro hg; try simp only [decide_eq_true_eq, decide_eq_false_iff_not] at hg) | omega | exact True.intro)
                      all_goals clear hk k
                      refine AW.cond rfl ?_ ?_
                      · intro hc; try simp at hc
                        all_goals (
                          have hlt : i < p.length := by assumption
                          have haa := actN_at (c := c) (show i < c.acts.length by omega)
                          have hdd := dueN_at (c := c) (show i < c.dues.length by omega)
                          have hnz := someNZ_step c i
                          refine AW.skipN (fun _ h => h) ?_
                          refine AW.seq ?_
                          refine AW.block ?_
                          refine AW.seq ?_
                          refine AW.cut ⟨130, [(0, .isl 6 (p.map TStep.ro)), (1, .ip c.ro), (7, .bool (someNZ c i)), (8, .int .i64 i), (85, .bool (decide (inR (actA c i) 0 2 = false ∨ inR (dueA c i) 0 (c.now + 99) = false)))], []⟩ ?_ ?_
                          · skip
                            refine AW.regK tiOk (fun _ => []) ?_
                            intro k hk; simp +contextual -dsimp (maxSteps := 2000000) [go_sem, -decide_eq_true_eq, -decide_eq_false_iff_not, haa, hdd, hwn]
                            repeat' (first | refine And.intro ?_ ?_ | (refine Chk.keys ?_; simp only [go_sem, List.map_cons, List.map_nil, List.flatMap_cons, List.flatMap_nil, List.flatMap_append, List.append_nil, List.nil_append, List.cons_append]; decide +kernel) | refine hk _ ?_ | (intro hg; try simp only [decide_eq_true_eq, decide_eq_false_iff_not] at hg) | (refine CallK.intro (dc_spec_l1In _ _ _) ?_; simp +contextual -dsimp (maxSteps := 2000000) [go_sem, -decide_eq_true_eq, -decide_eq_false_iff_not, haa, hdd, hwn]) | omega | exact True.intro)
                            all_goals clear hk k
                            all_goals (show St.Less _ _; exact Less.of rfl (by simp [go_sem] <;> first | omega | grind) (by simp [go_sem]))
                          · skip
                            refine AW.cond rfl ?_ ?_
                            · intro hc; try simp at hc
                              all_goals (
                                refine AW.reg tiOk (fun _ => []) [4] ?_
                                intro k hk; simp -dsimp (maxSteps := 2000000) [go_sem, -decide_eq_true_eq, -decide_eq_false_iff_not, haa, hdd]
                                repeat' (first | refine And.intro ?_ ?_ | refine hk _ ?_ | (intro hg; try simp only [decide_eq_true_eq, decide_eq_false_iff_not] at hg) | omega | exact True.intro)
                                all_goals clear hk k
                                refine AW.retF (ow := []) (muts := []) ?_ (fun h => And.intro (.inr rfl) h)
                                first | (rw [chartF_2 h0, if_neg hs, if_neg (by simp [hst]), if_neg (fun h8 => by have h9 := someWrong_hit hlt (show wrong9 p c (i : Int) = true by first | assumption | simpa using hc); rw [h8.2] at h9; cases h9)]; simp [go_sem, Try.results38]; done) | (have hie2 : i = p.length := (by omega); rw [hie2] at hwr; rw [chartF_2 h0, if_neg hs, if_neg (by simp [hst]), if_pos ⟨hon, hwr⟩]; simp [go_sem, Try.results38]; done) | (rw [chartF_2 h0, if_neg hs, if_neg (by simp [hst]), if_neg (fun h8 => absurd h8.1 (by first | assumption | simpa using hc))]; simp [go_sem, Try.results38]; done) | (rw [chartF_2 h0, if_neg hs, if_pos (by assumption), if_pos (hz.1 (by first | assumption | simpa using hc))]; simp [go_sem, Try.results38]; done) | (rw [chartF_2 h0, if_neg hs, if_pos (by assumption), if_neg (fun h8 => by have h9 := hz.2 h8; simp_all)]; simp [go_sem, Try.results38]; done) | (rw [chartF_2 h0, if_pos (by have h9 := @smallB_miss c.acts 2 i (by omega); have h8 := @smallB_miss c.dues (c.now + 99) i (by omega); rw [← actA_nat] at h9; rw [← dueA_nat] at h8; grind)]; simp [go_sem, Try.results38]; done) | (simp [go_sem, Try.results38]; unfold chartF; grind))
                            · intro hc; try simp at hc
                              all_goals (
                                refine AW.skipN (fun _ h => h) ?_
                                refine AW.regN tiOk (fun _ => []) [0, 1, 7, 8] (fun _ h => h) ?_
                                intro k hk; simp +contextual -dsimp (maxSteps := 2000000) [go_sem, -decide_eq_true_eq, -decide_eq_false_iff_not, haa, hdd]
                                repeat' (first | refine And.intro ?_ ?_ | refine hk _ ?_ | (intro hg; try simp only [decide_eq_true_eq, decide_eq_false_iff_not] at hg) | omega | exact True.intro)
                                all_goals clear hk k
                                all_goals (
                                  refine AW.regK tiOk (fun _ => []) ?_
                                  intro k hk; simp -dsimp (maxSteps := 2000000) [go_sem, -decide_eq_true_eq, -decide_eq_false_iff_not, haa, hdd]
                                  repeat' (first | refine And.intro ?_ ?_ | refine hk _ ?_ | (intro hg; try simp only [decide_eq_true_eq, decide_eq_false_iff_not] at hg) | omega | exact True.intro)
                                  all_goals clear hk k
                                  show ∃ _, _
                                  have hw := wrapi hlt (by omega)
                                  have hb2 : inR (actA c i) 0 2 = true ∧ inR (dueA c i) 0 (c.now + 99) = true := by grind
                                  refine ⟨i + 1, ⟨by omega, ?_⟩, by omega, Less.of rfl (by simp [go_sem, hw, hnz] <;> grind) (by simp [go_sem])⟩
                                  intro k hk; rcases Nat.eq_or_lt_of_le (Nat.le_of_lt_succ hk) with h9 | h9; (subst h9; exact hb2); exact hall k h9)))
                      · intro hc; try simp at hc
                        all_goals (
                          refine AW.exitN (fun _ h => h) ?_
                          refine AW.seq ?_
                          have hie : i = p.length := by omega
                          rw [hie] at hall
                          rw [hie]
                          have hs : ¬ (smallB c.acts 2 = false ∨ smallB c.dues (c.now + 99) = false) := by have e1 : smallB c.acts 2 = true := smallB_iff.2 (fun k hk => by rw [← actA_nat]; exact (hall k (by omega)).1); have e2 : smallB c.dues (c.now + 99) = true := smallB_iff.2 (fun k hk => by rw [← dueA_nat]; exact (hall k (by omega)).2); rw [e1, e2]; simp
                          have hz := someNZ_zeros k5 k6
                          refine AW.reg tiOk (fun _ => []) [0, 1, 7, 111] ?_
                          intro k hk; simp -dsimp (maxSteps := 2000000) [go_sem, -decide_eq_true_eq, -decide_eq_false_iff_not]
                          repeat' (first | refine And.intro ?_ ?_ | refine hk _ ?_ | (intro hg; try simp only [decide_eq_true_eq, decide_eq_false_iff_not] at hg) | omega | exact True.intro)
                          all_goals clear hk k
                          refine AW.cond rfl ?_ ?_
                          · intro hc; try simp at hc
                            all_goals (
                              refine AW.seq ?_
                              refine AW.reg tiOk (fun _ => []) [112] ?_
                              intro k hk; simp -dsimp (maxSteps := 2000000) [go_sem, -decide_eq_true_eq, -decide_eq_false_iff_not]
                              repeat' (first | refine And.intro ?_ ?_ | refine hk _ ?_ | (intro hg; try simp only [decide_eq_true_eq, decide_eq_false_iff_not] at hg) | omega | exact True.intro)
                              all_goals clear hk k
                              refine AW.cond rfl ?_ ?_
                              · intro hc; try simp at hc
                                all_goals (
                                  refine AW.reg tiOk (fun _ => []) [4] ?_
                                  intro k hk; simp -dsimp (maxSteps := 2000000) [go_sem, -decide_eq_true_eq, -decide_eq_false_iff_not]
                                  repeat' (first | refine And.intro ?_ ?_ | refine hk _ ?_ | (intro hg; try simp only [decide_eq_true_eq, decide_eq_false_iff_not] at hg) | omega | exact True.intro)
                                  all_goals clear hk k
                                  refine AW.retF (ow := []) (muts := []) ?_ (fun h => And.intro (.inr rfl) h)
                                  first | (rw [chartF_2 h0, if_neg hs, if_neg (by simp [hst]), if_neg (fun h8 => by have h9 := someWrong_hit hlt (show wrong9 p c (i : Int) = true by first | assumption | simpa using hc); rw [h8.2] at h9; cases h9)]; simp [go_sem, Try.results38]; done) | (have hie2 : i = p.length := (by omega); rw [hie2] at hwr; rw [chartF_2 h0, if_neg hs, if_neg (by simp [hst]), if_pos ⟨hon, hwr⟩]; simp [go_sem, Try.results38]; done) | (rw [chartF_2 h0, if_neg hs, if_neg (by simp [hst]), if_neg (fun h8 => absurd h8.1 (by first | assumption | simpa using hc))]; simp [go_sem, Try.results38]; done) | (rw [chartF_2 h0, if_neg hs, if_pos (by assumption), if_pos (hz.1 (by first | assumption | simpa using hc))]; simp [go_sem, Try.results38]; done) | (rw [chartF_2 h0, if_neg hs, if_pos (by assumption), if_neg (fun h8 => by have h9 := hz.2 h8; simp_all)]; simp [go_sem, Try.results38]; done) | (rw [chartF_2 h0, if_pos (by have h9 := @smallB_miss c.acts 2 i (by omega); have h8 := @smallB_miss c.dues (c.now + 99) i (by omega); rw [← actA_nat] at h9; rw [← dueA_nat] at h8; grind)]; simp [go_sem, Try.results38]; done) | (simp [go_sem, Try.results38]; unfold chartF; grind))
                              · intro hc; try simp at hc
                                all_goals (
                                  refine AW.skipN (fun _ h => h) ?_
                                  refine AW.reg tiOk (fun _ => []) [4] ?_
                                  intro k hk; simp -dsimp (maxSteps := 2000000) [go_sem, -decide_eq_true_eq, -decide_eq_false_iff_not]
                                  repeat' (first | refine And.intro ?_ ?_ | refine hk _ ?_ | (intro hg; try simp only [decide_eq_true_eq, decide_eq_false_iff_not] at hg) | omega | exact True.intro)
                                  all_goals clear hk k
                                  refine AW.retF (ow := []) (muts := []) ?_ (fun h => And.intro (.inr rfl) h)
                                  first | (rw [chartF_2 h0, if_neg hs, if_neg (by simp [hst]), if_neg (fun h8 => by have h9 := someWrong_hit hlt (show wrong9 p c (i : Int) = true by first | assumption | simpa using hc); rw [h8.2] at h9; cases h9)]; simp [go_sem, Try.results38]; done) | (have hie2 : i = p.length := (by omega); rw [hie2] at hwr; rw [chartF_2 h0, if_neg hs, if_neg (by simp [hst]), if_pos ⟨hon, hwr⟩]; simp [go_sem, Try.results38]; done) | (rw [chartF_2 h0, if_neg hs, if_neg (by simp [hst]), if_neg (fun h8 => absurd h8.1 (by first | assumption | simpa using hc))]; simp [go_sem, Try.results38]; done) | (rw [chartF_2 h0, if_neg hs, if_pos (by assumption), if_pos (hz.1 (by first | assumption | simpa using hc))]; simp [go_sem, Try.results38]; done) | (rw [chartF_2 h0, if_neg hs, if_pos (by assumption), if_neg (fun h8 => by have h9 := hz.2 h8; simp_all)]; simp [go_sem, Try.results38]; done) | (rw [chartF_2 h0, if_pos (by have h9 := @smallB_miss c.acts 2 i (by omega); have h8 := @smallB_miss c.dues (c.now + 99) i (by omega); rw [← actA_nat] at h9; rw [← dueA_nat] at h8; grind)]; simp [go_sem, Try.results38]; done) | (simp [go_sem, Try.results38]; unfold chartF; grind)))
                          · intro hc; try simp at hc
                            all_goals (
                              refine AW.skipN (fun _ h => h) ?_
                              refine AW.seq ?_
                              have hst : c.status = 1 := by first | assumption | simpa using hc
                              have ha0 := actN_at (c := c) (k := 0) (by omega)
                              refine AW.reg tiOk (fun _ => []) [0, 1, 119] ?_
                              intro k hk; simp -dsimp (maxSteps := 2000000) [go_sem, -decide_eq_true_eq, -decide_eq_false_iff_not, ha0]
                              repeat' (first | refine And.intro ?_ ?_ | refine hk _ ?_ | (intro hg; try simp only [decide_eq_true_eq, decide_eq_false_iff_not] at hg) | omega | exact True.intro)
                              all_goals clear hk k
                              refine AW.cond rfl ?_ ?_
                              · intro hc; try simp at hc
                                all_goals (
                                  refine AW.reg tiOk (fun _ => []) [4] ?_
                                  intro k hk; simp -dsimp (maxSteps := 2000000) [go_sem, -decide_eq_true_eq, -decide_eq_false_iff_not]
                                  repeat' (first | refine And.intro ?_ ?_ | refine hk _ ?_ | (intro hg; try simp only [decide_eq_true_eq, decide_eq_false_iff_not] at hg) | omega | exact True.intro)
                                  all_goals clear hk k
                                  refine AW.retF (ow := []) (muts := []) ?_ (fun h => And.intro (.inr rfl) h)
                                  first | (rw [chartF_2 h0, if_neg hs, if_neg (by simp [hst]), if_neg (fun h8 => by have h9 := someWrong_hit hlt (show wrong9 p c (i : Int) = true by first | assumption | simpa using hc); rw [h8.2] at h9; cases h9)]; simp [go_sem, Try.results38]; done) | (have hie2 : i = p.length := (by omega); rw [hie2] at hwr; rw [chartF_2 h0, if_neg hs, if_neg (by simp [hst]), if_pos ⟨hon, hwr⟩]; simp [go_sem, Try.results38]; done) | (rw [chartF_2 h0, if_neg hs, if_neg (by simp [hst]), if_neg (fun h8 => absurd h8.1 (by first | assumption | simpa using hc))]; simp [go_sem, Try.results38]; done) | (rw [chartF_2 h0, if_neg hs, if_pos (by assumption), if_pos (hz.1 (by first | assumption | simpa using hc))]; simp [go_sem, Try.results38]; done) | (rw [chartF_2 h0, if_neg hs, if_pos (by assumption), if_neg (fun h8 => by have h9 := hz.2 h8; simp_all)]; simp [go_sem, Try.results38]; done) | (rw [chartF_2 h0, if_pos (by have h9 := @smallB_miss c.acts 2 i (by omega); have h8 := @smallB_miss c.dues (c.now + 99) i (by omega); rw [← actA_nat] at h9; rw [← dueA_nat] at h8; grind)]; simp [go_sem, Try.results38]; done) | (simp [go_sem, Try.results38]; unfold chartF; grind))
                              · intro hc; try simp at hc
                                all_goals (
                                  refine AW.skipN (fun _ h => h) ?_
                                  refine AW.seq ?_
                                  have hon : actA c 0 = 1 := by first | assumption | simpa using hc
                                  refine AW.reg tiOk (fun _ => []) [0, 1, 9] ?_
                                  intro k hk; simp -dsimp (maxSteps := 2000000) [go_sem, -decide_eq_true_eq, -decide_eq_false_iff_not]
                                  repeat' (first | refine And.intro ?_ ?_ | refine hk _ ?_ | (intro hg; try simp only [decide_eq_true_eq, decide_eq_false_iff_not] at hg) | omega | exact True.intro)
                                  all_goals clear hk k
                                  refine AW.block ?_
                                  -- live at the loop's head: [0, 1, 9]
                                  refine AW.loopI (fun i : Nat => ⟨130, [(0, .isl 6 (p.map TStep.ro)), (1, .ip c.ro), (9, .int .i64 i)], []⟩) (fun i => i ≤ p.length ∧ someWrong p c i = false) (fun i => p.length - i) (0) (by simp [someWrong]) (Less.of rfl (by simp [go_sem]) (by simp [go_sem])) ?_
                                  rintro i ⟨hi, hwr⟩
                                  refine AW.seq ?_
                                  refine AW.reg tiOk (fun _ => []) [0, 1, 9, 123] ?_
                                  intro k hk; simp -dsimp (maxSteps := 2000000) [go_sem, -decide_eq_true_eq, -decide_eq_false_iff_not]
                                  repeat' (first | refine And.intro ?_ ?_ | refine hk _ ?_ | (intro hg; try simp only [decide_eq_true_eq, decide_eq_false_iff_not] at hg) | omega | exact True.intro)
                                  all_goals clear hk k
                                  refine AW.cond rfl ?_ ?_
                                  · intro hc; try simp at hc
                                    all_goals (
                                      have hlt : i < p.length := by assumption
                                      refine AW.skipN (fun _ h => h) ?_
                                      refine AW.seq ?_
                                      refine AW.block ?_
                                      refine AW.reg tiOk (fun _ => []) [0, 1, 9, 129] ?_
                                      intro k hk; simp -dsimp (maxSteps := 2000000) [go_sem, -decide_eq_true_eq, -decide_eq_false_iff_not]
                                      repeat' (first | refine And.intro ?_ ?_ | refine hk _ ?_ | (intro hg; try simp only [decide_eq_true_eq, decide_eq_false_iff_not] at hg) | (refine CallK.intro (dc_spec_l9Wrong p c ho k5 k6 i hlt) ?_; simp -dsimp (maxSteps := 2000000) [go_sem, -decide_eq_true_eq, -decide_eq_false_iff_not]) | omega | exact True.intro)
                                      all_goals clear hk k
                                      refine AW.cond rfl ?_ ?_
                                      · intro hc; try simp at hc
                                        all_goals (
                                          refine AW.reg tiOk (fun _ => []) [4] ?_
                                          intro k hk; simp -dsimp (maxSteps := 2000000) [go_sem, -decide_eq_true_eq, -decide_eq_false_iff_not]
                                          repeat' (first | refine And.intro ?_ ?_ | refine hk _ ?_ | (intro hg; try simp only [decide_eq_true_eq, decide_eq_false_iff_not] at hg) | omega | exact True.intro)
                                          all_goals clear hk k
                                          refine AW.retF (ow := []) (muts := []) ?_ (fun h => And.intro (.inr rfl) h)
                                          first | (rw [chartF_2 h0, if_neg hs, if_neg (by simp [hst]), if_neg (fun h8 => by have h9 := someWrong_hit hlt (show wrong9 p c (i : Int) = true by first | assumption | simpa using hc); rw [h8.2] at h9; cases h9)]; simp [go_sem, Try.results38]; done) | (have hie2 : i = p.length := (by omega); rw [hie2] at hwr; rw [chartF_2 h0, if_neg hs, if_neg (by simp [hst]), if_pos ⟨hon, hwr⟩]; simp [go_sem, Try.results38]; done) | (rw [chartF_2 h0, if_neg hs, if_neg (by simp [hst]), if_neg (fun h8 => absurd h8.1 (by first | assumption | simpa using hc))]; simp [go_sem, Try.results38]; done) | (rw [chartF_2 h0, if_neg hs, if_pos (by assumption), if_pos (hz.1 (by first | assumption | simpa using hc))]; simp [go_sem, Try.results38]; done) | (rw [chartF_2 h0, if_neg hs, if_pos (by assumption), if_neg (fun h8 => by have h9 := hz.2 h8; simp_all)]; simp [go_sem, Try.results38]; done) | (rw [chartF_2 h0, if_pos (by have h9 := @smallB_miss c.acts 2 i (by omega); have h8 := @smallB_miss c.dues (c.now + 99) i (by omega); rw [← actA_nat] at h9; rw [← dueA_nat] at h8; grind)]; simp [go_sem, Try.results38]; done) | (simp [go_sem, Try.results38]; unfold chartF; grind))
                                      · intro hc; try simp at hc
                                        all_goals (
                                          refine AW.skipN (fun _ h => h) ?_
                                          refine AW.regK tiOk (fun _ => []) ?_
                                          intro k hk; simp -dsimp (maxSteps := 2000000) [go_sem, -decide_eq_true_eq, -decide_eq_false_iff_not]
                                          repeat' (first | refine And.intro ?_ ?_ | refine hk _ ?_ | (intro hg; try simp only [decide_eq_true_eq, decide_eq_false_iff_not] at hg) | omega | exact True.intro)
                                          all_goals clear hk k
                                          show ∃ _, _
                                          have hw := wrapi hlt (by omega)
                                          have hb2 : wrong9 p c (i : Int) = false := by first | assumption | simpa using hc
                                          refine ⟨i + 1, ⟨by omega, by rw [someWrong_step, hwr, hb2]; rfl⟩, by omega, Less.of rfl (by simp [go_sem, hw]) (by simp [go_sem])⟩))
                                  · intro hc; try simp at hc
                                    all_goals (
                                      refine AW.exitN (fun _ h => h) ?_
                                      refine AW.reg tiOk (fun _ => []) [4] ?_
                                      intro k hk; simp -dsimp (maxSteps := 2000000) [go_sem, -decide_eq_true_eq, -decide_eq_false_iff_not]
                                      repeat' (first | refine And.intro ?_ ?_ | refine hk _ ?_ | (intro hg; try simp only [decide_eq_true_eq, decide_eq_false_iff_not] at hg) | omega | exact True.intro)
                                      all_goals clear hk k
                                      refine AW.retF (ow := []) (muts := []) ?_ (fun h => And.intro (.inr rfl) h)
                                      first | (rw [chartF_2 h0, if_neg hs, if_neg (by simp [hst]), if_neg (fun h8 => by have h9 := someWrong_hit hlt (show wrong9 p c (i : Int) = true by first | assumption | simpa using hc); rw [h8.2] at h9; cases h9)]; simp [go_sem, Try.results38]; done) | (have hie2 : i = p.length := (by omega); rw [hie2] at hwr; rw [chartF_2 h0, if_neg hs, if_neg (by simp [hst]), if_pos ⟨hon, hwr⟩]; simp [go_sem, Try.results38]; done) | (rw [chartF_2 h0, if_neg hs, if_neg (by simp [hst]), if_neg (fun h8 => absurd h8.1 (by first | assumption | simpa using hc))]; simp [go_sem, Try.results38]; done) | (rw [chartF_2 h0, if_neg hs, if_pos (by assumption), if_pos (hz.1 (by first | assumption | simpa using hc))]; simp [go_sem, Try.results38]; done) | (rw [chartF_2 h0, if_neg hs, if_pos (by assumption), if_neg (fun h8 => by have h9 := hz.2 h8; simp_all)]; simp [go_sem, Try.results38]; done) | (rw [chartF_2 h0, if_pos (by have h9 := @smallB_miss c.acts 2 i (by omega); have h8 := @smallB_miss c.dues (c.now + 99) i (by omega); rw [← actA_nat] at h9; rw [← dueA_nat] at h8; grind)]; simp [go_sem, Try.results38]; done) | (simp [go_sem, Try.results38]; unfold chartF; grind)))))))))

set_option maxHeartbeats 600000 in
set_option linter.unusedSimpArgs false in
set_option maxRecDepth 100000 in
/-- spec.ChartFault -/
theorem dc_spec_ChartFault (p : List TStep) (c : TChart) (hp : p.length ≤ 9223372036854775807) (hg : ∀ e ∈ p, e.gok) (hc0 : c.gok) : DC Try.prog 9 [.isl 6 (p.map TStep.ro), .agg c.ro] (.int .i64 (chartF p c)) [] := by
  refine DC.intro tiOk Try.func9 rfl rfl rfl rfl rfl rfl rfl rfl [] ?_
  refine AW.reg tiOk (fun _ => []) [0, 3] ?_
  intro k hk; simp -dsimp (maxSteps := 2000000) [go_sem, -decide_eq_true_eq, -decide_eq_false_iff_not]
  repeat' (first | refine And.intro ?_ ?_ | refine hk _ ?_ | (intro hg; try simp only [decide_eq_true_eq, decide_eq_false_iff_not] at hg) | omega | exact True.intro)
  all_goals clear hk k
  refine AW.reg tiOk (fun _ => []) [4] ?_
  intro k hk; simp -dsimp (maxSteps := 2000000) [go_sem, -decide_eq_true_eq, -decide_eq_false_iff_not]
  repeat' (first | refine And.intro ?_ ?_ | refine hk _ ?_ | (intro hg; try simp only [decide_eq_true_eq, decide_eq_false_iff_not] at hg) | (refine CallK.intro (dc_spec_l9Fault p c hp hg hc0) ?_; simp -dsimp (maxSteps := 2000000) [go_sem, -decide_eq_true_eq, -decide_eq_false_iff_not]) | omega | exact True.intro)
  all_goals clear hk k
  refine AW.retF (ow := []) (muts := []) ?_ (fun h => And.intro (.inr rfl) h)
  simp [go_sem, Try.results9]

end Go.AM

/-! ### O2 -/
set_option linter.unusedVariables false
set_option linter.unusedSimpArgs false
namespace Go.AM
open Go.Proofs

set_option maxHeartbeats 600000 in
set_option linter.unusedSimpArgs false in
set_option maxRecDepth 100000 in
/-- impl.OpenSteps -/
theorem dc_impl_OpenSteps_bad (p : List TStep) (c : TChart) (hp : p.length ≤ 9223372036854775807) (hg : ∀ e ∈ p, e.gok) (hc0 : c.gok) (hl : chartF p c ≠ 0) : DC Try.prog 16 [.isl 6 (p.map TStep.ro), .agg c.ro] (.agg [.int .i64 (chartF p c), .isl 1 []]) [] := by
  refine DC.intro tiOk Try.func16 rfl rfl rfl rfl rfl rfl rfl rfl [1000] ?_
  refine AW.reg tiOk (fun _ => []) [0, 3, 4] ?_
  intro k hk; simp -dsimp [go_sem, -decide_eq_true_eq, -decide_eq_false_iff_not, hl]
  repeat' (first | refine And.intro ?_ ?_ | refine hk _ ?_ | intro hg | omega | exact True.intro)
  all_goals clear hk k
  refine AW.seq ?_
  refine AW.reg tiOk (fun _ => []) [0, 3, 4, 5] ?_
  intro k hk; simp -dsimp (maxSteps := 2000000) [go_sem, -decide_eq_true_eq, -decide_eq_false_iff_not, hl]
  repeat' (first | refine And.intro ?_ ?_ | refine hk _ ?_ | intro hg | (refine CallK.intro (dc_impl_ChartFault p c hp hg hc0) ?_; simp -dsimp (maxSteps := 2000000) [go_sem, -decide_eq_true_eq, -decide_eq_false_iff_not, hl]) | omega | exact True.intro)
  all_goals clear hk k
  refine AW.reg tiOk (fun _ => []) [0, 3, 4, 5, 10] ?_
  intro k hk; simp -dsimp [go_sem, -decide_eq_true_eq, -decide_eq_false_iff_not, hl]
  repeat' (first | refine And.intro ?_ ?_ | refine hk _ ?_ | intro hg | omega | exact True.intro)
  all_goals clear hk k
  refine AW.cond rfl ?_ ?_
  · intro hc; try simp at hc
    all_goals try (exfalso; contradiction; done)
    all_goals (
      refine AW.reg tiOk (fun _ => []) [4] ?_
      intro k hk; simp -dsimp [go_sem, -decide_eq_true_eq, -decide_eq_false_iff_not, hl]
      repeat' (first | refine And.intro ?_ ?_ | refine hk _ ?_ | intro hg | omega | exact True.intro)
      all_goals clear hk k
      refine AW.retF (ow := [1000]) (muts := []) ?_ (fun h => And.intro (.inr rfl) h)
      simp [go_sem, Try.results16])
  · intro hc; try simp at hc
    all_goals try (exfalso; contradiction; done)
    all_goals (
      refine AW.skipN (fun _ h => h) ?_
      refine AW.reg tiOk (fun _ => []) [4] ?_
      intro k hk; simp -dsimp (maxSteps := 2000000) [go_sem, -decide_eq_true_eq, -decide_eq_false_iff_not, hl]
      repeat' (first | refine And.intro ?_ ?_ | refine hk _ ?_ | intro hg | (refine CallK.intro (dc_impl_openSteps _) ?_; simp -dsimp (maxSteps := 2000000) [go_sem, -decide_eq_true_eq, -decide_eq_false_iff_not, hl]) | omega | exact True.intro)
      all_goals clear hk k
      refine AW.retF (ow := [1000]) (muts := []) ?_ (fun h => And.intro (.inr rfl) h)
      simp [go_sem, Try.results16])

set_option maxHeartbeats 600000 in
set_option linter.unusedSimpArgs false in
set_option maxRecDepth 100000 in
/-- impl.OpenSteps -/
theorem dc_impl_OpenSteps_ok (p : List TStep) (c : TChart) (hp : p.length ≤ 9223372036854775807) (hg : ∀ e ∈ p, e.gok) (hc0 : c.gok) (hl : chartF p c = 0) : DC Try.prog 16 [.isl 6 (p.map TStep.ro), .agg c.ro] (.agg [.int .i64 0, .osl 1 ((openU p c p.length).map I1)]) [] := by
  have h0 : chart1 p c = 0 := by apply Classical.byContradiction; intro h9; rw [chartF_1 h9] at hl; exact h9 hl
  obtain ⟨k1, k2, k3, k4, k5, k6⟩ := chart1_ok h0
  have hpl := (procOk k1).len
  refine DC.intro tiOk Try.func16 rfl rfl rfl rfl rfl rfl rfl rfl [1000] ?_
  refine AW.reg tiOk (fun _ => []) [0, 3, 4] ?_
  intro k hk; simp -dsimp [go_sem, -decide_eq_true_eq, -decide_eq_false_iff_not, hl]
  repeat' (first | refine And.intro ?_ ?_ | refine hk _ ?_ | intro hg | omega | exact True.intro)
  all_goals clear hk k
  refine AW.seq ?_
  refine AW.reg tiOk (fun _ => []) [0, 3, 4, 5] ?_
  intro k hk; simp -dsimp (maxSteps := 2000000) [go_sem, -decide_eq_true_eq, -decide_eq_false_iff_not, hl]
  repeat' (first | refine And.intro ?_ ?_ | refine hk _ ?_ | intro hg | (refine CallK.intro (dc_impl_ChartFault p c hp hg hc0) ?_; simp -dsimp (maxSteps := 2000000) [go_sem, -decide_eq_true_eq, -decide_eq_false_iff_not, hl]) | omega | exact True.intro)
  all_goals clear hk k
  refine AW.reg tiOk (fun _ => []) [0, 3, 4, 5, 10] ?_
  intro k hk; simp -dsimp [go_sem, -decide_eq_true_eq, -decide_eq_false_iff_not, hl]
  repeat' (first | refine And.intro ?_ ?_ | refine hk _ ?_ | intro hg | omega | exact True.intro)
  all_goals clear hk k
  refine AW.cond rfl ?_ ?_
  · intro hc; try simp at hc
    all_goals try (exfalso; contradiction; done)
    all_goals (
      refine AW.reg tiOk (fun _ => []) [4] ?_
      intro k hk; simp -dsimp [go_sem, -decide_eq_true_eq, -decide_eq_false_iff_not, hl]
      repeat' (first | refine And.intro ?_ ?_ | refine hk _ ?_ | intro hg | omega | exact True.intro)
      all_goals clear hk k
      refine AW.retF (ow := [1000]) (muts := []) ?_ (fun h => And.intro (.inr rfl) h)
      simp [go_sem, Try.results16])
  · intro hc; try simp at hc
    all_goals try (exfalso; contradiction; done)
    all_goals (
      refine AW.skipN (fun _ h => h) ?_
      refine AW.reg tiOk (fun _ => []) [4] ?_
      intro k hk; simp -dsimp (maxSteps := 2000000) [go_sem, -decide_eq_true_eq, -decide_eq_false_iff_not, hl]
      repeat' (first | refine And.intro ?_ ?_ | refine hk _ ?_ | intro hg | (refine CallK.intro (dc_impl_openSteps p c hpl.2 k5) ?_; simp -dsimp (maxSteps := 2000000) [go_sem, -decide_eq_true_eq, -decide_eq_false_iff_not, hl]) | omega | exact True.intro)
      all_goals clear hk k
      refine AW.retF (ow := [1000]) (muts := []) ?_ (fun h => And.intro (.inr rfl) h)
      simp [go_sem, Try.results16])

set_option maxHeartbeats 600000 in
set_option linter.unusedSimpArgs false in
set_option maxRecDepth 100000 in
/-- spec.OpenSteps -/
theorem dc_spec_OpenSteps_bad (p : List TStep) (c : TChart) (hp : p.length ≤ 9223372036854775807) (hg : ∀ e ∈ p, e.gok) (hc0 : c.gok) (hl : chartF p c ≠ 0) : DC Try.prog 15 [.isl 6 (p.map TStep.ro), .agg c.ro] (.agg [.int .i64 (chartF p c), .isl 1 []]) [] := by
  refine DC.intro tiOk Try.func15 rfl rfl rfl rfl rfl rfl rfl rfl [1000] ?_
  refine AW.reg tiOk (fun _ => []) [0, 3, 4] ?_
  intro k hk; simp -dsimp [go_sem, -decide_eq_true_eq, -decide_eq_false_iff_not, hl]
  repeat' (first | refine And.intro ?_ ?_ | refine hk _ ?_ | intro hg | omega | exact True.intro)
  all_goals clear hk k
  refine AW.seq ?_
  refine AW.reg tiOk (fun _ => []) [0, 3, 4, 5] ?_
  intro k hk; simp -dsimp (maxSteps := 2000000) [go_sem, -decide_eq_true_eq, -decide_eq_false_iff_not, hl]
  repeat' (first | refine And.intro ?_ ?_ | refine hk _ ?_ | intro hg | (refine CallK.intro (dc_spec_l9Fault p c hp hg hc0) ?_; simp -dsimp (maxSteps := 2000000) [go_sem, -decide_eq_true_eq, -decide_eq_false_iff_not, hl]) | omega | exact True.intro)
  all_goals clear hk k
  refine AW.reg tiOk (fun _ => []) [0, 3, 4, 5, 9] ?_
  intro k hk; simp -dsimp [go_sem, -decide_eq_true_eq, -decide_eq_false_iff_not, hl]
  repeat' (first | refine And.intro ?_ ?_ | refine hk _ ?_ | intro hg | omega | exact True.intro)
  all_goals clear hk k
  refine AW.cond rfl ?_ ?_
  · intro hc; try simp at hc
    all_goals try (exfalso; contradiction; done)
    all_goals (
      refine AW.reg tiOk (fun _ => []) [4] ?_
      intro k hk; simp -dsimp [go_sem, -decide_eq_true_eq, -decide_eq_false_iff_not, hl]
      repeat' (first | refine And.intro ?_ ?_ | refine hk _ ?_ | intro hg | omega | exact True.intro)
      all_goals clear hk k
      refine AW.retF (ow := [1000]) (muts := []) ?_ (fun h => And.intro (.inr rfl) h)
      simp [go_sem, Try.results15])
  · intro hc; try simp at hc
    all_goals try (exfalso; contradiction; done)
    all_goals (
      refine AW.skipN (fun _ h => h) ?_
      refine AW.reg tiOk (fun _ => []) [4] ?_
      intro k hk; simp -dsimp (maxSteps := 2000000) [go_sem, -decide_eq_true_eq, -decide_eq_false_iff_not, hl]
      repeat' (first | refine And.intro ?_ ?_ | refine hk _ ?_ | intro hg | (refine CallK.intro (dc_spec_l9Open _) ?_; simp -dsimp (maxSteps := 2000000) [go_sem, -decide_eq_true_eq, -decide_eq_false_iff_not, hl]) | omega | exact True.intro)
      all_goals clear hk k
      refine AW.retF (ow := [1000]) (muts := []) ?_ (fun h => And.intro (.inr rfl) h)
      simp [go_sem, Try.results15])

set_option maxHeartbeats 600000 in
set_option linter.unusedSimpArgs false in
set_option maxRecDepth 100000 in
/-- spec.OpenSteps -/
theorem dc_spec_OpenSteps_ok (p : List TStep) (c : TChart) (hp : p.length ≤ 9223372036854775807) (hg : ∀ e ∈ p, e.gok) (hc0 : c.gok) (hl : chartF p c = 0) : DC Try.prog 15 [.isl 6 (p.map TStep.ro), .agg c.ro] (.agg [.int .i64 0, .osl 1 ((openU p c p.length).map I1)]) [] := by
  have h0 : chart1 p c = 0 := by apply Classical.byContradiction; intro h9; rw [chartF_1 h9] at hl; exact h9 hl
  obtain ⟨k1, k2, k3, k4, k5, k6⟩ := chart1_ok h0
  have hpl := (procOk k1).len
  refine DC.intro tiOk Try.func15 rfl rfl rfl rfl rfl rfl rfl rfl [1000] ?_
  refine AW.reg tiOk (fun _ => []) [0, 3, 4] ?_
  intro k hk; simp -dsimp [go_sem, -decide_eq_true_eq, -decide_eq_false_iff_not, hl]
  repeat' (first | refine And.intro ?_ ?_ | refine hk _ ?_ | intro hg | omega | exact True.intro)
  all_goals clear hk k
  refine AW.seq ?_
  refine AW.reg tiOk (fun _ => []) [0, 3, 4, 5] ?_
  intro k hk; simp -dsimp (maxSteps := 2000000) [go_sem, -decide_eq_true_eq, -decide_eq_false_iff_not, hl]
  repeat' (first | refine And.intro ?_ ?_ | refine hk _ ?_ | intro hg | (refine CallK.intro (dc_spec_l9Fault p c hp hg hc0) ?_; simp -dsimp (maxSteps := 2000000) [go_sem, -decide_eq_true_eq, -decide_eq_false_iff_not, hl]) | omega | exact True.intro)
  all_goals clear hk k
  refine AW.reg tiOk (fun _ => []) [0, 3, 4, 5, 9] ?_
  intro k hk; simp -dsimp [go_sem, -decide_eq_true_eq, -decide_eq_false_iff_not, hl]
  repeat' (first | refine And.intro ?_ ?_ | refine hk _ ?_ | intro hg | omega | exact True.intro)
  all_goals clear hk k
  refine AW.cond rfl ?_ ?_
  · intro hc; try simp at hc
    all_goals try (exfalso; contradiction; done)
    all_goals (
      refine AW.reg tiOk (fun _ => []) [4] ?_
      intro k hk; simp -dsimp [go_sem, -decide_eq_true_eq, -decide_eq_false_iff_not, hl]
      repeat' (first | refine And.intro ?_ ?_ | refine hk _ ?_ | intro hg | omega | exact True.intro)
      all_goals clear hk k
      refine AW.retF (ow := [1000]) (muts := []) ?_ (fun h => And.intro (.inr rfl) h)
      simp [go_sem, Try.results15])
  · intro hc; try simp at hc
    all_goals try (exfalso; contradiction; done)
    all_goals (
      refine AW.skipN (fun _ h => h) ?_
      refine AW.reg tiOk (fun _ => []) [4] ?_
      intro k hk; simp -dsimp (maxSteps := 2000000) [go_sem, -decide_eq_true_eq, -decide_eq_false_iff_not, hl]
      repeat' (first | refine And.intro ?_ ?_ | refine hk _ ?_ | intro hg | (refine CallK.intro (dc_spec_l9Open p c hpl.2 k5) ?_; simp -dsimp (maxSteps := 2000000) [go_sem, -decide_eq_true_eq, -decide_eq_false_iff_not, hl]) | omega | exact True.intro)
      all_goals clear hk k
      refine AW.retF (ow := [1000]) (muts := []) ?_ (fun h => And.intro (.inr rfl) h)
      simp [go_sem, Try.results15])

end Go.AM

/-! ### M1 -/
set_option linter.unusedVariables false
set_option linter.unusedSimpArgs false
namespace Go.AM
open Go.Proofs

set_option maxHeartbeats 600000 in
set_option linter.unusedSimpArgs false in
set_option maxRecDepth 100000 in
/-- laws.markText -/
theorem dc_laws_markText (k : Int) (hk : k ≤ 4611686018427387904) : DC Try.prog 53 [.int .i64 k] (.str (mt k)) [] := by
  refine DC.intro tiOk Try.func53 rfl rfl rfl rfl rfl rfl rfl rfl [] ?_
  refine AW.reg tiOk (fun _ => []) [0] ?_
  intro k hk; simp -dsimp (maxSteps := 2000000) [go_sem, -decide_eq_true_eq, -decide_eq_false_iff_not]
  repeat' (first | refine And.intro ?_ ?_ | refine hk _ ?_ | (intro hg; try simp only [decide_eq_true_eq, decide_eq_false_iff_not] at hg) | omega | exact True.intro)
  all_goals clear hk k
  refine AW.seq ?_
  refine AW.reg tiOk (fun _ => []) [0, 5] ?_
  intro k hk; simp -dsimp (maxSteps := 2000000) [go_sem, -decide_eq_true_eq, -decide_eq_false_iff_not]
  repeat' (first | refine And.intro ?_ ?_ | refine hk _ ?_ | (intro hg; try simp only [decide_eq_true_eq, decide_eq_false_iff_not] at hg) | omega | exact True.intro)
  all_goals clear hk k
  refine AW.cond rfl ?_ ?_
  · intro hc; try simp at hc
    all_goals (
      refine AW.reg tiOk (fun _ => []) [2] ?_
      intro k hk; simp -dsimp (maxSteps := 2000000) [go_sem, -decide_eq_true_eq, -decide_eq_false_iff_not]
      repeat' (first | refine And.intro ?_ ?_ | refine hk _ ?_ | (intro hg; try simp only [decide_eq_true_eq, decide_eq_false_iff_not] at hg) | omega | exact True.intro)
      all_goals clear hk k
      refine AW.retF (ow := []) (muts := []) ?_ (fun h => And.intro (.inr rfl) h)
      first | (simp [go_sem, Try.results53, mt, *]; done) | (have hz := digs_zero (n := k'.toNat) (k := k') (acc := acc) (by simpa using hc); have hk0 : ¬ k ≤ 0 := (by omega); simp [go_sem, Try.results53, mt, hk0, h4, hz]))
  · intro hc; try simp at hc
    all_goals (
      refine AW.skipN (fun _ h => h) ?_
      refine AW.reg tiOk (fun _ => []) [0, 3] ?_
      intro k hk; simp -dsimp (maxSteps := 2000000) [go_sem, -decide_eq_true_eq, -decide_eq_false_iff_not]
      repeat' (first | refine And.intro ?_ ?_ | refine hk _ ?_ | (intro hg; try simp only [decide_eq_true_eq, decide_eq_false_iff_not] at hg) | omega | exact True.intro)
      all_goals clear hk k
      refine AW.seq ?_
      refine AW.block ?_
      -- live at the loop's head: [0, 3]
      refine AW.loopI (fun i : Int × List UInt8 => ⟨20, [(0, .int .i64 i.1), (3, .str i.2)], []⟩) (fun i => 0 ≤ i.1 ∧ i.1 * 10 ^ i.2.length ≤ 4611686018427387904 ∧ i.2.length ≤ 19 ∧ digs k.toNat k [] = digs i.1.toNat i.1 i.2) (fun i => i.1.toNat) ((k, [])) (by refine ⟨by omega, by simp; omega, by simp, rfl⟩) (Less.of rfl (by simp [go_sem]) (by simp [go_sem])) ?_
      rintro ⟨k', acc⟩ ⟨h1, h2, h3, h4⟩
      simp only at h1 h2 h3 h4
      refine AW.seq ?_
      refine AW.reg tiOk (fun _ => []) [0, 3, 7] ?_
      intro k hk; simp -dsimp (maxSteps := 2000000) [go_sem, -decide_eq_true_eq, -decide_eq_false_iff_not]
      repeat' (first | refine And.intro ?_ ?_ | refine hk _ ?_ | (intro hg; try simp only [decide_eq_true_eq, decide_eq_false_iff_not] at hg) | omega | exact True.intro)
      all_goals clear hk k
      refine AW.cond rfl ?_ ?_
      · intro hc; try simp at hc
        all_goals (
          have hlt : 0 < k' := by simpa using hc
          have htm : k'.tmod 10 = k' % 10 := Int.tmod_eq_emod_of_nonneg h1
          have htd : k'.tdiv 10 = k' / 10 := Int.tdiv_eq_ediv_of_nonneg h1
          have hkb := mt_big hlt h2
          have hw1 : IntKind.wrap .i64 (48 + k' % 10) = 48 + k' % 10 := wrap64 (by omega) (by omega)
          have hw2 : IntKind.wrap .i64 (k' / 10) = k' / 10 := wrap64 (by omega) (by omega)
          obtain ⟨hs1, hs2⟩ := mt_step hlt h2
          refine AW.skipN (fun _ h => h) ?_
          refine AW.block ?_
          refine AW.reg tiOk (fun _ => []) [0, 3] ?_
          intro k hk; simp -dsimp (maxSteps := 2000000) [go_sem, -decide_eq_true_eq, -decide_eq_false_iff_not, htm, htd, hw1, hw2]
          repeat' (first | refine And.intro ?_ ?_ | refine hk _ ?_ | (intro hg; try simp only [decide_eq_true_eq, decide_eq_false_iff_not] at hg) | omega | exact True.intro)
          all_goals clear hk k
          refine AW.regK tiOk (fun _ => []) ?_
          intro k hk; simp -dsimp (maxSteps := 2000000) [go_sem, -decide_eq_true_eq, -decide_eq_false_iff_not, htm, htd, hw1, hw2]
          repeat' (first | refine And.intro ?_ ?_ | refine hk _ ?_ | (intro hg; try simp only [decide_eq_true_eq, decide_eq_false_iff_not] at hg) | omega | exact True.intro)
          all_goals clear hk k
          show ∃ _, _
          refine ⟨(k' / 10, b8 (48 + k' % 10) :: acc), ⟨by simp only; omega, by simpa using hs2, by simp; omega, ?_⟩, by simp only; omega, Less.of rfl (by simp [go_sem, hw2]) (by simp [go_sem])⟩
          rw [h4, digs_step hlt])
      · intro hc; try simp at hc
        all_goals (
          refine AW.exitN (fun _ h => h) ?_
          refine AW.reg tiOk (fun _ => []) [2] ?_
          intro k hk; simp -dsimp (maxSteps := 2000000) [go_sem, -decide_eq_true_eq, -decide_eq_false_iff_not]
          repeat' (first | refine And.intro ?_ ?_ | refine hk _ ?_ | (intro hg; try simp only [decide_eq_true_eq, decide_eq_false_iff_not] at hg) | omega | exact True.intro)
          all_goals clear hk k
          refine AW.retF (ow := []) (muts := []) ?_ (fun h => And.intro (.inr rfl) h)
          first | (simp [go_sem, Try.results53, mt, *]; done) | (have hz := digs_zero (n := k'.toNat) (k := k') (acc := acc) (by simpa using hc); have hk0 : ¬ k ≤ 0 := (by omega); simp [go_sem, Try.results53, mt, hk0, h4, hz])))

end Go.AM

/-! ### O3 -/
set_option linter.unusedVariables false
set_option linter.unusedSimpArgs false
namespace Go.AM
open Go.Proofs

set_option maxHeartbeats 600000 in
set_option linter.unusedSimpArgs false in
set_option maxRecDepth 100000 in
/-- laws.markNodeS -/
theorem dc_laws_markNodeS_nil (k : Int) : DC Try.prog 54 [.isl 4 [], .int .i64 k] (.int .i64 k) [] := by
  refine DC.intro tiOk Try.func54 rfl rfl rfl rfl rfl rfl rfl rfl [] ?_
  refine AW.reg tiOk (fun _ => []) [0, 1] ?_
  intro k hk; simp -dsimp [go_sem, -decide_eq_true_eq, -decide_eq_false_iff_not]
  repeat' (first | refine And.intro ?_ ?_ | refine hk _ ?_ | intro hg | omega | exact True.intro)
  all_goals clear hk k
  refine AW.seq ?_
  refine AW.reg tiOk (fun _ => []) [0, 1, 5] ?_
  intro k hk; simp -dsimp [go_sem, -decide_eq_true_eq, -decide_eq_false_iff_not]
  repeat' (first | refine And.intro ?_ ?_ | refine hk _ ?_ | intro hg | omega | exact True.intro)
  all_goals clear hk k
  refine AW.block ?_
  -- live at the loop's head: [0, 1, 5]
  refine AW.loopI (fun _ : Nat => ⟨41, [(0, .isl 4 []), (1, .int .i64 k), (5, .int .i64 0)], []⟩) (fun _ => True) (fun _ => 0) (0) (trivial) (Less.of rfl (by simp [go_sem]) (by simp [go_sem])) ?_
  rintro i _
  refine AW.seq ?_
  refine AW.reg tiOk (fun _ => []) [0, 1, 5, 9] ?_
  intro k hk; simp -dsimp [go_sem, -decide_eq_true_eq, -decide_eq_false_iff_not]
  repeat' (first | refine And.intro ?_ ?_ | refine hk _ ?_ | intro hg | omega | exact True.intro)
  all_goals clear hk k
  refine AW.cond rfl ?_ ?_
  · intro hc; try simp at hc
    all_goals try (exfalso; first | omega | (simp at hc; done); done)
    all_goals (
      refine AW.skipN (fun _ h => h) ?_
      refine AW.seq ?_
      refine AW.block ?_
      refine AW.reg tiOk (fun _ => []) [0, 1, 5] ?_
      intro k hk; simp -dsimp [go_sem, -decide_eq_true_eq, -decide_eq_false_iff_not]
      repeat' (first | refine And.intro ?_ ?_ | refine hk _ ?_ | intro hg | omega | exact True.intro)
      all_goals clear hk k
      refine AW.reg tiOk (fun _ => []) [0, 1, 5] ?_
      intro k hk; simp -dsimp [go_sem, -decide_eq_true_eq, -decide_eq_false_iff_not]
      repeat' (first | refine And.intro ?_ ?_ | refine hk _ ?_ | intro hg | omega | exact True.intro)
      all_goals clear hk k
      refine AW.reg tiOk (fun _ => []) [0, 1, 5] ?_
      intro k hk; simp -dsimp [go_sem, -decide_eq_true_eq, -decide_eq_false_iff_not]
      repeat' (first | refine And.intro ?_ ?_ | refine hk _ ?_ | intro hg | omega | exact True.intro)
      all_goals clear hk k
      refine AW.reg tiOk (fun _ => []) [0, 1, 5] ?_
      intro k hk; simp -dsimp [go_sem, -decide_eq_true_eq, -decide_eq_false_iff_not]
      repeat' (first | refine And.intro ?_ ?_ | refine hk _ ?_ | intro hg | omega | exact True.intro)
      all_goals clear hk k
      refine AW.reg tiOk (fun _ => []) [0, 1, 5] ?_
      intro k hk; simp -dsimp [go_sem, -decide_eq_true_eq, -decide_eq_false_iff_not]
      repeat' (first | refine And.intro ?_ ?_ | refine hk _ ?_ | intro hg | omega | exact True.intro)
      all_goals clear hk k
      refine AW.reg tiOk (fun _ => []) [0, 1, 5] ?_
      intro k hk; simp -dsimp [go_sem, -decide_eq_true_eq, -decide_eq_false_iff_not]
      repeat' (first | refine And.intro ?_ ?_ | refine hk _ ?_ | intro hg | omega | exact True.intro)
      all_goals clear hk k
      refine AW.reg tiOk (fun _ => []) [0, 1, 5] ?_
      intro k hk; simp -dsimp [go_sem, -decide_eq_true_eq, -decide_eq_false_iff_not]
      repeat' (first | refine And.intro ?_ ?_ | refine hk _ ?_ | intro hg | omega | exact True.intro)
      all_goals clear hk k
      refine AW.regN tiOk (fun _ => []) [0, 1, 5] (fun _ h => h) ?_
      intro k hk; simp -dsimp [go_sem, -decide_eq_true_eq, -decide_eq_false_iff_not]
      repeat' (first | refine And.intro ?_ ?_ | refine hk _ ?_ | intro hg | omega | exact True.intro)
      all_goals clear hk k
      refine AW.regK tiOk (fun _ => []) ?_
      intro k hk; simp -dsimp [go_sem, -decide_eq_true_eq, -decide_eq_false_iff_not]
      repeat' (first | refine And.intro ?_ ?_ | refine hk _ ?_ | intro hg | omega | exact True.intro)
      all_goals clear hk k
      show ∃ _, _
      exact absurd hc (by simp))
  · intro hc; try simp at hc
    all_goals try (exfalso; first | omega | (simp at hc; done); done)
    all_goals (
      refine AW.exitN (fun _ h => h) ?_
      refine AW.reg tiOk (fun _ => []) [4] ?_
      intro k hk; simp -dsimp [go_sem, -decide_eq_true_eq, -decide_eq_false_iff_not]
      repeat' (first | refine And.intro ?_ ?_ | refine hk _ ?_ | intro hg | omega | exact True.intro)
      all_goals clear hk k
      refine AW.retF (ow := []) (muts := []) ?_ (fun h => And.intro (.inr rfl) h)
      simp [go_sem, Try.results54])

set_option maxHeartbeats 600000 in
set_option linter.unusedSimpArgs false in
set_option maxRecDepth 100000 in
/-- laws.markNodeS -/
theorem dc_laws_markNodeS (l : List TNode) (k : Int) (hk : 0 ≤ k ∧ k + 4 * l.length ≤ 4611686018427387904) : DC Try.prog 54 [.osl 4 (l.map TNode.ro), .int .i64 k] (.int .i64 (k + 4 * (l.length : Int))) [] := by
  refine DC.intro tiOk Try.func54 rfl rfl rfl rfl rfl rfl rfl rfl [] ?_
  refine AW.reg tiOk (fun _ => []) [0, 1] ?_
  intro k hk; simp -dsimp [go_sem, -decide_eq_true_eq, -decide_eq_false_iff_not]
  repeat' (first | refine And.intro ?_ ?_ | refine hk _ ?_ | intro hg | omega | exact True.intro)
  all_goals clear hk k
  refine AW.seq ?_
  refine AW.reg tiOk (fun _ => []) [0, 1, 5] ?_
  intro k hk; simp -dsimp [go_sem, -decide_eq_true_eq, -decide_eq_false_iff_not]
  repeat' (first | refine And.intro ?_ ?_ | refine hk _ ?_ | intro hg | omega | exact True.intro)
  all_goals clear hk k
  refine AW.block ?_
  -- live at the loop's head: [0, 1, 5]
  refine AW.loopI (fun i : Nat => ⟨41, [(0, .sl 1900 4 0 l.length), (1, .int .i64 (k + 4 * (i : Int))), (5, .int .i64 i)], [(1900, some ⟨4, mkP (fN k) (l.map TNode.ro) 0 i⟩)]⟩) (fun i => i ≤ l.length) (fun i => l.length - i) (0) (by simp) (Less.of rfl (by simp [go_sem]) (by simp [go_sem, mkP_zero])) ?_
  rintro i hi
  refine AW.seq ?_
  refine AW.reg tiOk (fun _ => []) [0, 1, 5, 9] ?_
  intro k hk; simp -dsimp [go_sem, -decide_eq_true_eq, -decide_eq_false_iff_not]
  repeat' (first | refine And.intro ?_ ?_ | refine hk _ ?_ | intro hg | omega | exact True.intro)
  all_goals clear hk k
  refine AW.cond rfl ?_ ?_
  · intro hc; try simp at hc
    all_goals (
      have hlt : i < l.length := by assumption
      obtain ⟨x, hx⟩ := at_some hlt
      have hp : (mkP (fN k) (l.map TNode.ro) 0 i).length = l.length := by rw [mkP_len (by simpa using hi)]; simp
      have hp2 : (mkP (fN k) (l.map TNode.ro) 0 i)[i]? = some x.ro := mkP_at (by simp [hx])
      have hp3 : ∀ h, (mkP (fN k) (l.map TNode.ro) 0 i)[i]'h = x.ro := fun h => by have h9 := hp2; rw [List.getElem?_eq_getElem h] at h9; exact Option.some.inj h9
      have hwk0 : IntKind.wrap .i64 (k + 4 * (i : Int) + 1) = k + 4 * (i : Int) + 1 := (wrap64 (by omega) (by omega)).trans (by omega)
      have hwk1 : IntKind.wrap .i64 (k + 4 * (i : Int) + 1 + 1) = k + 4 * (i : Int) + 2 := (wrap64 (by omega) (by omega)).trans (by omega)
      have hwk2 : IntKind.wrap .i64 (k + 4 * (i : Int) + 2 + 1) = k + 4 * (i : Int) + 3 := (wrap64 (by omega) (by omega)).trans (by omega)
      have hwk3 : IntKind.wrap .i64 (k + 4 * (i : Int) + 3 + 1) = k + 4 * (i : Int) + 4 := (wrap64 (by omega) (by omega)).trans (by omega)
      have hwv0 : IntKind.wrap .i64 (k + 4 * (i : Int)) = k + 4 * (i : Int) := wrap64 (by omega) (by omega)
      have hwv1 : IntKind.wrap .i64 (k + 4 * (i : Int) + 1) = k + 4 * (i : Int) + 1 := wrap64 (by omega) (by omega)
      have hwv2 : IntKind.wrap .i64 (k + 4 * (i : Int) + 2) = k + 4 * (i : Int) + 2 := wrap64 (by omega) (by omega)
      have hwv3 : IntKind.wrap .i64 (k + 4 * (i : Int) + 3) = k + 4 * (i : Int) + 3 := wrap64 (by omega) (by omega)
      have hwv4 : IntKind.wrap .i64 (k + 4 * (i : Int) + 4) = k + 4 * (i : Int) + 4 := wrap64 (by omega) (by omega)
      refine AW.skipN (fun _ h => h) ?_
      refine AW.seq ?_
      refine AW.block ?_
      refine AW.reg tiOk (fun _ => []) [0, 1, 5] ?_
      intro k hk; simp -dsimp [go_sem, -decide_eq_true_eq, -decide_eq_false_iff_not, hp, hp2, hp3, hlt, hwk0, hwk1, hwk2, hwk3, hwv0, hwv1, hwv2, hwv3, hwv4]
      repeat' (first | refine And.intro ?_ ?_ | refine hk _ ?_ | intro hg | omega | exact True.intro)
      all_goals clear hk k
      refine AW.reg tiOk (fun _ => []) [0, 1, 5] ?_
      intro k hk; simp -dsimp [go_sem, -decide_eq_true_eq, -decide_eq_false_iff_not, hp, hp2, hp3, hlt, hwk0, hwk1, hwk2, hwk3, hwv0, hwv1, hwv2, hwv3, hwv4]
      repeat' (first | refine And.intro ?_ ?_ | refine hk _ ?_ | intro hg | omega | exact True.intro)
      all_goals clear hk k
      refine AW.reg tiOk (fun _ => []) [0, 1, 5] ?_
      intro k hk; simp -dsimp [go_sem, -decide_eq_true_eq, -decide_eq_false_iff_not, hp, hp2, hp3, hlt, hwk0, hwk1, hwk2, hwk3, hwv0, hwv1, hwv2, hwv3, hwv4]
      repeat' (first | refine And.intro ?_ ?_ | refine hk _ ?_ | intro hg | omega | exact True.intro)
      all_goals clear hk k
      refine AW.reg tiOk (fun _ => []) [0, 1, 5] ?_
      intro k hk; simp -dsimp [go_sem, -decide_eq_true_eq, -decide_eq_false_iff_not, hp, hp2, hp3, hlt, hwk0, hwk1, hwk2, hwk3, hwv0, hwv1, hwv2, hwv3, hwv4]
      repeat' (first | refine And.intro ?_ ?_ | refine hk _ ?_ | intro hg | omega | exact True.intro)
      all_goals clear hk k
      refine AW.reg tiOk (fun _ => []) [0, 1, 5] ?_
      intro k hk; simp -dsimp [go_sem, -decide_eq_true_eq, -decide_eq_false_iff_not, hp, hp2, hp3, hlt, hwk0, hwk1, hwk2, hwk3, hwv0, hwv1, hwv2, hwv3, hwv4]
      repeat' (first | refine And.intro ?_ ?_ | refine hk _ ?_ | intro hg | omega | exact True.intro)
      all_goals clear hk k
      refine AW.reg tiOk (fun _ => []) [0, 1, 5] ?_
      intro k hk; simp -dsimp [go_sem, -decide_eq_true_eq, -decide_eq_false_iff_not, hp, hp2, hp3, hlt, hwk0, hwk1, hwk2, hwk3, hwv0, hwv1, hwv2, hwv3, hwv4]
      repeat' (first | refine And.intro ?_ ?_ | refine hk _ ?_ | intro hg | omega | exact True.intro)
      all_goals clear hk k
      refine AW.reg tiOk (fun _ => []) [0, 1, 5] ?_
      intro k hk; simp -dsimp [go_sem, -decide_eq_true_eq, -decide_eq_false_iff_not, hp, hp2, hp3, hlt, hwk0, hwk1, hwk2, hwk3, hwv0, hwv1, hwv2, hwv3, hwv4]
      repeat' (first | refine And.intro ?_ ?_ | refine hk _ ?_ | intro hg | omega | exact True.intro)
      all_goals clear hk k
      refine AW.regN tiOk (fun _ => []) [0, 1, 5] (fun _ h => h) ?_
      intro k hk; simp -dsimp [go_sem, -decide_eq_true_eq, -decide_eq_false_iff_not, hp, hp2, hp3, hlt, hwk0, hwk1, hwk2, hwk3, hwv0, hwv1, hwv2, hwv3, hwv4]
      repeat' (first | refine And.intro ?_ ?_ | refine hk _ ?_ | intro hg | omega | exact True.intro)
      all_goals clear hk k
      refine AW.regK tiOk (fun _ => []) ?_
      intro k hk; simp -dsimp [go_sem, -decide_eq_true_eq, -decide_eq_false_iff_not, hp, hp2, hp3, hlt, hwk0, hwk1, hwk2, hwk3, hwv0, hwv1, hwv2, hwv3, hwv4]
      repeat' (first | refine And.intro ?_ ?_ | refine hk _ ?_ | intro hg | omega | exact True.intro)
      all_goals clear hk k
      show ∃ _, _
      have hw := wrapi hlt (by omega)
      have hs := mkP_set (f := fN k) (l := l.map TNode.ro) (k := 0) (i := i) (by simpa using hlt)
      rw [fN_eq] at hs
      refine ⟨i + 1, by omega, by omega, Less.of rfl (by simp [go_sem, hw]; omega) (by simp [go_sem, ← hs])⟩)
  · intro hc; try simp at hc
    all_goals (
      refine AW.exitN (fun _ h => h) ?_
      refine AW.reg tiOk (fun _ => []) [4] ?_
      intro k hk; simp -dsimp [go_sem, -decide_eq_true_eq, -decide_eq_false_iff_not]
      repeat' (first | refine And.intro ?_ ?_ | refine hk _ ?_ | intro hg | omega | exact True.intro)
      all_goals clear hk k
      refine AW.retF (ow := []) (muts := []) ?_ (fun h => And.intro (.inr rfl) h)
      obtain rfl : i = l.length := (by omega)
      simp [go_sem, Try.results54])

end Go.AM

/-! ### Pp -/
namespace Go.AM
theorem not_ids_set {l : List (List AV)} {i : Nat} {c : List AV} {n : Nat} (h : l.flatMap idsL = []) (hc : ¬ n ∈ idsL c) : (∀ x, x ∈ l.set i c → ¬ n ∈ idsL x) ↔ True := by
  have h' : ∀ x ∈ l, idsL x = [] := List.flatMap_eq_nil_iff.1 h
  refine ⟨fun _ => True.intro, fun _ x hx => ?_⟩
  cases List.mem_or_eq_of_mem_set hx with
  | inl hx => rw [h' x hx]; simp
  | inr e => rw [e]; exact hc
end Go.AM

/-! ### O4 -/
set_option linter.unusedVariables false
set_option linter.unusedSimpArgs false
namespace Go.AM
open Go.Proofs

set_option maxHeartbeats 4000000 in
set_option linter.unusedSimpArgs false in
set_option maxRecDepth 100000 in
/-- laws.markStepS -/
theorem dc_laws_markStepS (l : List TStep) (k : Int) (hk : 0 ≤ k ∧ k + (mkS l : Int) ≤ 4611686018427387904) : DC Try.prog 18 [.osl 6 (l.map TStep.oc), .int .i64 k] (.int .i64 (k + (mkS l : Int))) [] := by
  have hlk := mkS_len l
  refine DC.intro tiOk Try.func18 rfl rfl rfl rfl rfl rfl rfl rfl [] ?_
  refine AW.reg tiOk (fun _ => []) [0, 1] ?_
  intro k hk; simp -dsimp [go_sem, -decide_eq_true_eq, -decide_eq_false_iff_not]
  repeat' (first | refine And.intro ?_ ?_ | refine hk _ ?_ | intro hg | omega | exact True.intro)
  all_goals clear hk k
  refine AW.seq ?_
  refine AW.reg tiOk (fun _ => []) [0, 1, 5] ?_
  intro k hk; simp -dsimp [go_sem, -decide_eq_true_eq, -decide_eq_false_iff_not]
  repeat' (first | refine And.intro ?_ ?_ | refine hk _ ?_ | intro hg | omega | exact True.intro)
  all_goals clear hk k
  refine AW.block ?_
  -- live at the loop's head: [0, 1, 5]
  refine AW.loopI (fun i : Nat => ⟨56, [(0, .sl 1900 6 0 l.length), (1, .int .i64 (k + (mkS (l.take i) : Int))), (5, .int .i64 i)], [(1900, some ⟨6, mkP U6 (l.map TStep.oc) 0 i⟩)]⟩) (fun i => i ≤ l.length) (fun i => l.length - i) (0) (by simp) (Less.of rfl (by simp [go_sem, mkS]) (by simp [go_sem, mkP_zero])) ?_
  rintro i hi
  refine AW.seq ?_
  refine AW.reg tiOk (fun _ => []) [0, 1, 5, 9] ?_
  intro k hk; simp -dsimp [go_sem, -decide_eq_true_eq, -decide_eq_false_iff_not]
  repeat' (first | refine And.intro ?_ ?_ | refine hk _ ?_ | intro hg | omega | exact True.intro)
  all_goals clear hk k
  refine AW.cond rfl ?_ ?_
  · intro hc; try simp at hc
    all_goals (
      have hlt : i < l.length := by assumption
      obtain ⟨x, hx⟩ := at_some hlt
      have hp : (mkP U6 (l.map TStep.oc) 0 i).length = l.length := by rw [mkP_len (by simpa using hi)]; simp
      have hp2 : (mkP U6 (l.map TStep.oc) 0 i)[i]? = some x.oc := mkP_at (by simp [hx])
      have hp3 : ∀ h, (mkP U6 (l.map TStep.oc) 0 i)[i]'h = x.oc := fun h => by have h9 := hp2; rw [List.getElem?_eq_getElem h] at h9; exact Option.some.inj h9
      have idm : (mkP U6 (l.map TStep.oc) 0 i).flatMap idsL = [] := mkP_ids (by intro x; simp [U6_eq, go_sem]) (by simp [go_sem])
      have hmt := mkS_take hx
      have hml := mkS_le l i
      have hml2 := mkS_le l (i + 1)
      unfold TStep.mn at hmt
      have hwk0 : IntKind.wrap .i64 ((k + (mkS (l.take i) : Int)) + 1) = (k + (mkS (l.take i) : Int)) + 1 := (wrap64 (by omega) (by omega)).trans (by omega)
      have hwk1 : IntKind.wrap .i64 ((k + (mkS (l.take i) : Int)) + 1 + 1) = (k + (mkS (l.take i) : Int)) + 2 := (wrap64 (by omega) (by omega)).trans (by omega)
      have hwk2 : IntKind.wrap .i64 ((k + (mkS (l.take i) : Int)) + 2 + 1) = (k + (mkS (l.take i) : Int)) + 3 := (wrap64 (by omega) (by omega)).trans (by omega)
      have hwk3 : IntKind.wrap .i64 ((k + (mkS (l.take i) : Int)) + 3 + 1) = (k + (mkS (l.take i) : Int)) + 4 := (wrap64 (by omega) (by omega)).trans (by omega)
      have hwv0 : IntKind.wrap .i64 ((k + (mkS (l.take i) : Int))) = (k + (mkS (l.take i) : Int)) := wrap64 (by omega) (by omega)
      have hwv1 : IntKind.wrap .i64 ((k + (mkS (l.take i) : Int)) + 1) = (k + (mkS (l.take i) : Int)) + 1 := wrap64 (by omega) (by omega)
      have hwv2 : IntKind.wrap .i64 ((k + (mkS (l.take i) : Int)) + 2) = (k + (mkS (l.take i) : Int)) + 2 := wrap64 (by omega) (by omega)
      have hwv3 : IntKind.wrap .i64 ((k + (mkS (l.take i) : Int)) + 3) = (k + (mkS (l.take i) : Int)) + 3 := wrap64 (by omega) (by omega)
      refine AW.skipN (fun _ h => h) ?_
      refine AW.seq ?_
      refine AW.block ?_
      rcases owc_cases 4 (x.cond.map TNode.ro) with ⟨hoc, hcn⟩ | ⟨hoc, hcn⟩ <;> rcases owc_cases 4 (x.expr.map TNode.ro) with ⟨hoe, hen⟩ | ⟨hoe, hen⟩
      all_goals (
        refine AW.reg tiOk (fun _ => []) [0, 1, 5] ?_
        intro k hk; simp -dsimp [go_sem, -decide_eq_true_eq, -decide_eq_false_iff_not, hp, hp2, hp3, hlt, idm, hwk0, hwk1, hwk2, hwk3, hwv0, hwv1, hwv2, hwv3, hoc, hoe]
        repeat' (first | refine And.intro ?_ ?_ | refine hk _ ?_ | intro hg | omega | exact True.intro)
        all_goals clear hk k
        refine AW.reg tiOk (fun _ => []) [0, 1, 5] ?_
        intro k hk; simp -dsimp [go_sem, -decide_eq_true_eq, -decide_eq_false_iff_not, hp, hp2, hp3, hlt, idm, hwk0, hwk1, hwk2, hwk3, hwv0, hwv1, hwv2, hwv3, hoc, hoe]
        repeat' (first | refine And.intro ?_ ?_ | refine hk _ ?_ | intro hg | omega | exact True.intro)
        all_goals clear hk k
        refine AW.reg tiOk (fun _ => []) [0, 1, 5] ?_
        intro k hk; simp -dsimp [go_sem, -decide_eq_true_eq, -decide_eq_false_iff_not, hp, hp2, hp3, hlt, idm, hwk0, hwk1, hwk2, hwk3, hwv0, hwv1, hwv2, hwv3, hoc, hoe]
        repeat' (first | refine And.intro ?_ ?_ | refine hk _ ?_ | intro hg | omega | exact True.intro)
        all_goals clear hk k
        refine AW.reg tiOk (fun _ => []) [0, 1, 5] ?_
        intro k hk; simp -dsimp [go_sem, -decide_eq_true_eq, -decide_eq_false_iff_not, hp, hp2, hp3, hlt, idm, hwk0, hwk1, hwk2, hwk3, hwv0, hwv1, hwv2, hwv3, hoc, hoe]
        repeat' (first | refine And.intro ?_ ?_ | refine hk _ ?_ | intro hg | omega | exact True.intro)
        all_goals clear hk k
        refine AW.reg tiOk (fun _ => []) [0, 1, 5] ?_
        intro k hk; simp -dsimp (maxSteps := 2000000) [go_sem, -decide_eq_true_eq, -decide_eq_false_iff_not, hp, hp2, hp3, hlt, idm, hwk0, hwk1, hwk2, hwk3, hwv0, hwv1, hwv2, hwv3, hoc, hoe]
        repeat' (first | refine And.intro ?_ ?_ | refine hk _ ?_ | intro hg | (refine CallK.intro (dc_laws_markText _ (by omega)) ?_; simp -dsimp (maxSteps := 2000000) [go_sem, -decide_eq_true_eq, -decide_eq_false_iff_not, hp, hp2, hp3, hlt, idm, hwk0, hwk1, hwk2, hwk3, hwv0, hwv1, hwv2, hwv3, hoc, hoe]) | omega | exact True.intro)
        all_goals clear hk k
        refine AW.reg tiOk (fun _ => []) [0, 1, 5] ?_
        intro k hk; simp -dsimp [go_sem, -decide_eq_true_eq, -decide_eq_false_iff_not, hp, hp2, hp3, hlt, idm, hwk0, hwk1, hwk2, hwk3, hwv0, hwv1, hwv2, hwv3, hoc, hoe]
        repeat' (first | refine And.intro ?_ ?_ | refine hk _ ?_ | intro hg | omega | exact True.intro)
        all_goals clear hk k
        refine AW.reg tiOk (fun _ => []) [0, 1, 5] ?_
        intro k hk; simp -dsimp [go_sem, -decide_eq_true_eq, -decide_eq_false_iff_not, hp, hp2, hp3, hlt, idm, hwk0, hwk1, hwk2, hwk3, hwv0, hwv1, hwv2, hwv3, hoc, hoe]
        repeat' (first | refine And.intro ?_ ?_ | refine hk _ ?_ | intro hg | omega | exact True.intro)
        all_goals clear hk k
        refine AW.reg tiOk (fun _ => []) [0, 1, 5] ?_
        intro k hk; simp -dsimp [go_sem, -decide_eq_true_eq, -decide_eq_false_iff_not, hp, hp2, hp3, hlt, idm, hwk0, hwk1, hwk2, hwk3, hwv0, hwv1, hwv2, hwv3, hoc, hoe]
        repeat' (first | refine And.intro ?_ ?_ | refine hk _ ?_ | intro hg | omega | exact True.intro)
        all_goals clear hk k
        try refine AW.thaw 1900 i 4 7004 rfl (node_here (by (repeat rw [List.length_set]); omega)) rfl (by simp [go_sem, idm, not_ids_set]) ?_
        refine AW.reg tiOk (fun i => if i = 6 then [0] else []) [0, 1, 5] ?_
        intro k hk; simp -dsimp (maxSteps := 2000000) [go_sem, -decide_eq_true_eq, -decide_eq_false_iff_not, hp, hp2, hp3, hlt, idm, hwk0, hwk1, hwk2, hwk3, hwv0, hwv1, hwv2, hwv3, hoc, hoe]
        repeat' (first | refine And.intro ?_ ?_ | refine hk _ ?_ | intro hg | (refine CallK.intro (dc_laws_markNodeS x.cond _ (by constructor <;> omega)) ?_; simp -dsimp (maxSteps := 2000000) [go_sem, -decide_eq_true_eq, -decide_eq_false_iff_not, hp, hp2, hp3, hlt, idm, hwk0, hwk1, hwk2, hwk3, hwv0, hwv1, hwv2, hwv3, hoc, hoe]) | (refine CallK.intro (dc_laws_markNodeS x.expr _ (by constructor <;> omega)) ?_; simp -dsimp (maxSteps := 2000000) [go_sem, -decide_eq_true_eq, -decide_eq_false_iff_not, hp, hp2, hp3, hlt, idm, hwk0, hwk1, hwk2, hwk3, hwv0, hwv1, hwv2, hwv3, hoc, hoe]) | (refine CallK.intro (dc_laws_markNodeS_nil _) ?_; simp -dsimp (maxSteps := 2000000) [go_sem, -decide_eq_true_eq, -decide_eq_false_iff_not, hp, hp2, hp3, hlt, idm, hwk0, hwk1, hwk2, hwk3, hwv0, hwv1, hwv2, hwv3, hoc, hoe]) | omega | exact True.intro)
        all_goals clear hk k
        refine AW.cellUndef 1900 i 4 rfl (node_here (by (repeat rw [List.length_set]); omega)) ?_
        try refine AW.thaw 1900 i 5 7005 rfl (node_here (by (repeat rw [List.length_set]); omega)) rfl (by simp [go_sem, idm, not_ids_set]) ?_
        refine AW.regN tiOk (fun i => if i = 6 then [0] else []) [0, 1, 5] (fun _ h => h) ?_
        intro k hk; simp -dsimp (maxSteps := 2000000) [go_sem, -decide_eq_true_eq, -decide_eq_false_iff_not, hp, hp2, hp3, hlt, idm, hwk0, hwk1, hwk2, hwk3, hwv0, hwv1, hwv2, hwv3, hoc, hoe]
        repeat' (first | refine And.intro ?_ ?_ | refine hk _ ?_ | intro hg | (refine CallK.intro (dc_laws_markNodeS x.cond _ (by constructor <;> omega)) ?_; simp -dsimp (maxSteps := 2000000) [go_sem, -decide_eq_true_eq, -decide_eq_false_iff_not, hp, hp2, hp3, hlt, idm, hwk0, hwk1, hwk2, hwk3, hwv0, hwv1, hwv2, hwv3, hoc, hoe]) | (refine CallK.intro (dc_laws_markNodeS x.expr _ (by constructor <;> omega)) ?_; simp -dsimp (maxSteps := 2000000) [go_sem, -decide_eq_true_eq, -decide_eq_false_iff_not, hp, hp2, hp3, hlt, idm, hwk0, hwk1, hwk2, hwk3, hwv0, hwv1, hwv2, hwv3, hoc, hoe]) | (refine CallK.intro (dc_laws_markNodeS_nil _) ?_; simp -dsimp (maxSteps := 2000000) [go_sem, -decide_eq_true_eq, -decide_eq_false_iff_not, hp, hp2, hp3, hlt, idm, hwk0, hwk1, hwk2, hwk3, hwv0, hwv1, hwv2, hwv3, hoc, hoe]) | omega | exact True.intro)
        all_goals clear hk k
        refine AW.rowUndef 1900 i rfl (node_here (by (repeat rw [List.length_set]); omega)) ?_
        refine AW.regK tiOk (fun _ => []) ?_
        intro k hk; simp -dsimp [go_sem, -decide_eq_true_eq, -decide_eq_false_iff_not, hp, hp2, hp3, hlt, idm, hwk0, hwk1, hwk2, hwk3, hwv0, hwv1, hwv2, hwv3, hoc, hoe]
        repeat' (first | refine And.intro ?_ ?_ | refine hk _ ?_ | intro hg | omega | exact True.intro)
        all_goals clear hk k
        show ∃ _, _
        have hw := wrapi hlt (by omega)
        have hs := mkP_set (f := U6) (l := l.map TStep.oc) (k := 0) (i := i) (by simpa using hlt)
        rw [U6_eq] at hs
        have hcl : x.cond = [] ∨ x.cond ≠ [] := Classical.em _
        refine ⟨i + 1, by omega, by omega, Less.of rfl (by simp [go_sem, hw, hmt] <;> first | omega | (simp_all; omega)) (by simp [go_sem, ← hs])⟩))
  · intro hc; try simp at hc
    all_goals (
      refine AW.exitN (fun _ h => h) ?_
      refine AW.reg tiOk (fun _ => []) [4] ?_
      intro k hk; simp -dsimp [go_sem, -decide_eq_true_eq, -decide_eq_false_iff_not]
      repeat' (first | refine And.intro ?_ ?_ | refine hk _ ?_ | intro hg | omega | exact True.intro)
      all_goals clear hk k
      refine AW.retF (ow := []) (muts := []) ?_ (fun h => And.intro (.inr rfl) h)
      rw [mkS_end (by omega)]; simp [go_sem, Try.results18])

end Go.AM

/-! ### Pj -/
set_option linter.unusedVariables false
set_option linter.unusedSimpArgs false
namespace Go.AM

attribute [go_sem] renS AV.ren renL
@[go_sem ↓ high] theorem tree_app (a b : List (List AV)) : (∀ c ∈ a ++ b, ∀ x ∈ c, AV.tree x = true) ↔ (∀ c ∈ a, ∀ x ∈ c, AV.tree x = true) ∧ (∀ c ∈ b, ∀ x ∈ c, AV.tree x = true) := List.forall_mem_append
attribute [go_sem ↓ high] I1_treeL B1_treeL S1_treeL
theorem tree_sub {α : Type} {f : α → List AV} {l : List α} (h : (∀ c ∈ l.map f, ∀ x ∈ c, AV.tree x = true) ↔ True) {m : List (List AV)} (hm : ∀ c ∈ m, c ∈ l.map f) : (∀ c ∈ m, ∀ x ∈ c, AV.tree x = true) ↔ True :=
  ⟨fun _ => trivial, fun _ c hc => h.2 trivial c (hm c hc)⟩
@[go_sem ↓ high] theorem B1_treeT (l : List UInt8) (n : Nat) : (∀ c ∈ List.take n (l.map B1), ∀ x ∈ c, AV.tree x = true) ↔ True := tree_sub (B1_treeL l) fun _ => List.mem_of_mem_take
@[go_sem ↓ high] theorem I1_treeT (l : List Int) (n : Nat) : (∀ c ∈ List.take n (l.map I1), ∀ x ∈ c, AV.tree x = true) ↔ True := tree_sub (I1_treeL l) fun _ => List.mem_of_mem_take
@[go_sem ↓ high] theorem S1_treeT (l : List (List UInt8)) (n : Nat) : (∀ c ∈ List.take n (l.map S1), ∀ x ∈ c, AV.tree x = true) ↔ True := tree_sub (S1_treeL l) fun _ => List.mem_of_mem_take
@[go_sem high] theorem B1_comp : (fun x => List.map unown x) ∘ B1 = B1 := rfl
@[go_sem high] theorem I1_comp : (fun x => List.map unown x) ∘ I1 = I1 := rfl
@[go_sem high] theorem S1_comp : (fun x => List.map unown x) ∘ S1 = S1 := rfl
attribute [go_sem] mkL_len
@[go_sem] theorem take_dropl {α β : Type} (f : α → β) (l : List α) (k : Nat) : List.take (l.length - k) (List.drop k (l.map f)) = List.drop k (l.map f) := List.take_of_length_le (by simp)
@[go_sem] theorem take_mkL {α : Type} (g : α → List AV) (f : Int → α) (n : Nat) (k : Int) : List.take n ((mkL f n k).map g) = (mkL f n k).map g := List.take_of_length_le (by simp [mkL])
@[go_sem ↓ high] theorem decB_td (s : List UInt8) (a b : Nat) : decB (List.take a (List.drop b (s.map B1))) = some (List.take a (List.drop b s)) := by rw [← List.map_drop, ← List.map_take]; exact decB_B1 _
@[go_sem ↓ high] theorem decB_dt (s : List UInt8) (a b : Nat) : decB (List.drop a (List.take b (s.map B1))) = some (List.drop a (List.take b s)) := by rw [← List.map_take, ← List.map_drop]; exact decB_B1 _
@[go_sem ↓ high] theorem decB_t (s : List UInt8) (a : Nat) : decB (List.take a (s.map B1)) = some (List.take a s) := by rw [← List.map_take]; exact decB_B1 _
@[go_sem ↓ high] theorem decB_d (s : List UInt8) (a : Nat) : decB (List.drop a (s.map B1)) = some (List.drop a s) := by rw [← List.map_drop]; exact decB_B1 _
@[go_sem] theorem wrap_i64_byte (b : UInt8) : IntKind.wrap .i64 (b.toNat : Int) = (b.toNat : Int) := by have := b.toNat_lt; exact wrap64 (by omega) (by omega)

/-! chapter 13: a line, packed -/
def sumB (l : List UInt8) (s : Int) : Int := l.foldl (fun s b => (s * 251 + b.toNat) % 65521) s
theorem sumB_bd : ∀ (l : List UInt8) (s : Int), 0 ≤ s ∧ s < 65521 → 0 ≤ sumB l s ∧ sumB l s < 65521 := by
  intro l
  induction l with
  | nil => intro s h; exact h
  | cons x l ih => intro s h; exact ih ((s * 251 + (x.toNat : Int)) % 65521) (by omega)
theorem sumB_step {l : List UInt8} {i : Nat} {x : UInt8} {s : Int} (h : l[i]? = some x) : sumB (l.take (i + 1)) s = (sumB (l.take i) s * 251 + x.toNat) % 65521 := by
  rw [List.take_add_one, h]; simp [sumB, List.foldl_append]
def pkH (s : List UInt8) : List UInt8 := b8 s.length :: s
def pk (s : List UInt8) : List UInt8 := pkH s ++ [b8 (sumB (pkH s) 1 / 256), b8 (sumB (pkH s) 1)]
theorem pkH_len (s : List UInt8) : (pkH s).length = s.length + 1 := rfl
theorem pk_len (s : List UInt8) : (pk s).length = s.length + 3 := by simp [pk, pkH]
theorem pk_cons (s : List UInt8) : ∃ x r, pk s = x :: r := ⟨_, _, rfl⟩
theorem b8_mod (n : Int) : b8 (n % 256) = b8 n := by unfold b8; rw [Int.emod_emod_of_dvd n (Int.dvd_refl 256)]
def packR (s : List UInt8) : TBytesResult := if lineF s = 0 then ⟨0, pk s⟩ else ⟨lineF s, []⟩
def hasP (d p : List UInt8) : Bool := decide (p.length ≤ d.length) && decide (d.take p.length = p)

/-! chapter 13: the line at a beginning -/
def n0 (d : List UInt8) : Nat := (d.headD 0).toNat
def lnT (d : List UInt8) : List UInt8 := (d.take (n0 d + 1)).drop 1
def isL (d : List UInt8) : Bool := decide (n0 d + 3 ≤ d.length) && decide (lineF (lnT d) = 0) && decide (d.take (n0 d + 3) = pk (lnT d))
theorem n0_cons (x : UInt8) (r : List UInt8) : n0 (x :: r) = x.toNat := rfl
theorem n0_lt (d : List UInt8) : n0 d < 256 := (d.headD 0).toNat_lt
theorem lnT_cons (x : UInt8) (r : List UInt8) : lnT (x :: r) = r.take x.toNat := by simp [lnT, n0]
theorem lnT_le (d : List UInt8) : (lnT d).length ≤ 255 := by have := n0_lt d; simp [lnT]; omega
theorem lnT_len {d : List UInt8} (h : n0 d + 3 ≤ d.length) : (lnT d).length = n0 d := by simp [lnT]; omega
theorem isL_nil : isL [] = false := by simp [isL, n0]
theorem isL_cons (x : UInt8) (r : List UInt8) : isL (x :: r) = (decide (x.toNat + 2 ≤ r.length) && decide (lineF (r.take x.toNat) = 0) && decide (x :: r.take (x.toNat + 2) = pk (r.take x.toNat))) := by
  simp [isL, n0, lnT]
theorem isL_bd {d : List UInt8} (h : isL d = true) : n0 d + 3 ≤ d.length ∧ lineF (lnT d) = 0 ∧ 1 ≤ n0 d := by
  simp only [isL, Bool.and_eq_true, decide_eq_true_eq] at h
  obtain ⟨⟨h1, h2⟩, _⟩ := h
  refine ⟨h1, h2, ?_⟩
  have h3 := lnT_len h1
  rcases Nat.eq_zero_or_pos (n0 d) with h0 | h0
  · rw [lineF_bad (by omega)] at h2; cases h2
  · exact h0

def rdL : Nat → List UInt8 → List (List UInt8) × Nat
  | 0, _ => ([], 0)
  | f + 1, d => if isL d = true then (lnT d :: (rdL f (d.drop (n0 d + 3))).1, n0 d + 3 + (rdL f (d.drop (n0 d + 3))).2) else ([], 0)
def rd (d : List UInt8) : List (List UInt8) × Nat := rdL d.length d
theorem rdL_more : ∀ (n m : Nat) (d : List UInt8), d.length ≤ n → d.length ≤ m → rdL n d = rdL m d := by
  intro n
  induction n with
  | zero =>
    intro m d h _
    have : d = [] := List.eq_nil_of_length_eq_zero (by omega)
    subst this
    cases m with
    | zero => rfl
    | succ m => simp [rdL, isL_nil]
  | succ n ih =>
    intro m d h h2
    cases m with
    | zero =>
      have : d = [] := List.eq_nil_of_length_eq_zero (by omega)
      subst this
      simp [rdL, isL_nil]
    | succ m =>
      simp only [rdL]
      split
      · rename_i hl
        have := isL_bd hl
        rw [ih m (d.drop (n0 d + 3)) (by simp; omega) (by simp; omega)]
      · rfl
theorem rd_yes {d : List UInt8} (h : isL d = true) : rd d = (lnT d :: (rd (d.drop (n0 d + 3))).1, n0 d + 3 + (rd (d.drop (n0 d + 3))).2) := by
  have hb := isL_bd h
  obtain ⟨m, hm⟩ : ∃ m, d.length = m + 1 := ⟨d.length - 1, by omega⟩
  unfold rd
  rw [hm]
  simp only [rdL]
  rw [if_pos h, rdL_more m (d.drop (n0 d + 3)).length (d.drop (n0 d + 3)) (by simp; omega) (Nat.le_refl _)]
theorem rd_no {d : List UInt8} (h : isL d = false) : rd d = ([], 0) := by
  unfold rd
  cases d.length with
  | zero => rfl
  | succ m => simp [rdL, h]
theorem rd_bd : ∀ (n : Nat) (d : List UInt8), d.length ≤ n → (rd d).2 ≤ d.length ∧ 4 * (rd d).1.length ≤ (rd d).2 := by
  intro n
  induction n with
  | zero =>
    intro d h
    have : d = [] := List.eq_nil_of_length_eq_zero (by omega)
    subst this
    rw [rd_no isL_nil]; simp
  | succ n ih =>
    intro d h
    by_cases hl : isL d = true
    · have hb := isL_bd hl
      have := ih (d.drop (n0 d + 3)) (by simp; omega)
      rw [rd_yes hl]
      simp at this ⊢
      omega
    · rw [rd_no (by simpa using hl)]; simp
theorem rd_le (d : List UInt8) : (rd d).2 ≤ d.length := (rd_bd _ d (Nat.le_refl _)).1
theorem rd_lines (d : List UInt8) : 4 * (rd d).1.length ≤ d.length := by have := rd_bd _ d (Nat.le_refl _); omega

def whole (d : List UInt8) : Bool := decide ((rd d).2 = d.length)
def jouF (j : TJournal) : Int := if 2400 < j.sure.length + j.loose.length then 2 else if whole j.sure && whole j.loose then 0 else 5

@[go_sem] theorem mapM_B1 (s : List UInt8) : List.mapM byteOfCell (s.map B1) = some s := decB_B1 s
@[go_sem] theorem mapM_B1_t (s : List UInt8) (a : Nat) : List.mapM byteOfCell (List.take a (s.map B1)) = some (List.take a s) := decB_t s a
@[go_sem] theorem mapM_B1_d (s : List UInt8) (a : Nat) : List.mapM byteOfCell (List.drop a (s.map B1)) = some (List.drop a s) := decB_d s a
@[go_sem high] theorem mapM_comp (s : List UInt8) : List.mapM (byteOfCell ∘ B1) s = some s := by rw [← List.mapM_map]; exact decB_B1 s
theorem isL_iff {x : UInt8} {r : List UInt8} : isL (x :: r) = true ↔ x.toNat + 2 ≤ r.length ∧ lineF (r.take x.toNat) = 0 ∧ pk (r.take x.toNat) = x :: r.take (x.toNat + 2) := by
  rw [isL_cons]; simp only [Bool.and_eq_true, decide_eq_true_eq, and_assoc]
  constructor
  · rintro ⟨h1, h2, h3⟩; exact ⟨h1, h2, h3.symm⟩
  · rintro ⟨h1, h2, h3⟩; exact ⟨h1, h2, h3.symm⟩
theorem isL_not {x : UInt8} {r : List UInt8} (h : x.toNat + 2 ≤ r.length → lineF (r.take x.toNat) = 0 → pk (r.take x.toNat) = x :: r.take (x.toNat + 2) → 1 ≤ x.toNat → False) : isL (x :: r) = false := by
  rw [← Bool.not_eq_true]
  intro hL
  have hb := isL_bd hL
  obtain ⟨h1, h2, h3⟩ := isL_iff.1 hL
  exact h h1 h2 h3 hb.2.2
def lnA (d : List UInt8) : List UInt8 := if n0 d + 3 ≤ d.length then lnT d else []
theorem lnA_cons (x : UInt8) (r : List UInt8) : lnA (x :: r) = if x.toNat + 2 ≤ r.length then r.take x.toNat else [] := by
  unfold lnA; rw [lnT_cons, n0_cons]; simp
theorem lnA_yes {d : List UInt8} (h : isL d = true) : lnA d = lnT d := by unfold lnA; rw [if_pos (isL_bd h).1]
theorem hasP_pk {x : UInt8} {r : List UInt8} (h : x.toNat + 2 ≤ r.length) : hasP (x :: r) (pk (r.take x.toNat)) = decide (x :: r.take (x.toNat + 2) = pk (r.take x.toNat)) := by
  unfold hasP
  have e : (pk (r.take x.toNat)).length = x.toNat + 3 := by rw [pk_len]; simp; omega
  rw [e, Bool.eq_iff_iff]
  simp [h]
  exact decide_eq_true_iff
theorem whole_eq (d : List UInt8) : whole d = decide (d.length - (rd d).2 = 0) := by
  have := rd_le d
  unfold whole
  rw [Bool.eq_iff_iff]; simp; omega
/-- is there a line behind the first byte? -/
def brk (e : List UInt8) (i : Nat) : Bool := (List.range i).any fun k => decide (1 ≤ k) && isL (e.drop k)
theorem brk_step {e : List UInt8} {i : Nat} (h : 1 ≤ i) : brk e (i + 1) = (brk e i || isL (e.drop i)) := by
  unfold brk; rw [List.range_succ, List.any_append]; simp [h]
theorem brk_one (e : List UInt8) : brk e 1 = false := by simp [brk]
theorem brk_zero (e : List UInt8) : brk e 0 = false := by simp [brk]
theorem brk_mono {e : List UInt8} {i j : Nat} (h : i ≤ j) (hb : brk e i = true) : brk e j = true := by
  unfold brk at *
  simp only [List.any_eq_true, List.mem_range] at *
  obtain ⟨k, h1, h2⟩ := hb
  exact ⟨k, by omega, h2⟩
theorem brk_end {e : List UInt8} {i n : Nat} (h1 : 1 ≤ i) (h2 : n ≤ i) (h3 : i = 1 ∨ i ≤ n) : brk e i = brk e n := by
  rcases h3 with rfl | h3
  · rw [brk_one]
    rcases Nat.eq_zero_or_pos n with h | h
    · subst h; rw [brk_zero]
    · obtain rfl : n = 1 := by omega
      rw [brk_one]
  · rw [show i = n by omega]
def linesR (d : List UInt8) : TLinesResult := if 2400 < d.length then ⟨2, false, []⟩ else ⟨0, brk (d.drop (rd d).2) (d.drop (rd d).2).length, (rd d).1⟩
end Go.AM

