/- The abstract machine, part 7: steps: what only computes; what makes a new object. -/
import Derived.Test.YtefkpiameojpoaaAm6
import Derived.Deep.AppendSrc
import Derived.Laws.MakeOwn
set_option linter.unusedVariables false
set_option linter.unusedSimpArgs false
namespace Go.AM

def wrD (dst : Option Nat) (x : AV) : List (Nat × AV) :=
  match dst with
  | some d => [(d, x)]
  | none => []

theorem look_wrD_none {dst : Option Nat} {x : AV} {s : Nat} (h : look s (wrD dst x) = none) : dst ≠ some s := by
  intro e; subst e; simp [wrD, look] at h

theorem look_wrD_some {dst : Option Nat} {x y : AV} {s : Nat} (h : look s (wrD dst x) = some y) : dst = some s ∧ y = x := by
  cases dst with
  | none => simp [wrD, look] at h
  | some d =>
    simp only [wrD, look] at h
    split at h
    · rename_i e; subst e; cases h; exact ⟨rfl, rfl⟩
    · cases h

theorem put_size (a : Act) (dst : Option Nat) (v : Value) : (a.put dst v).tmps.size = a.tmps.size := by
  cases dst <;> simp [Act.put]
theorem put_defers (a : Act) (dst : Option Nat) (v : Value) : (a.put dst v).defers = a.defers := by
  cases dst <;> rfl
theorem put_other (a : Act) {dst : Option Nat} (v : Value) {s : Nat} (h : dst ≠ some s) : (a.put dst v).tmps.getD s undef = a.tmps.getD s undef := by
  cases dst with
  | none => rfl
  | some d =>
    have hd : d ≠ s := fun e => h (by rw [e])
    simp [Act.put, Array.getD_eq_getD_getElem?, Array.getElem?_setIfInBounds, hd]
theorem put_same (a : Act) {s : Nat} (v : Value) (h : s < a.tmps.size) : (a.put (some s) v).tmps.getD s undef = v := by
  simp [Act.put, Array.getD_eq_getD_getElem?, Array.getElem?_setIfInBounds, h]

section
variable {w0 : World} {lab0 : Labs} {st : St} {a : Act} {w w' : World} {lab : Labs} {loc : Locs}

/-- what only computes; the world may have drawn -/
theorem step_pure (h : RepL w0 lab0 st a w lab loc) (e : Eff) {dst : Option Nat} {x : AV} {v : Value} (hwr : e.wr = wrD dst x) (hup : e.up = [])
    (hd : ∀ d, dst = some d → d < st.n) (hv : V w lab loc x v) (hw : w'.heap = w.heap) (ho : w'.os = w.os) (hout : w'.output = w.output) :
    RepL w0 lab0 (e.apply st) (a.put dst v) w' lab loc := by
  refine h.step e (put_size _ _ _) (by rw [put_defers]; exact h.defers) ⟨by rw [hw]; exact Nat.le_refl _, ho, hout, fun b _ _ => ⟨rfl, by rw [hw]⟩, fun b n hn => hn.same (by rw [hw])⟩ ?_ ?_ ?_ ?_ ?_ ?_ ?_
  · intro s hs
    rw [hwr] at hs
    exact put_other a v (look_wrD_none hs)
  · intro s y hs
    rw [hwr] at hs
    obtain ⟨rfl, rfl⟩ := look_wrD_some hs
    rw [put_same a v (by rw [h.size]; exact hd s rfl)]
    exact hv.mono (fun b _ hb => ⟨hb, by rw [hw]⟩) (by rw [hw]; exact Nat.le_refl _) fun id _ b base hl => ⟨hl, fun n hn => hn.same (by rw [hw])⟩
  · intro id nd b base _ _ hl
    exact ⟨hl, fun b' q _ _ => ⟨rfl, by rw [hw]⟩⟩
  · intro id nd hl; rw [hup] at hl; cases hl
  · intro id hl
    rw [hup] at hl
    rcases hl with hl | ⟨_, hl⟩
    · cases hl
    · exact h.dead id hl
  · intro b hb; rw [hw]; exact h.fresh b hb
  · intro id _ b base hl; exact hl

def labN (lab : Labs) (b id : Nat) : Labs := fun b' => if b' = b then some (.obj id, []) else lab b'
def locN (loc : Locs) (b base id : Nat) : Locs := fun i => if i = id then some (b, base) else loc i

/-- a new object in a new block -/
theorem step_new (h : RepL w0 lab0 st a w lab loc) (e : Eff) {dst : Option Nat} {x : AV} {v : Value} {c : Array Value} {ty : TypeId} {fz : Nat × Nat} {id : Nat} {nd : Node}
    (hwr : e.wr = wrD dst x) (hup : e.up = [(id, some nd)]) (hd : ∀ d, dst = some d → d < st.n)
    (hw : w'.heap = w.heap.push (.cells c ty fz)) (ho : w'.os = w.os) (hout : w'.output = w.output) (hfz : ∀ o, o < c.size → ¬ (fz.1 ≤ o ∧ o < fz.2))
    (hni : id ∉ st.ids) (hnn : id ∉ nd.ids) (hid : st.obj id = none)
    (hes : ∀ cc ∈ nd.l, cc.length = nd.es) (hsz : nd.l.length * nd.es ≤ c.size)
    (hcells : ∀ (i : Nat) cc (j : Nat) y, nd.l[i]? = some cc → cc[j]? = some y → ∃ u, c[i * nd.es + j]? = some u ∧ V w lab loc y u)
    (hv : Blk w' w.heap.size c.size → V w' (labN lab w.heap.size id) (locN loc w.heap.size 0 id) x v) :
    RepL w0 lab0 (e.apply st) (a.put dst v) w' (labN lab w.heap.size id) (locN loc w.heap.size 0 id) := by
  have hold : ∀ b, b < w.heap.size → w'.heap[b]? = w.heap[b]? := by
    intro b hb; rw [hw, Array.getElem?_push, if_neg (by omega)]
  have hnew : w'.heap[w.heap.size]? = some (.cells c ty fz) := by rw [hw]; simp
  have hblk : Blk w' w.heap.size c.size := ⟨c, ty, fz, hnew, Nat.le_refl _, hfz⟩
  have hz : w.heap.size ≤ w'.heap.size := by rw [hw]; simp
  have hlab : ∀ b, b < w.heap.size → labN lab w.heap.size id b = lab b := by intro b hb; simp [labN]; omega
  have hext : Ext lab w (labN lab w.heap.size id) w' := ⟨hz, ho, hout, fun b hb _ => ⟨hlab b hb, hold b hb⟩, fun b n hn => hn.same (hold b hn.lt)⟩
  have hlocid : loc id = none := h.dead id hid
  have hlx : ∀ i b base, i ≠ id → locN loc w.heap.size 0 id i = some (b, base) → loc i = some (b, base) := by
    intro i b base hi hl; simp only [locN, if_neg hi] at hl; exact hl
  refine h.step e (put_size _ _ _) (by rw [put_defers]; exact h.defers) hext ?_ ?_ ?_ ?_ ?_ ?_ ?_
  · intro s hs
    rw [hwr] at hs
    exact put_other a v (look_wrD_none hs)
  · intro s y hs
    rw [hwr] at hs
    obtain ⟨rfl, rfl⟩ := look_wrD_some hs
    rw [put_same a v (by rw [h.size]; exact hd s rfl)]
    exact hv hblk
  · intro i nd' b base hi hl hb
    rw [hup] at hl
    have hne : i ≠ id := by intro e; subst e; simp [look] at hl
    refine ⟨by simp only [locN, if_neg hne]; exact hb, fun b' q hb' _ => ⟨hlab b' hb', hold b' hb'⟩⟩
  · intro i nd' hl
    rw [hup] at hl
    simp only [look] at hl
    split at hl <;> first | (cases hl; done) | skip
    rename_i hi
    subst hi
    cases hl
    refine ⟨w.heap.size, 0, by simp [locN], ?_, hblk.le (by omega), hes, ?_⟩
    · simp [labN]
    · intro k cc j y hk hj
      obtain ⟨u, hu, huv⟩ := hcells k cc j y hk hj
      refine ⟨u, ?_, Or.inl ?_⟩
      · simp only [World.cell?, hnew, Nat.zero_add]
        simpa using hu
      · refine huv.mono (fun b hb hl => ⟨by rw [hlab b hb]; exact hl, hold b hb⟩) hz fun i' hi' b base hl => ?_
        have hne : i' ≠ i := by rintro rfl; exact hnn (ids_of_cell hk hj hi')
        exact ⟨hlx i' b base hne hl, fun n hn => hn.same (hold b hn.lt)⟩
  · intro i hi
    rw [hup] at hi
    simp only [look] at hi
    by_cases hne : i = id
    · subst hne
      rcases hi with hi | ⟨hi, _⟩ <;> simp at hi
    · simp only [locN, if_neg hne]
      rcases hi with hi | ⟨_, hi⟩
      · simp [hne] at hi
      · exact h.dead i hi
  · intro b hb
    simp only [labN] at hb
    rw [hw]; simp
    split at hb
    · omega
    · have := h.fresh b hb; omega
  · intro i hi b base hl
    exact hlx i b base (fun e => hni (e ▸ hi)) hl
end

end Go.AM
