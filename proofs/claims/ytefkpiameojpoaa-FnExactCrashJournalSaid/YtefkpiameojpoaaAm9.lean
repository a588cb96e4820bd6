/- The abstract machine, part 9: stores. -/
import Derived.Test.YtefkpiameojpoaaAm8
set_option linter.unusedVariables false
set_option linter.unusedSimpArgs false
namespace Go.AM

theorem Blk_setCell {w : World} {a : Addr} {v : Value} {b n : Nat} (h : Blk w b n) : Blk (w.setCell a v) b n := by
  obtain ⟨c, ty, fz, h1, h2, h3⟩ := h
  by_cases hb : a.block = b
  · have hs : (if a.spot.isSome then c else c.setIfInBounds a.off v).size = c.size := by split <;> simp
    refine ⟨if a.spot.isSome then c else c.setIfInBounds a.off v, ty, fz, ?_, by rw [hs]; exact h2, fun o ho => h3 o (by rw [← hs]; exact ho)⟩
    simp only [World.setCell, Array.getElem?_modify, hb, if_true, h1, Option.map_some]
  · exact ⟨c, ty, fz, by simp only [World.setCell, Array.getElem?_modify, hb, if_false]; exact h1, h2, h3⟩

theorem Blk_setCells {b n : Nat} (b' : Nat) : ∀ (vs : List Value) (o : Nat) (w : World), Blk w b n → Blk (w.setCells b' o vs) b n
  | [], _, _, h => h
  | _ :: r, o, _, h => Blk_setCells b' r (o + 1) _ (Blk_setCell h)

theorem size_setCells (b : Nat) : ∀ (vs : List Value) (o : Nat) (w : World), (w.setCells b o vs).heap.size = w.heap.size
  | [], _, _ => rfl
  | v :: r, o, w => by rw [World.setCells, size_setCells b r]; simp [World.setCell]

theorem os_setCells (b : Nat) : ∀ (vs : List Value) (o : Nat) (w : World), (w.setCells b o vs).os = w.os ∧ (w.setCells b o vs).output = w.output
  | [], _, _ => ⟨rfl, rfl⟩
  | v :: r, o, w => by rw [World.setCells]; exact os_setCells b r _ _

theorem heap_setCell_ne {w : World} {a : Addr} {v : Value} {i : Nat} (h : i ≠ a.block) : (w.setCell a v).heap[i]? = w.heap[i]? := by
  simp only [World.setCell, Array.getElem?_modify]
  rw [if_neg (fun e => h e.symm)]

theorem heap_setCells_ne (b : Nat) : ∀ (vs : List Value) (o : Nat) (w : World) {i : Nat}, i ≠ b → (w.setCells b o vs).heap[i]? = w.heap[i]?
  | [], _, _, _, _ => rfl
  | v :: r, o, w, i, h => by rw [World.setCells, heap_setCells_ne b r _ _ h, heap_setCell_ne h]

theorem cell_of_blk {w : World} {b n o : Nat} (h : Blk w b n) (ho : o < n) : (w.cell? ⟨b, o, none⟩).isSome = true := by
  obtain ⟨c, ty, fz, h1, h2, h3⟩ := h
  simp only [World.cell?, h1, Option.isSome_none, Bool.false_eq_true, if_false]
  rw [Array.getElem?_eq_getElem (by omega)]; rfl

/-- cells of one object's block are written -/
theorem step_cells {w0 : World} {lab0 : Labs} {st : St} {a : Act} {w : World} {lab : Labs} {loc : Locs} (h : RepL w0 lab0 st a w lab loc) (e : Eff) {dst : Option Nat} {y : AV} {u : Value}
    {id : Nat} {nd nd' : Node} {b base o : Nat} {vals : List Value} (hwr : e.wr = wrD dst y) (hup : e.up = [(id, some nd')]) (hd : ∀ d, dst = some d → d < st.n)
    (hnd : st.obj id = some nd) (hl : loc id = some (b, base)) (ho : ObjOk w lab loc id nd b base)
    (hes' : nd'.es = nd.es) (hlen : ∀ cc ∈ nd'.l, cc.length = nd'.es) (hsz : nd'.l.length = nd.l.length)
    (hin : ∀ k, k < vals.length → (w.cell? ⟨b, o + k, none⟩).isSome = true)
    (hy : V (w.setCells b o vals) lab loc y u)
    (hcells : ∀ (i : Nat) c (j : Nat) x, nd'.l[i]? = some c → c[j]? = some x →
      (∃ k, base + i * nd.es + j = o + k ∧ ∃ v, vals[k]? = some v ∧ V w lab loc x v) ∨
      ((base + i * nd.es + j < o ∨ o + vals.length ≤ base + i * nd.es + j) ∧ ∃ c', nd.l[i]? = some c' ∧ c'[j]? = some x)) :
    RepL w0 lab0 (e.apply st) (a.put dst u) (w.setCells b o vals) lab loc := by
  have hother : ∀ b', b' ≠ b → (w.setCells b o vals).heap[b']? = w.heap[b']? := fun b' hb => heap_setCells_ne b vals o w hb
  have hlabb : lab b = some (.obj id, []) := ho.hlab
  have himm : ∀ b', b' < w.heap.size → lab b' = none → lab b' = none ∧ (w.setCells b o vals).heap[b']? = w.heap[b']? := by
    intro b' _ hb; exact ⟨hb, hother b' (by rintro rfl; rw [hlabb] at hb; cases hb)⟩
  have hz : (w.setCells b o vals).heap.size = w.heap.size := size_setCells b vals o w
  have hblk : ∀ b' n, Blk w b' n → Blk (w.setCells b o vals) b' n := fun b' n hb => Blk_setCells b vals o w hb
  have hV : ∀ x v, V w lab loc x v → V (w.setCells b o vals) lab loc x v := fun x v hv => hv.mono himm (by rw [hz]; exact Nat.le_refl _) fun i _ b' base' hl' => ⟨hl', fun n hn => hblk b' n hn⟩
  have hT : ∀ i j x v, T w lab (.obj id, [(i, j)]) x v → T (w.setCells b o vals) lab (.obj id, [(i, j)]) x v := fun i j x v hx =>
    hx.move himm (fun b' q _ hq => ⟨hq, hother b' (by rintro rfl; rw [hlabb] at hq; simp [Lab.app] at hq)⟩) (by rw [hz]; exact Nat.le_refl _)
  refine h.step e (put_size _ _ _) (by rw [put_defers]; exact h.defers) ⟨by rw [hz]; exact Nat.le_refl _, (os_setCells b vals o w).1, (os_setCells b vals o w).2, fun b' _ hs => ⟨rfl, hother b' (by rintro rfl; rw [hlabb] at hs; exact hs)⟩, hblk⟩ ?_ ?_ ?_ ?_ ?_ ?_ ?_
  · intro s hs
    rw [hwr] at hs
    exact put_other a u (look_wrD_none hs)
  · intro s z hs
    rw [hwr] at hs
    obtain ⟨rfl, rfl⟩ := look_wrD_some hs
    rw [put_same a u (by rw [h.size]; exact hd s rfl)]
    exact hy
  · intro i nd2 b2 base2 hi hu hl2
    rw [hup] at hu
    have hne : i ≠ id := by rintro rfl; simp [look] at hu
    refine ⟨hl2, fun b' q _ hq => ⟨rfl, hother b' ?_⟩⟩
    rintro rfl
    rw [hlabb] at hq
    simp only [Option.some.injEq, Prod.mk.injEq, Root.obj.injEq] at hq
    exact hne hq.1.symm
  · intro i nd2 hu
    rw [hup] at hu
    simp only [look] at hu
    split at hu <;> first | (cases hu; done) | skip
    rename_i hi
    subst hi
    cases hu
    refine ⟨b, base, hl, hlabb, hblk _ _ (by rw [hsz, hes']; exact ho.blk), hlen, ?_⟩
    intro k c j x hk hj
    rw [hes']
    rcases hcells k c j x hk hj with ⟨m, hm, v, hv, hx⟩ | ⟨hm, c', hc', hx⟩
    · refine ⟨v, ?_, Or.inl (hV x v hx)⟩
      have hml := (List.getElem?_eq_some_iff.1 hv).1
      rw [hm, World.cell?_setCells_in b vals o w hin m hml]
      rw [(List.getElem?_eq_some_iff.1 hv).2]
    · obtain ⟨v, hv, hcv⟩ := ho.cells k c' j x hc' hx
      refine ⟨v, ?_, hcv.imp (hV x v) (hT k j x v)⟩
      rw [World.cell?_setCells_out b vals o w _ (fun _ _ => hm)]
      exact hv
  · intro i hi
    rw [hup] at hi
    by_cases hne : i = id
    · subst hne; simp [look] at hi
    · simp [look, hne] at hi
      exact h.dead i hi
  · intro b' hb'; rw [hz]; exact h.fresh b' hb'
  · intro i _ b' base' hl'; exact hl'

def storeA (ti : TI) (nodes : Nat → Option Node) (t : Nat) (vs : List AV) : Option (Nat × Node × Prop) :=
  match vs with
  | [.ptr id es i j, x] => match nodes id, ti t with
    | some nd, some ty =>
      if nd.es = es ∧ isCells nodes x = true ∧ x.cellsA.all (okCell nodes) = true ∧ x.cellsA.length = ty.size then
        some (id, ⟨es, nd.l.set i ((nd.l.getD i []).take j ++ (x.cellsA ++ (nd.l.getD i []).drop (j + ty.size)))⟩, i < nd.l.length ∧ j + ty.size ≤ es)
      else none
    | _, _ => none
  | _ => none

section snd
variable {P : Program} {ti : TI} (hT : TOk P ti) {w0 : World} {lab0 : Labs} {st : St} {a : Act} {w : World} {lab : Labs} {loc : Locs}

include hT in
theorem storeA_sound (h : RepL w0 lab0 st a w lab loc) {o : Oper} {t : Nat} {x y : Operand} (ho : o.op = .store t x y) {vs : List AV} {id : Nat} {nd : Node} {ok : Prop}
    {nodes : Nat → Option Node} (hnod : ∀ i n, nodes i = some n → st.obj i = some n) (hs : storeA ti nodes t vs = some (id, nd, ok)) (hok : ok) (hv : OpsV w lab loc vs [a.eval x, a.eval y]) (e : Eff) (hwr : e.wr = wrD o.dst .undef) (hup : e.up = [(id, some nd)]) (hd : ∀ d, o.dst = some d → d < st.n) :
    ∃ w', (execOp a.eval o).run P w = .ok .skip w' ∧ RepL w0 lab0 (e.apply st) (a.put o.dst undef) w' lab loc := by
  unfold storeA at hs
  split at hs <;> first | (cases hs; done) | skip
  rename_i id' es i j z
  split at hs <;> first | (cases hs; done) | skip
  rename_i nd0 ty hnd' hty
  have hnd := hnod _ _ hnd'
  split at hs <;> first | (cases hs; done) | cases hs
  rename_i hc
  obtain ⟨h1, h2, h3, h4⟩ := hc
  obtain ⟨h5, h6⟩ := hok
  obtain ⟨b, base, hl, hob⟩ := h.objs id nd0 hnd
  obtain ⟨u, v, huv, hu, hv'⟩ := hv.two
  simp at huv
  obtain ⟨rfl, rfl⟩ := huv
  have hp := hu.inv_ptr hl
  have hn : ∀ i n, nodes i = some n → ∃ b base, loc i = some (b, base) ∧ ObjOk w lab loc i n b base := fun i n hi => h.objs i n (hnod i n hi)
  obtain ⟨h7, h8⟩ := isCells_sound hn h2 hv'
  have hci : nd0.l[i]? = some (nd0.l.getD i []) := getD_lt h5
  have hcl : (nd0.l.getD i []).length = es := by rw [← h1]; exact hob.es _ (List.mem_of_getElem? hci)
  have hsz : (a.eval y).cells.size = ty.size := by rw [← h7, h4]
  have hsize := t_sizeOf hT hty w
  have hle : i * es + es ≤ nd0.l.length * es := by
    have : (i + 1) * es ≤ nd0.l.length * es := Nat.mul_le_mul_right _ h5
    rw [Nat.add_mul] at this; omega
  have hblk := hob.blk
  rw [h1] at hblk
  have hin : ∀ k, k < (a.eval y).cells.toList.length → (w.cell? ⟨b, base + i * es + j + k, none⟩).isSome = true := by
    intro k hk; exact cell_of_blk hblk (by simp at hk; omega)
  have hfr : ∀ k, k < (a.eval y).cells.toList.length → w.frozen? ⟨b, base + i * es + j + k, none⟩ = false := by
    intro k hk; exact frozen_of_blk hblk (by simp at hk; omega)
  have hone : ∀ v ∈ (a.eval y).cells.toList, v.oneCell' = true := by
    intro v hv
    obtain ⟨k, hk⟩ := List.mem_iff_getElem?.1 hv
    have hk' : k < z.cellsA.length := by
      have := (List.getElem?_eq_some_iff.1 hk).1
      simp at this; omega
    have hz : z.cellsA[k]? = some z.cellsA[k] := List.getElem?_eq_getElem hk'
    rw [List.all_eq_true] at h3
    exact okCell_one hn (h3 _ (List.mem_of_getElem? hz)) (h8 k _ v hz (by simpa using hk))
  have hst := run_storeCells_cells (P := P) b (base + i * es + j) (a.eval y).cells.toList 0 w (by simpa using hin) (by simpa using hfr) hone
  simp only [Nat.add_zero] at hst
  refine ⟨w.setCells b (base + i * es + j) (a.eval y).cells.toList, ?_, ?_⟩
  · simp only [execOp, ho, Instr.storeAt, hp, Instr.sureAddr, storeVar, Sem.run_bind, Sem.run_pure, Result.andThen_ok, hsize, hsz, ne_eq, not_true, if_false, hst]
  · refine step_cells h e (nd := nd0) (base := base) hwr hup hd hnd hl hob h1.symm ?_ (by simp) hin (.undef _) ?_
    · intro cc hc
      rcases List.mem_or_eq_of_mem_set hc with hc | rfl
      · have := hob.es cc hc; simp only; omega
      · simp [h4]; rw [← List.getD_eq_getElem?_getD]; omega
    · intro k c m x hk hm
      simp only at hk
      rw [List.getElem?_set] at hk
      by_cases hki : i = k
      · subst hki
        rw [if_pos rfl, if_pos h5] at hk
        cases hk
        rw [List.getElem?_append] at hm
        have htk : ((nd0.l.getD i []).take j).length = j := by simp; rw [← List.getD_eq_getElem?_getD]; omega
        rw [htk] at hm
        by_cases hmj : m < j
        · rw [if_pos hmj, List.getElem?_take, if_pos hmj] at hm
          exact Or.inr ⟨Or.inl (by rw [h1]; omega), _, hci, hm⟩
        · rw [if_neg hmj, List.getElem?_append, h4] at hm
          by_cases hm2 : m - j < ty.size
          · rw [if_pos hm2] at hm
            have hlt : m - j < (a.eval y).cells.size := by omega
            refine Or.inl ⟨m - j, by rw [h1]; omega, (a.eval y).cells[m - j], by simp [hlt], ?_⟩
            exact h8 (m - j) x _ hm (by simp [hlt])
          · rw [if_neg hm2, List.getElem?_drop, show j + ty.size + (m - j - ty.size) = m by omega] at hm
            exact Or.inr ⟨Or.inr (by rw [h1]; simp; omega), _, hci, hm⟩
      · rw [if_neg hki] at hk
        refine Or.inr ⟨?_, c, hk, hm⟩
        have hmc : m < es := by
          have := hob.es c (List.mem_of_getElem? hk)
          rcases Nat.lt_or_ge m c.length with h | h
          · omega
          · simp [List.getElem?_eq_none h] at hm
        rw [h1]
        rcases Nat.lt_or_gt_of_ne hki with hlt | hgt
        · right
          have : (i + 1) * es ≤ k * es := Nat.mul_le_mul_right _ hlt
          rw [Nat.add_mul] at this
          simp; omega
        · left
          have : (k + 1) * es ≤ i * es := Nat.mul_le_mul_right _ hgt
          rw [Nat.add_mul] at this
          omega
end snd

end Go.AM
