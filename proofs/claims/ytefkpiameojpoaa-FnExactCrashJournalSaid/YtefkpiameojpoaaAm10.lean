/- The abstract machine, part 10: append onto a slice of the call's own. -/
import Derived.Test.YtefkpiameojpoaaAm9
set_option linter.unusedVariables false
set_option linter.unusedSimpArgs false
namespace Go.AM

/-- the labels when object id becomes object id' -/
def labR (lab : Labs) (id id' : Nat) : Labs := fun b => match lab b with
  | some (.obj k, p) => if k = id then some (.obj id', p) else some (.obj k, p)
  | o => o
/-- .. and its main block is left -/
def labG (lab : Labs) (id id' nb : Nat) : Labs := fun b => if b = nb then some (.obj id', []) else match lab b with
  | some (.obj k, p) => if k = id then (if p = [] then none else some (.obj id', p)) else some (.obj k, p)
  | o => o
def locR (loc : Locs) (id id' b base : Nat) : Locs := fun i => if i = id' then some (b, base) else if i = id then none else loc i

theorem labR_none {lab : Labs} {id id' b : Nat} (h : lab b = none) : labR lab id id' b = none := by simp [labR, h]
theorem labR_same {lab : Labs} {id id' b : Nat} {p : List (Nat × Nat)} (h : lab b = some (.obj id, p)) : labR lab id id' b = some (.obj id', p) := by simp [labR, h]
theorem labR_other {lab : Labs} {id id' b k : Nat} {p : List (Nat × Nat)} (h : lab b = some (.obj k, p)) (hk : k ≠ id) : labR lab id id' b = lab b := by simp [labR, h, hk]
theorem labR_still {lab : Labs} {id id' b : Nat} (h : still (lab b)) : labR lab id id' b = lab b := by
  unfold labR; split
  · rename_i k p e; rw [e] at h; exact h.elim
  · rfl
theorem labG_still {lab : Labs} {id id' nb b : Nat} (h : still (lab b)) (hb : b ≠ nb) : labG lab id id' nb b = lab b := by
  unfold labG; rw [if_neg hb]; split
  · rename_i k p e; rw [e] at h; exact h.elim
  · rfl
theorem labR_ne {lab : Labs} {id id' b : Nat} (h : labR lab id id' b ≠ none) : lab b ≠ none := by intro e; exact h (labR_none e)

theorem labG_none {lab : Labs} {id id' nb b : Nat} (h : lab b = none) (hb : b ≠ nb) : labG lab id id' nb b = none := by simp [labG, h, hb]
theorem labG_same {lab : Labs} {id id' nb b : Nat} {p : List (Nat × Nat)} (h : lab b = some (.obj id, p)) (hp : p ≠ []) (hb : b ≠ nb) : labG lab id id' nb b = some (.obj id', p) := by simp [labG, h, hp, hb]
theorem labG_other {lab : Labs} {id id' nb b k : Nat} {p : List (Nat × Nat)} (h : lab b = some (.obj k, p)) (hk : k ≠ id) (hb : b ≠ nb) : labG lab id id' nb b = lab b := by simp [labG, h, hk, hb]

def appA (ti : TI) (nodes : Nat → Option Node) (id' : Nat) (op : Op) (vs : List AV) : Option (Nat × Node × AV × Prop) :=
  match op with
  | .call c => match c.callee, c.argTypes.toList, vs with
    | .builtin .append, [t, tx], [.sl id es 0 len, x] => match nodes id, tkind ti t with
      | some nd, .slice e => match ti e with
        | some ei => if ei.size = es ∧ nd.es = es ∧ ei.zero.isSome = true then
            match elemsA ti nodes tx es x with
            | some (l, ok) => some (id, ⟨es, nd.l.take len ++ l⟩, .sl id' es 0 (len + l.length), ok ∧ len ≤ nd.l.length ∧ (len + l.length) * ei.bytes ≤ 140737488355328 ∧ len + l.length ≤ 9223372036854775807)
            | none => none
          else none
        | none => none
      | _, _ => none
    | _, _, _ => none
  | _ => none

section snd
variable {P : Program} {ti : TI} (hT : TOk P ti) {w0 : World} {lab0 : Labs} {st : St} {a : Act} {w : World} {lab : Labs} {loc : Locs}

/-- the cells of a row that has been joined out of two -/
theorem row_append {l1 l2 : List (List AV)} {i : Nat} {c : List AV} (hi : (l1 ++ l2)[i]? = some c) :
    (i < l1.length ∧ l1[i]? = some c) ∨ (l1.length ≤ i ∧ l2[i - l1.length]? = some c) := by
  rw [List.getElem?_append] at hi
  split at hi
  · rename_i h; exact Or.inl ⟨h, hi⟩
  · exact Or.inr ⟨by omega, hi⟩

include hT in
theorem appA_sound (h : RepL w0 lab0 st a w lab loc) {o : Oper} {vs : List AV} {id id' : Nat} {nd' : Node} {x : AV} {ok : Prop}
    {nodes : Nat → Option Node} (hnod : ∀ i n, nodes i = some n → st.obj i = some n) (hs : appA ti nodes id' o.op vs = some (id, nd', x, ok)) (hok : ok) (hv : OpsV w lab loc vs (o.op.operands.toList.map a.eval)) (e : Eff)
    (hwr : e.wr = wrD o.dst x) (hup : e.up = [(id', some nd'), (id, none)]) (hd : ∀ d, o.dst = some d → d < st.n) (hni : id' ∉ st.ids) (hid' : st.obj id' = none) :
    ∃ v w', (execOp a.eval o).run P w = .ok (.value v) w' ∧ Rep w0 lab0 (e.apply st) (a.put o.dst v) w' := by
  unfold appA at hs
  split at hs <;> first | (cases hs; done) | skip
  rename_i c ho
  split at hs <;> first | (cases hs; done) | skip
  rename_i t tx id0 es len y hc hat
  split at hs <;> first | (cases hs; done) | skip
  rename_i nd ty hnd' hk'
  have hnd := hnod _ _ hnd'
  have hk := tkind_ok hT t
  rw [hk'] at hk
  split at hs <;> first | (cases hs; done) | skip
  rename_i ei hei
  split at hs <;> first | (cases hs; done) | skip
  rename_i hcond
  obtain ⟨hes, hes2, hzs⟩ := hcond
  split at hs <;> first | (cases hs; done) | cases hs
  rename_i l okl hel
  obtain ⟨hokl, hlen, hbytes, h63⟩ := hok
  subst hes
  have hn : ∀ i n, nodes i = some n → ∃ b base, loc i = some (b, base) ∧ ObjOk w lab loc i n b base := fun i n hi => h.objs i n (hnod i n hi)
  rw [ho] at hv
  obtain ⟨vb, vy, hvv, hvb, hvy⟩ := hv.two
  have hargs : c.args.map a.eval = #[vb, vy] := by
    simp [Op.operands, Call.operands, hc] at hvv; apply Array.ext'; simpa using hvv
  have hat' : c.argTypes = #[t, tx] := by apply Array.ext'; simpa using hat
  obtain ⟨b, base, hl, hob⟩ := h.objs id nd hnd
  obtain ⟨ad, cap, rfl, hlc, hadr, hbk⟩ := hvb.inv_sl hl
  obtain ⟨news, hsrc, hrow, hesl, hids⟩ := elemsA_sound hT hn hel hokl hvy
  obtain ⟨z, hz⟩ := Option.isSome_iff_exists.1 hzs
  obtain ⟨info, i1, i2, i3, i4⟩ := (hT ty ei hei).info
  obtain ⟨zv, i5, i6, i7⟩ := i4 z hz
  have hnl : news.length = l.length * ei.size := by rw [hsrc.newsLen]
  have hzs' : zv.cells.size = ei.size := by have := (zero_cells i6).1; simp at this; omega
  have htl : (nd.l.take len).length = len := by simp; omega
  have hidne : id' ≠ id := by rintro rfl; rw [hnd] at hid'; cases hid'
  have hlocid' : loc id' = none := h.dead id' hid'
  have hlens : ∀ cc ∈ nd.l.take len ++ l, cc.length = ei.size := by
    intro cc hcc
    rcases List.mem_append.1 hcc with hcc | hcc
    · rw [← hes2]; exact hob.es cc (List.mem_of_mem_take hcc)
    · exact hesl cc hcc
  have hidnd : ∀ k ∈ nd.ids, k ≠ id' := by rintro k hk rfl; exact hni (ids_of_obj hnd hk)
  have hidl : ∀ c ∈ l, ∀ y ∈ c, ∀ k ∈ y.ids, k ≠ id' := by
    rintro c hc y hy k hk rfl
    obtain ⟨i, n, h1, h2⟩ := hids c hc y hy k hk
    exact hni (ids_of_obj (hnod _ _ h1) h2)
  have hlabb : lab b = some (.obj id, []) := hob.hlab
  have hobj : ∀ k p b', lab b' = some (.obj k, p) → b' < w.heap.size := fun k p b' hb => h.fresh b' (by rw [hb]; simp)
  by_cases hroom : len + l.length ≤ cap
  · -- there is room
    have hbk' : Blk w b (base + cap * ei.size) := by simpa using hbk
    have hin : ∀ k, k < news.length → (w.cell? ⟨b, base + len * ei.size + k, none⟩).isSome = true := by
      intro k hk
      refine cell_of_blk hbk' ?_
      have : (len + l.length) * ei.size ≤ cap * ei.size := Nat.mul_le_mul_right _ hroom
      rw [Nat.add_mul] at this; omega
    have hfr : ∀ k, k < news.length → w.frozen? ⟨b, base + len * ei.size + k, none⟩ = false := by
      intro k hk
      refine frozen_of_blk hbk' ?_
      have : (len + l.length) * ei.size ≤ cap * ei.size := Nat.mul_le_mul_right _ hroom
      rw [Nat.add_mul] at this; omega
    have hr : (Builtin.append_ #[t, tx] o.type #[.slice (some ad) len cap, vy]).run P w = .ok (.slice (some ad) (len + l.length) cap) (w.setCells b (base + len * ei.size) news) := by
      rcases hadr with h0 | h0
      · have hl1 : l.length = 0 := by omega
        have hnn : news = [] := List.eq_nil_of_length_eq_zero (by rw [hnl, hl1, Nat.zero_mul])
        subst hnn
        have hlen0 : len = 0 := by omega
        have hcs := hsrc.cells
        have hls := hsrc.len
        rw [hl1] at hcs hls
        rcases hsrc.kind with ⟨e', hkx⟩ | hkx <;> simp [Builtin.append_, run_underlying hk, run_underlying hkx, sizeOf, typeInfo, i1, i2, hls, hcs, h0, hlen0, hl1, storeCells, World.setCells]
      · have had : ad = ⟨b, base, none⟩ := by simpa using h0
        subst had
        have hr := run_append_room_src (P := P) w t tx o.type ty info hk i1 b base len cap vy l.length news (by rw [i2]; exact hsrc) hroom (by rw [i2]; exact hin) (by rw [i2]; exact hfr)
        rw [i2] at hr
        exact hr
    refine ⟨.slice (some ad) (len + l.length) cap, w.setCells b (base + len * ei.size) news, ?_, labR lab id id', locR loc id id' b base, ?_⟩
    · simp only [execOp, ho, resolve, hc, invoke, builtin, hargs, hat', Sem.run_bind, hr, Result.andThen_ok, Sem.run_pure]
    · have hother : ∀ b', b' ≠ b → (w.setCells b (base + len * ei.size) news).heap[b']? = w.heap[b']? := fun b' hb => heap_setCells_ne b _ _ w hb
      have hz : (w.setCells b (base + len * ei.size) news).heap.size = w.heap.size := size_setCells b _ _ w
      have himm : ∀ b', b' < w.heap.size → lab b' = none → labR lab id id' b' = none ∧ (w.setCells b (base + len * ei.size) news).heap[b']? = w.heap[b']? := by
        intro b' _ hb; exact ⟨labR_none hb, hother b' (by rintro rfl; rw [hlabb] at hb; cases hb)⟩
      have hblk : ∀ b' n, Blk w b' n → Blk (w.setCells b (base + len * ei.size) news) b' n := fun b' n hb => Blk_setCells b _ _ w hb
      have hloc : ∀ i b' base', i ≠ id' → locR loc id id' b base i = some (b', base') → loc i = some (b', base') := by
        intro i b' base' hi hh
        simp only [locR, if_neg hi] at hh
        split at hh
        · cases hh
        · exact hh
      have hV : ∀ y v, (∀ k ∈ y.ids, k ≠ id') → V w lab loc y v → V (w.setCells b (base + len * ei.size) news) (labR lab id id') (locR loc id id' b base) y v := fun y v hy hv =>
        hv.mono himm (by rw [hz]; exact Nat.le_refl _) fun i hi b' base' hl' => ⟨hloc i b' base' (hy i hi) hl', fun n hn => hblk b' n hn⟩
      refine h.step e (put_size _ _ _) (by rw [put_defers]; exact h.defers) ⟨by rw [hz]; exact Nat.le_refl _, (os_setCells b _ _ w).1, (os_setCells b _ _ w).2, fun b' _ hs => ⟨labR_still hs, hother b' (by rintro rfl; rw [hlabb] at hs; exact hs)⟩, hblk⟩ ?_ ?_ ?_ ?_ ?_ ?_ ?_
      · intro s hs
        rw [hwr] at hs
        exact put_other a _ (look_wrD_none hs)
      · intro s zz hs
        rw [hwr] at hs
        obtain ⟨hds, rfl⟩ := look_wrD_some hs
        rw [hds, put_same a _ (by rw [h.size]; exact hd s hds)]
        refine .sl _ _ _ _ _ fun b' base' hl' => ?_
        simp [locR] at hl'
        obtain ⟨rfl, rfl⟩ := hl'
        exact ⟨_, cap, rfl, hroom, hadr, by simpa using hblk _ _ hbk'⟩
      · intro i nd2 b2 base2 hi hu hl2
        rw [hup] at hu
        have hne' : i ≠ id' := by rintro rfl; simp [look] at hu
        have hne : i ≠ id := by rintro rfl; simp [look, hne'] at hu
        refine ⟨by simp only [locR, if_neg hne', if_neg hne]; exact hl2, fun b' q _ hq => ⟨labR_other hq hne, hother b' ?_⟩⟩
        rintro rfl
        rw [hlabb] at hq
        simp only [Option.some.injEq, Prod.mk.injEq, Root.obj.injEq] at hq
        exact hne hq.1.symm
      · intro i nd2 hu
        rw [hup] at hu
        simp only [look] at hu
        split at hu
        · rename_i hi
          subst hi
          cases hu
          refine ⟨b, base, by simp [locR], labR_same hlabb, ?_, hlens, ?_⟩
          · refine (hblk _ _ hbk').le ?_
            simp only [List.length_append, htl]
            have : (len + l.length) * ei.size ≤ cap * ei.size := Nat.mul_le_mul_right _ hroom
            omega
          · intro k cc j y hk hj
            simp only at hk ⊢
            have hjl : j < ei.size := by
              have := hlens cc (List.mem_of_getElem? hk)
              rcases Nat.lt_or_ge j cc.length with h | h
              · omega
              · simp [List.getElem?_eq_none h] at hj
            rcases row_append hk with ⟨h1, h2⟩ | ⟨h1, h2⟩
            · rw [htl] at h1
              rw [List.getElem?_take, if_pos h1] at h2
              obtain ⟨v, hv, hcv⟩ := hob.cells k cc j y h2 hj
              rw [hes2] at hv
              refine ⟨v, ?_, ?_⟩
              · rw [World.cell?_setCells_out b news _ w _ (fun _ _ => Or.inl (by
                  have : (k + 1) * ei.size ≤ len * ei.size := Nat.mul_le_mul_right _ h1
                  rw [Nat.add_mul] at this; simp; omega))]
                exact hv
              · rcases hcv with hcv | hcv
                · exact Or.inl (hV y v (fun kk hkk => hidnd kk (ids_of_cell h2 hj hkk)) hcv)
                · refine Or.inr (hcv.move himm (fun b' q _ hq => ?_) (by rw [hz]; exact Nat.le_refl _))
                  refine ⟨?_, hother b' (by rintro rfl; rw [hlabb] at hq; simp [Lab.app] at hq)⟩
                  exact labR_same hq
            · rw [htl] at h1 h2
              obtain ⟨u, hu, huv⟩ := hrow (k - len) cc j y h2 hj
              refine ⟨u, ?_, Or.inl (hV y u (fun kk hkk => hidl cc (List.mem_of_getElem? h2) y (List.mem_of_getElem? hj) kk hkk) huv)⟩
              have hul := (List.getElem?_eq_some_iff.1 hu).1
              have := World.cell?_setCells_in b news (base + len * ei.size) w hin _ hul
              rw [(List.getElem?_eq_some_iff.1 hu).2] at this
              rw [← this]
              congr 2
              have : k * ei.size = len * ei.size + (k - len) * ei.size := by rw [← Nat.add_mul]; congr 1; omega
              omega
        · split at hu
          · cases hu
          · cases hu
      · intro i hi
        rw [hup] at hi
        simp only [look] at hi
        by_cases hne' : i = id'
        · subst hne'; simp at hi
        · simp only [locR, if_neg hne']
          by_cases hne : i = id
          · rw [if_pos hne]
          · rw [if_neg hne]
            simp [hne', hne] at hi
            exact h.dead i hi
      · intro b' hb'; rw [hz]; exact h.fresh b' (labR_ne hb')
      · intro i hi b' base' hl'
        exact hloc i b' base' (by rintro rfl; exact hni hi) hl'
  · -- a new row
    have holdc : ∀ k, k < len * ei.size → ∃ c y, nd.l[k / ei.size]? = some c ∧ c[k % ei.size]? = some y ∧ (k / ei.size) * ei.size + k % ei.size = k := by
      intro k hk
      obtain ⟨h1, h2, h3⟩ := row_lt hk
      have hc : nd.l[k / ei.size]? = some nd.l[k / ei.size] := List.getElem?_eq_getElem (by omega)
      have hcl := hob.es _ (List.mem_of_getElem? hc)
      exact ⟨_, _, hc, List.getElem?_eq_getElem (by rw [hcl, hes2]; exact h2), h3⟩
    let olds : List Value := (List.range (len * ei.size)).map fun k => (w.cell? ⟨b, base + k, none⟩).getD undef
    have hold1 : ∀ k, k < len * ei.size → w.cell? ⟨b, base + k, none⟩ = some ((w.cell? ⟨b, base + k, none⟩).getD undef) := by
      intro k hk
      obtain ⟨c, y, h1, h2, h3⟩ := holdc k hk
      obtain ⟨v, hv, _⟩ := hob.cells _ c _ y h1 h2
      rw [hes2, Nat.add_assoc, h3] at hv
      rw [hv]; rfl
    have hcapl : len ≤ cap := hlc
    have hold : (Builtin.firstCells info.size len (.slice (some ad) len cap)).run P w.drew = .ok olds.toArray w.drew := by
      rw [i2]
      refine run_firstCells_some w.drew ei.size len ad len cap olds (by simp [olds]) ?_
      intro k v hv
      have hk : k < len * ei.size := by
        have := (List.getElem?_eq_some_iff.1 hv).1
        simpa [olds] using this
      have hv' : (w.cell? ⟨b, base + k, none⟩).getD undef = v := by simpa [olds, hk] using hv
      have had : ad = ⟨b, base, none⟩ := by
        rcases hadr with h | h
        · have : len = 0 := by omega
          rw [this, Nat.zero_mul] at hk; omega
        · simpa using h
      subst had
      rw [addr_add, ← hv']
      have := hold1 k hk
      simpa using this
    have hr := run_append_grow_src (P := P) w t tx o.type ty info zv hk i1 i5 (some ad) len cap olds hold vy l.length news (by rw [i2]; exact hsrc) (by omega) (by omega)
      (by rw [i3]; exact growslice_fits (by omega) hbytes)
    have hge := grownCap_ge w (len + l.length) cap ty
    let G := grownCap w (len + l.length) cap ty
    let row : Array Value := (olds ++ news).toArray ++ Builtin.zeroCells zv.cells (G - (len + l.length))
    have hrs : row.size = G * ei.size := by
      simp only [row, Array.size_append, List.size_toArray, List.length_append, size_zeroCells, hzs', hnl, olds, List.length_map, List.length_range]
      rw [← Nat.add_mul, ← Nat.add_mul]; congr 1; have : len + l.length ≤ G := hge; omega
    let w' : World := w.drew.alloc (.cells row ty)
    have hheap : w'.heap = w.heap.push (.cells row ty) := rfl
    have hother : ∀ b', b' < w.heap.size → w'.heap[b']? = w.heap[b']? := by
      intro b' hb; rw [hheap, Array.getElem?_push, if_neg (by omega)]
    have hnew : w'.heap[w.heap.size]? = some (.cells row ty) := by rw [hheap]; simp
    have hz : w.heap.size ≤ w'.heap.size := by rw [hheap]; simp
    have hblkn : Blk w' w.heap.size row.size := ⟨row, ty, (0, 0), hnew, Nat.le_refl _, by simp⟩
    have himm : ∀ b', b' < w.heap.size → lab b' = none → labG lab id id' w.heap.size b' = none ∧ w'.heap[b']? = w.heap[b']? := by
      intro b' hb' hb; exact ⟨labG_none hb (by omega), hother b' hb'⟩
    have hloc : ∀ i b' base', i ≠ id' → locR loc id id' w.heap.size 0 i = some (b', base') → loc i = some (b', base') := by
      intro i b' base' hi hh
      simp only [locR, if_neg hi] at hh
      split at hh
      · cases hh
      · exact hh
    have hV : ∀ y v, (∀ k ∈ y.ids, k ≠ id') → V w lab loc y v → V w' (labG lab id id' w.heap.size) (locR loc id id' w.heap.size 0) y v := fun y v hy hv =>
      hv.mono himm hz fun i hi b' base' hl' => ⟨hloc i b' base' (hy i hi) hl', fun n hn => hn.same (hother b' hn.lt)⟩
    refine ⟨.slice (some ⟨w.heap.size, 0, none⟩) (len + l.length) G, w', ?_, labG lab id id' w.heap.size, locR loc id id' w.heap.size 0, ?_⟩
    · simp only [execOp, ho, resolve, hc, invoke, builtin, hargs, hat', Sem.run_bind, hr, Result.andThen_ok, Sem.run_pure]
      rfl
    · refine h.step e (put_size _ _ _) (by rw [put_defers]; exact h.defers) ⟨hz, rfl, rfl, fun b' hb' hs => ⟨labG_still hs (by omega), hother b' hb'⟩, fun b' n hn => hn.same (hother b' hn.lt)⟩ ?_ ?_ ?_ ?_ ?_ ?_ ?_
      · intro s hs
        rw [hwr] at hs
        exact put_other a _ (look_wrD_none hs)
      · intro s zz hs
        rw [hwr] at hs
        obtain ⟨hds, rfl⟩ := look_wrD_some hs
        rw [hds, put_same a _ (by rw [h.size]; exact hd s hds)]
        refine .sl _ _ _ _ _ fun b' base' hl' => ?_
        simp [locR] at hl'
        obtain ⟨rfl, rfl⟩ := hl'
        exact ⟨_, G, rfl, hge, Or.inr (by simp), hblkn.le (by rw [hrs]; simp)⟩
      · intro i nd2 b2 base2 hi hu hl2
        rw [hup] at hu
        have hne' : i ≠ id' := by rintro rfl; simp [look] at hu
        have hne : i ≠ id := by rintro rfl; simp [look, hne'] at hu
        refine ⟨by simp only [locR, if_neg hne', if_neg hne]; exact hl2, fun b' q hb' hq => ⟨labG_other hq hne (by omega), hother b' hb'⟩⟩
      · intro i nd2 hu
        rw [hup] at hu
        simp only [look] at hu
        split at hu
        · rename_i hi
          subst hi
          cases hu
          refine ⟨w.heap.size, 0, by simp [locR], by simp [labG], ?_, hlens, ?_⟩
          · refine hblkn.le ?_
            rw [hrs]
            simp only [List.length_append, htl, Nat.zero_add]
            exact Nat.mul_le_mul_right _ hge
          · intro k cc j y hk hj
            simp only at hk ⊢
            have hjl : j < ei.size := by
              have := hlens cc (List.mem_of_getElem? hk)
              rcases Nat.lt_or_ge j cc.length with h | h
              · omega
              · simp [List.getElem?_eq_none h] at hj
            have hcell : ∀ m, w'.cell? ⟨w.heap.size, m, none⟩ = row[m]? := by
              intro m; simp [World.cell?, hnew]
            rw [Nat.zero_add, hcell]
            rcases row_append hk with ⟨h1, h2⟩ | ⟨h1, h2⟩
            · rw [htl] at h1
              rw [List.getElem?_take, if_pos h1] at h2
              obtain ⟨v, hv, hcv⟩ := hob.cells k cc j y h2 hj
              rw [hes2] at hv
              have hlt : k * ei.size + j < len * ei.size := by
                have : (k + 1) * ei.size ≤ len * ei.size := Nat.mul_le_mul_right _ h1
                rw [Nat.add_mul] at this; omega
              refine ⟨v, ?_, ?_⟩
              · have e1 : (olds ++ news)[k * ei.size + j]? = some v := by
                  rw [List.getElem?_append_left (by simp [olds]; exact hlt)]
                  simp only [olds, List.getElem?_map, List.getElem?_range hlt, Option.map_some]
                  rw [← Nat.add_assoc, hv]; rfl
                have e2 := (List.getElem?_eq_some_iff.1 e1).1
                simp only [row]
                rw [Array.getElem?_append_left (by simpa using e2)]
                simpa using e1
              · rcases hcv with hcv | hcv
                · exact Or.inl (hV y v (fun kk hkk => hidnd kk (ids_of_cell h2 hj hkk)) hcv)
                · refine Or.inr (hcv.move himm (fun b' q hb' hq => ⟨?_, hother b' hb'⟩) hz)
                  exact labG_same hq (by simp) (by omega)
            · rw [htl] at h1 h2
              obtain ⟨u, hu, huv⟩ := hrow (k - len) cc j y h2 hj
              refine ⟨u, ?_, Or.inl (hV y u (fun kk hkk => hidl cc (List.mem_of_getElem? h2) y (List.mem_of_getElem? hj) kk hkk) huv)⟩
              have e0 : k * ei.size + j = len * ei.size + ((k - len) * ei.size + j) := by
                have : k * ei.size = len * ei.size + (k - len) * ei.size := by rw [← Nat.add_mul]; congr 1; omega
                omega
              have e1 : (olds ++ news)[k * ei.size + j]? = some u := by
                rw [e0, List.getElem?_append_right (by simp [olds])]
                simpa [olds] using hu
              have e2 := (List.getElem?_eq_some_iff.1 e1).1
              simp only [row]
              rw [Array.getElem?_append_left (by simpa using e2)]
              simpa using e1
        · split at hu
          · cases hu
          · cases hu
      · intro i hi
        rw [hup] at hi
        simp only [look] at hi
        by_cases hne' : i = id'
        · subst hne'; simp at hi
        · simp only [locR, if_neg hne']
          by_cases hne : i = id
          · rw [if_pos hne]
          · rw [if_neg hne]
            simp [hne', hne] at hi
            exact h.dead i hi
      · intro b' hb'
        rw [hheap]; simp
        by_cases hb2 : b' = w.heap.size
        · omega
        · have : lab b' ≠ none := by intro e; exact hb' (labG_none e hb2)
          have := h.fresh b' this; omega
      · intro i hi b' base' hl'
        exact hloc i b' base' (by rintro rfl; exact hni hi) hl'
end snd

end Go.AM
