/- The abstract machine, part 15: a call tells its effect rightly. -/
import Derived.Test.YtefkpiameojpoaaAm14
set_option linter.unusedVariables false
set_option linter.unusedSimpArgs false
namespace Go.AM

def isTmp : Option Lab → Bool
  | some (.tmp, _) => true
  | _ => false

/-- the labels behind a call -/
def labB (w : World) (lab labc labq : Labs) (po : PlanO) : Labs := fun b =>
  if b < w.heap.size ∧ isTmp (labc b) = true then lab b
  else match labq b with
    | some (r, q) => findP po r q
    | none => if b < w.heap.size ∧ (labc b).isNone = true then lab b else none

def locB (loc : Locs) (L : List (Nat × (Nat × Nat))) (pl : PlanI) : Locs := fun i => match look i L with
  | some bb => some bb
  | none => if (look i pl).isSome then none else loc i

theorem findP_obj {po : PlanO} {r : Root} {q : List (Nat × Nat)} {l : Lab} (h : findP po r q = some l) : ∃ id p, l = (.obj id, p) := by
  induction po with
  | nil => cases h
  | cons e po ih =>
    simp only [findP] at h
    split at h
    · split at h
      · cases h; exact ⟨_, _, rfl⟩
      · exact ih h
    · exact ih h

theorem roOf_mem {ow : List Nat} : ∀ {k : Nat} {xs : List AV} {i : Nat}, i ∈ roOf ow k xs → i ∈ idsL xs := by
  intro k xs
  induction xs generalizing k with
  | nil => intro i h; simp [roOf] at h
  | cons x xs ih =>
    intro i h
    simp only [roOf, List.mem_append] at h
    simp only [idsL, List.mem_append]
    rcases h with h | h
    · left; split at h <;> simp_all
    · exact Or.inr (ih h)

theorem idsL_append (a b : List AV) : idsL (a ++ b) = idsL a ++ idsL b := by
  induction a with
  | nil => rfl
  | cons x a ih => simp [idsL, ih]

theorem look_map_some {α : Type} {l : List (Nat × α)} {i : Nat} (h : i ∈ l.map (·.1)) : ∃ x, look i l = some x := by
  induction l with
  | nil => cases h
  | cons y l ih =>
    obtain ⟨k, x⟩ := y
    simp only [look]
    by_cases hk : i = k
    · exact ⟨x, by rw [if_pos hk]⟩
    · rw [if_neg hk]
      simp only [List.map_cons, List.mem_cons] at h
      exact ih (h.resolve_left hk)

section snd
variable {P : Program} {w0 : World} {lab0 : Labs}

theorem call_sound {o : Oper} {st : St} {ow : List Nat} {ci : CallIn} {vs : List AV} {res : AV} {muts : List (Nat × AV)} {e : Eff} {ok : Prop}
    (hci : callIn st o ow = some ci) (hokc : ci.ok) (hdc : DC P ci.f ci.ts res muts) (hvs : evs st o.op.operands.toList = some vs) (hco : callOut st o ow ci vs res muts = some (e, ok)) (hok : ok) :
    e.pre st ∧ Sound P w0 lab0 st.n o e := by
  unfold callIn at hci
  split at hci <;> first | (cases hci; done) | skip
  rename_i c hop
  split at hci <;> first | (cases hci; done) | skip
  rename_i fo hcal
  split at hci <;> first | (cases hci; done) | skip
  rename_i f caps as hev
  rw [hvs] at hev
  cases hev
  split at hci <;> first | (cases hci; done) | skip
  rename_i ts pl okf hfz
  split at hci <;> first | (cases hci; done) | cases hci
  rename_i hchk
  obtain ⟨hplan, hro, hliv, hdst⟩ := hchk
  simp only at hokc hdc hco
  unfold callOut at hco
  split at hco <;> first | (cases hco; done) | skip
  rename_i x po1 cn po2 hthw hgb
  split at hco <;> first | (cases hco; done) | cases hco
  rename_i hchk2
  obtain ⟨hap, hnodup, hpo2, hroot⟩ := hchk2
  obtain ⟨hnew, hown⟩ := hok
  simp only at hgb hpo2 hown
  rw [List.all_eq_true] at hplan hro hliv hpo2 hroot
  have hobs : ∀ p ∈ obsOf st (.fn f caps :: as), st.obj p.1 = p.2 := by
    intro p hp
    unfold obsOf at hp
    obtain ⟨i, _, rfl⟩ := List.mem_map.1 hp; rfl
  have hrd := rdOf_self (st := st) o.op.operands.toList
  refine ⟨⟨hrd, ?_, ?_⟩, ?_⟩
  · intro p hp
    rcases List.mem_append.1 hp with hp | hp
    · obtain ⟨e, he, rfl⟩ := List.mem_map.1 hp
      exact (hnew e he).1
    · exact hobs p hp
  · intro i hi
    obtain ⟨e, he, rfl⟩ := List.mem_map.1 hi
    exact (hnew e he).2
  intro st' a w hn hp ⟨lab, loc, hR⟩ next Q hnext
  have hv := evs_pre (st' := st') hvs hp.1
  have hV := evs_V hR hv
  have hids := evs_ids hv
  have hnod := nodesOf_pre (st := st') (ob := obsOf st (.fn f caps :: as)) (fun p hp' => hp.2.1 p (List.mem_append_right _ hp'))
  have hnw : ∀ i nd, nodesOf (obsOf st (.fn f caps :: as)) i = some nd → ∃ b base, loc i = some (b, base) ∧ ObjOk w lab loc i nd b base := fun i nd hi => hR.objs i nd (hnod i nd hi)
  have hnew' : ∀ e ∈ po1, st'.obj e.2.1 = none ∧ e.2.1 ∉ st'.ids := fun e he =>
    ⟨hp.2.1 (e.2.1, none) (List.mem_append_left _ (List.mem_map.2 ⟨e, he, rfl⟩)), hp.2.2 e.2.1 (List.mem_map_of_mem he)⟩
  -- the operands
  have hops : o.op.operands.toList.map a.eval = a.eval fo :: c.args.toList.map a.eval := by rw [hop]; simp [Op.operands, Call.operands, hcal]
  rw [hops] at hV
  obtain ⟨hVf, hVas⟩ := hV.tail
  obtain ⟨us, hfo, hul, hur⟩ := hVf.inv_fn
  have hlen : (as ++ caps).length = (c.args.toList.map a.eval ++ us).length := by simp only [List.length_append]; rw [hVas.1, hul]
  have hvall : ∀ (i : Nat) x v, (as ++ caps)[i]? = some x → (c.args.toList.map a.eval ++ us)[i]? = some v → V w lab loc x v := by
    intro i x v hx hv
    rw [List.getElem?_append] at hx hv
    rw [← hVas.1] at hv
    split at hx
    · rename_i h; rw [if_pos h] at hv; exact hVas.2 i x v hx hv
    · rename_i h; rw [if_neg h] at hv; exact hur _ x v hx hv
  have hidall : ∀ i ∈ idsL (as ++ caps), i ∈ st'.ids ∧ i ∈ (obsOf st (.fn f caps :: as)).map (·.1) := by
    intro i hi
    rw [idsL_append, List.mem_append] at hi
    constructor
    · rcases hi with hi | hi
      · obtain ⟨y, hy, hk⟩ := mem_idsL' hi
        exact hids y (List.mem_cons_of_mem _ hy) i hk
      · exact hids (.fn f caps) List.mem_cons_self i (by simpa [AV.ids] using hi)
    · simp only [obsOf, List.map_map, List.mem_map, Function.comp]
      refine ⟨i, ?_, rfl⟩
      simp only [idsL, List.mem_append, AV.ids]
      rcases hi with hi | hi
      · exact Or.inr hi
      · exact Or.inl hi
  -- what the callee sees
  have hpl : ∀ e ∈ pl, look e.1 pl = some e.2 := fun e he => by simpa using hplan e he
  obtain ⟨hts, hT⟩ := frzAll_sound hnw (pl := pl) (ro := roOf ow 0 (as ++ caps)) (as ++ caps) _ 0 ts pl _ hfz hokc hlen hvall hpl (fun i hi => by
    have := hro i hi
    simp only [Option.isNone_iff_eq_none] at this
    exact ⟨this, hi⟩)
  have hfreshc : ∀ b, labC lab pl (roOf ow 0 (as ++ caps)) b ≠ none → b < w.heap.size := by
    intro b hb
    apply hR.fresh
    intro e; exact hb (labC_none e)
  obtain ⟨⟨fn, hfn, hbody, hname⟩, hcalls⟩ := hdc
  have hc := hcalls w (labC lab pl (roOf ow 0 (as ++ caps))) (c.args.toList.map a.eval ++ us) hts (fun k x v hx hv => by simpa using hT k x v hx hv) hfreshc
  -- the operation
  have hrun : (execOp a.eval o).run P w = .ok (.enter f ⟨c.args.toList.map a.eval ++ us⟩) w := by
    have hargs : (c.args.map a.eval ++ (⟨us⟩ : Array Value)) = ⟨c.args.toList.map a.eval ++ us⟩ := by apply Array.ext'; simp
    simp only [execOp, hop, resolve, hcal, hfo, Deferred.ofValue, invoke, Sem.run_bind, Sem.run_pure, Result.andThen_ok, Array.empty_append, callFunc, run_program, hfn, hname, Bool.false_eq_true, if_false, hbody, hargs]
  unfold Oper.wp
  rw [hrun]
  show Calls P f _ w _
  refine hc.mono ?_
  rintro en w' ⟨v, labq, rfl, hres, hmuts, hext, hfresh'⟩
  apply hnext
  -- the places
  have hlive : ∀ i ∈ idsL (as ++ caps), ∃ bb, loc i = some bb := by
    intro i hi
    obtain ⟨nd, hnd⟩ := Option.isSome_iff_exists.1 (hliv i hi)
    obtain ⟨b, base, hl, _⟩ := hnw i nd hnd
    exact ⟨_, hl⟩
  obtain ⟨L1, hP1, hS⟩ := thw_sound hthw hres
  obtain ⟨L2, hP2, hL2⟩ := gbAll_sound (w' := w') (labq := labq) hlive hlen hvall muts po2 hgb hmuts
  have hP := hP1.append hP2
  obtain ⟨labc, hlabc⟩ : ∃ l, l = labC lab pl (roOf ow 0 (as ++ caps)) := ⟨_, rfl⟩
  rw [← hlabc] at hext
  have hz := hext.size
  -- the labels that the callee saw
  have c1 : ∀ b, lab b = none → labc b = none := fun b h => by rw [hlabc]; exact labC_none h
  have c2 : ∀ b, labc b = none → lab b = none ∨ ∃ id p, lab b = some (.obj id, p) ∧ id ∈ roOf ow 0 (as ++ caps) := by
    intro b h
    rw [hlabc] at h
    unfold labC at h
    split at h
    · rename_i id p hl
      split at h
      · cases h
      · split at h
        · rename_i hin; exact Or.inr ⟨id, p, hl, hin⟩
        · cases h
    · rename_i hl; exact Or.inl hl
    · cases h
  have c3 : ∀ b id p, lab b = some (.obj id, p) → look id pl = none → labc b = none ∨ labc b = some (.tmp, []) := by
    intro b id p hl hp
    rw [hlabc]
    simp only [labC, hl, hp]
    split
    · exact Or.inl rfl
    · exact Or.inr rfl
  have c4 : ∀ b, still (lab b) → (lab b = none ∧ labc b = none) ∨ labc b = some (.tmp, []) := by
    intro b h
    cases hl : lab b with
    | none => exact Or.inl ⟨rfl, c1 b hl⟩
    | some l =>
      obtain ⟨r, p⟩ := l
      rw [hl] at h
      cases r with
      | tmp => right; rw [hlabc]; simp [labC, hl]
      | _ => exact h.elim
  have htmp : ∀ b, isTmp (labc b) = true → still (labc b) := by
    intro b h
    cases hl : labc b with
    | none => trivial
    | some l => obtain ⟨r, p⟩ := l; rw [hl] at h; cases r <;> first | trivial | (simp [isTmp] at h)
  obtain ⟨lab', hlab'⟩ : ∃ l, l = labB w lab labc labq (po1 ++ po2) := ⟨_, rfl⟩
  obtain ⟨loc', hloc'⟩ : ∃ l, l = locB loc (L1 ++ L2) pl := ⟨_, rfl⟩
  -- labels behind the call
  have b1 : ∀ b, b < w.heap.size → isTmp (labc b) = true → lab' b = lab b := by
    intro b hb ht; rw [hlab']; simp only [labB]; rw [if_pos ⟨hb, ht⟩]
  have b2 : ∀ b, b < w.heap.size → labc b = none → lab' b = lab b := by
    intro b hb hc
    have hq : labq b = none := by rw [(hext.kept b hb (by rw [hc]; trivial)).1, hc]
    rw [hlab']; simp only [labB]
    rw [if_neg (by rw [hc]; simp [isTmp]), hq]
    simp [hb, hc]
  have b3 : ∀ b, labq b = none → roOf ow 0 (as ++ caps) = [] → lab' b = none := by
    intro b hq hro0
    rw [hlab']; simp only [labB]
    rw [if_neg, hq]
    · simp only
      split
      · rename_i hh
        obtain ⟨hb, hc⟩ := hh
        rw [Option.isNone_iff_eq_none] at hc
        rcases c2 b hc with h | ⟨id, p, _, hin⟩
        · exact h
        · rw [hro0] at hin; cases hin
      · rfl
    · rintro ⟨hb, ht⟩
      have := (hext.kept b hb (htmp b ht)).1
      rw [← this, hq] at ht
      simp [isTmp] at ht
  have b4 : ∀ e ∈ po1 ++ po2, ∀ b q, labq b = some (e.1.app q) → lab' b = some (.obj e.2.1, q) := by
    intro e he b q hq
    rw [hlab']; simp only [labB]
    rw [if_neg, hq]
    · simp only [Lab.app]; exact findP_mem hap he q
    · rintro ⟨hb, ht⟩
      have h1 := (hext.kept b hb (htmp b ht)).1
      rw [← h1, hq] at ht
      have hr := hroot e he
      simp only [Lab.app, isTmp] at ht
      split at ht
      · rename_i hh
        simp only [Option.some.injEq, Prod.mk.injEq] at hh
        simp [hh.1] at hr
      · cases ht
  have hext' : Ext lab w lab' w' := by
    refine ⟨hext.size, hext.os, hext.out, ?_, hext.blk⟩
    intro b hb hs
    rcases c4 b hs with ⟨h1, h2⟩ | h1
    · exact ⟨b2 b hb h2, (hext.kept b hb (by rw [h2]; trivial)).2⟩
    · exact ⟨b1 b hb (by rw [h1]; rfl), (hext.kept b hb (by rw [h1]; trivial)).2⟩
  -- places
  have l1 : ∀ l ∈ L1 ++ L2, loc' l.1 = some l.2 := by
    intro l hl
    rw [hloc']; simp only [locB]
    rw [look_places hP hnodup hl]
  have l2 : ∀ i, look i (L1 ++ L2) = none → look i pl = none → loc' i = loc i := by
    intro i h1 h2; rw [hloc']; simp [locB, h1, h2]
  have l3 : ∀ i, look i (L1 ++ L2) = none → (look i pl).isSome = true → loc' i = none := by
    intro i h1 h2; rw [hloc']; simp [locB, h1, h2]
  have hL : ∀ i, i ∉ (po1 ++ po2).map (·.2.1) → look i (L1 ++ L2) = none := by
    intro i hi
    cases hl : look i (L1 ++ L2) with
    | none => rfl
    | some bb =>
      obtain ⟨e, he, h1, _⟩ := look_L_mem hP hl
      exact absurd (List.mem_map.2 ⟨e, he, h1⟩) hi
  -- what 'up' says
  have u1 : ∀ i, look i (((po1 ++ po2).map fun e => (e.2.1, some e.2.2)) ++ pl.map fun e => (e.1, (none : Option Node))) = none → i ∉ (po1 ++ po2).map (·.2.1) ∧ look i pl = none := by
    intro i hi
    rw [look_append] at hi
    constructor
    · intro hm
      obtain ⟨x, hx⟩ := look_map_some (l := (po1 ++ po2).map fun e => (e.2.1, some e.2.2)) (i := i) (by simpa [List.map_map, Function.comp] using hm)
      rw [hx] at hi; simp at hi
    · cases hp : look i pl with
      | none => rfl
      | some y =>
        obtain ⟨x, hx⟩ := look_map_some (l := pl.map fun e => (e.1, (none : Option Node))) (i := i) (by
          have := look_mem hp
          simp only [List.map_map, List.mem_map, Function.comp]
          exact ⟨(i, y), this, rfl⟩)
        rw [hx] at hi; simp at hi
  have u2 : ∀ i nd, look i (((po1 ++ po2).map fun e => (e.2.1, some e.2.2)) ++ pl.map fun e => (e.1, (none : Option Node))) = some (some nd) → ∃ e ∈ po1 ++ po2, e.2.1 = i ∧ e.2.2 = nd := by
    intro i nd hi
    have := look_mem hi
    rcases List.mem_append.1 this with h | h
    · obtain ⟨e, he, h2⟩ := List.mem_map.1 h
      simp only [Prod.mk.injEq, Option.some.injEq] at h2
      exact ⟨e, he, h2.1, h2.2⟩
    · obtain ⟨e, _, h2⟩ := List.mem_map.1 h
      simp at h2
  have u3 : ∀ i, look i (((po1 ++ po2).map fun e => (e.2.1, some e.2.2)) ++ pl.map fun e => (e.1, (none : Option Node))) = some none → i ∉ (po1 ++ po2).map (·.2.1) ∧ (look i pl).isSome = true := by
    intro i hi
    rw [look_append] at hi
    cases hA : look i ((po1 ++ po2).map fun e => (e.2.1, some e.2.2)) with
    | some y =>
      rw [hA] at hi; simp at hi; subst hi
      obtain ⟨e, _, h2⟩ := List.mem_map.1 (look_mem hA)
      simp at h2
    | none =>
      rw [hA] at hi
      constructor
      · intro hm
        obtain ⟨x, hx⟩ := look_map_some (l := (po1 ++ po2).map fun e => (e.2.1, some e.2.2)) (i := i) (by simpa [List.map_map, Function.comp] using hm)
        rw [hx] at hA; cases hA
      · simp only [Option.none_or] at hi
        obtain ⟨e, he, h2⟩ := List.mem_map.1 (look_mem hi)
        simp only [Prod.mk.injEq, and_true] at h2
        rw [← h2, hpl e he]; rfl
  refine ⟨lab', loc', hR.step _ (put_size _ _ _) (by rw [put_defers]; exact hR.defers) hext' ?_ ?_ ?_ ?_ ?_ ?_ ?_⟩
  · intro s hs
    exact put_other a v (look_wrD_none hs)
  · intro s y hs
    obtain ⟨hds, rfl⟩ := look_wrD_some hs
    rw [hds, put_same a v (by rw [hR.size]; exact dstOk_lt hdst hn s hds)]
    refine hS lab' loc' ?_ (fun l hl => l1 l (List.mem_append_left _ hl))
    rcases hown with h | h
    · exact Or.inr fun b _ hq => b3 b hq h
    · exact Or.inl h.1
  · intro i nd b base hi hu hl
    obtain ⟨h1, h2⟩ := u1 i hu
    refine ⟨by rw [l2 i (hL i h1) h2]; exact hl, fun b' q hb' hq => ?_⟩
    rcases c3 b' i q hq h2 with h3 | h3
    · exact ⟨b2 b' hb' h3, (hext.kept b' hb' (by rw [h3]; trivial)).2⟩
    · exact ⟨b1 b' hb' (by rw [h3]; rfl), (hext.kept b' hb' (by rw [h3]; trivial)).2⟩
  · intro i nd hu
    obtain ⟨e, he, rfl, rfl⟩ := u2 i nd hu
    obtain ⟨l, hl, h1, h2⟩ := places_of_mem hP he
    refine ⟨l.2.1, l.2.2, by rw [← h1]; exact l1 l hl, b4 e he _ [] (by rw [Lab.app_nil]; exact h2.hlab), h2.blk, h2.es, ?_⟩
    intro i c j y hi hj
    obtain ⟨v, hv, hT⟩ := h2.cells i c j y hi hj
    refine ⟨v, hv, Or.inr (hT.relab ?_ ?_)⟩
    · rcases hown with h | ⟨_, h⟩
      · exact Or.inr fun b _ hq => b3 b hq h
      · left
        have := h e he
        rw [owndLL_eq, List.all_eq_true] at this
        have := this c (List.mem_of_getElem? hi)
        rw [List.all_eq_true] at this
        exact this y (List.mem_of_getElem? hj)
    · intro b q _ hq
      rw [Lab.down_app] at hq
      exact b4 e he b _ hq
  · intro i hi
    rcases hi with hi | ⟨hi, ho⟩
    · obtain ⟨h1, h2⟩ := u3 i hi
      exact l3 i (hL i h1) h2
    · obtain ⟨h1, h2⟩ := u1 i hi
      rw [l2 i (hL i h1) h2]
      exact hR.dead i ho
  · intro b hb
    rw [hlab'] at hb
    simp only [labB] at hb
    split at hb
    · rename_i hh; exact Nat.lt_of_lt_of_le hh.1 hz
    · split at hb
      · rename_i r q hq
        exact hfresh' b (by rw [hq]; simp)
      · split at hb
        · rename_i hh; exact Nat.lt_of_lt_of_le hh.1 hz
        · exact absurd rfl hb
  · intro i hi b base hl
    cases hlk : look i (L1 ++ L2) with
    | some bb =>
      have hm := look_mem hlk
      have h1 := l1 _ hm
      simp only at h1
      rw [hl] at h1; cases h1
      rcases List.mem_append.1 hm with hm | hm
      · exfalso
        obtain ⟨k, hk⟩ := List.mem_iff_getElem?.1 hm
        have hk' : k < po1.length := by rw [← hP1.1]; exact (List.getElem?_eq_some_iff.1 hk).1
        have := (hP1.2 k po1[k] _ (List.getElem?_eq_getElem hk') hk).1
        exact (hnew' po1[k] (List.getElem_mem hk')).2 (by rw [← this]; exact hi)
      · exact hL2 _ hm
    | none =>
      cases hp : look i pl with
      | none => rw [l2 i hlk hp] at hl; exact hl
      | some y => rw [l3 i hlk (by rw [hp]; rfl)] at hl; cases hl
end snd

end Go.AM
