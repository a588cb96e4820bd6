/- The abstract machine, part 11: an operation's effect, and that it tells the truth. -/
import Derived.Test.YtefkpiameojpoaaAm10
set_option linter.unusedVariables false
set_option linter.unusedSimpArgs false
namespace Go.AM

def opA (st : St) : Operand → Option AV
  | .tmp t => st.slot t
  | .const v => ofV v
  | .func f => some (.fn f [])
  | .global _ => none

def rdOf (st : St) : List Operand → List (Nat × AV)
  | [] => []
  | .tmp t :: r => match st.slot t with
    | some x => (t, x) :: rdOf st r
    | none => rdOf st r
  | _ :: r => rdOf st r

def evs (st : St) : List Operand → Option (List AV)
  | [] => some []
  | x :: r => match opA st x, evs st r with
    | some y, some l => some (y :: l)
    | _, _ => none

def obsOf (st : St) (vs : List AV) : List (Nat × Option Node) := (idsL vs).map fun i => (i, st.obj i)
def nodesOf (ob : List (Nat × Option Node)) (i : Nat) : Option Node := (look i ob).join

def dstOk (st : St) : Option Nat → Bool
  | some d => decide (d < st.n)
  | none => true

theorem evs_pre {st st' : St} {xs : List Operand} {vs : List AV} (h : evs st xs = some vs) (hp : ∀ p ∈ rdOf st xs, st'.slot p.1 = some p.2) : evs st' xs = some vs := by
  induction xs generalizing vs with
  | nil => exact h
  | cons x xs ih =>
    simp only [evs] at h ⊢
    split at h <;> first | (cases h; done) | cases h
    rename_i y l hy hl
    have hx : opA st' x = some y := by
      cases x with
      | tmp t => exact hp (t, y) (by simp only [opA] at hy; simp [rdOf, hy])
      | const v => exact hy
      | func f => exact hy
      | global g => exact hy
    have hr := ih hl (fun p hp' => hp p (by
      cases x with
      | tmp t => simp only [opA] at hy; simp only [rdOf, hy]; exact List.mem_cons_of_mem _ hp'
      | const v => exact hp'
      | func f => exact hp'
      | global g => exact hp'))
    simp [hx, hr]

theorem rdOf_self {st : St} (xs : List Operand) : ∀ p ∈ rdOf st xs, st.slot p.1 = some p.2 := by
  induction xs with
  | nil => intro p hp; cases hp
  | cons x xs ih =>
    intro p hp
    cases x with
    | tmp t =>
      simp only [rdOf] at hp
      split at hp
      · rename_i y hy
        rcases List.mem_cons.1 hp with rfl | hp
        · exact hy
        · exact ih p hp
      · exact ih p hp
    | const v => exact ih p hp
    | func f => exact ih p hp
    | global g => exact ih p hp

section
variable {w0 : World} {lab0 : Labs} {st : St} {a : Act} {w : World} {lab : Labs} {loc : Locs}

theorem evs_V (h : RepL w0 lab0 st a w lab loc) {xs : List Operand} {vs : List AV} (he : evs st xs = some vs) : OpsV w lab loc vs (xs.map a.eval) := by
  induction xs generalizing vs with
  | nil => simp [evs] at he; subst he; exact ⟨rfl, by intro j x y hx; simp at hx⟩
  | cons x xs ih =>
    simp only [evs] at he
    split at he <;> first | (cases he; done) | cases he
    rename_i y l hy hl
    obtain ⟨h1, h2⟩ := ih hl
    have hx : V w lab loc y (a.eval x) := by
      cases x with
      | tmp t => exact h.slots t y hy
      | const v => exact .imm _ _ (ofV_sound hy)
      | func f => simp only [opA] at hy; cases hy; exact .fn f [] [] rfl (by intro j x y hx; simp at hx)
      | global g => cases hy
    refine ⟨by simp [h1], ?_⟩
    intro j u v hu hv
    cases j with
    | zero => simp at hu hv; subst hu; subst hv; exact hx
    | succ j => exact h2 j u v (by simpa using hu) (by simpa using hv)

theorem evs_ids {xs : List Operand} {vs : List AV} (he : evs st xs = some vs) : ∀ x ∈ vs, ∀ k ∈ x.ids, k ∈ st.ids := by
  induction xs generalizing vs with
  | nil => simp [evs] at he; subst he; intro x hx; cases hx
  | cons x xs ih =>
    simp only [evs] at he
    split at he <;> first | (cases he; done) | cases he
    rename_i y l hy hl
    intro z hz k hk
    rcases List.mem_cons.1 hz with rfl | hz
    · cases x with
      | tmp t => exact ids_of_slot hy hk
      | const v => rw [(ofV_sound (w := default) (lab := fun _ => none) hy).ids] at hk; cases hk
      | func f => simp only [opA] at hy; cases hy; simp [AV.ids, idsL] at hk
      | global g => cases hy
    · exact ih hl z hz k hk

theorem nodesOf_pre {ob : List (Nat × Option Node)} (h : ∀ p ∈ ob, st.obj p.1 = p.2) : ∀ i nd, nodesOf ob i = some nd → st.obj i = some nd := by
  intro i nd hi
  unfold nodesOf at hi
  cases hl : look i ob with
  | none => simp [hl] at hi
  | some o =>
    simp [hl] at hi
    subst hi
    exact h (i, some nd) (look_mem hl)
end

/-- what is moved is not looked into -/
def obF : Op → List (Nat × Option Node) → List (Nat × Option Node)
  | .move _, _ => []
  | .assign _, _ => []
  | _, l => l
theorem obF_sub {op : Op} {l : List (Nat × Option Node)} : ∀ p ∈ obF op l, p ∈ l := by
  intro p hp
  unfold obF at hp
  split at hp <;> first | (cases hp; done) | exact hp
theorem obF_or (ti : TI) (nodes : Nat → Option Node) (op : Op) (vs : List AV) (l : List (Nat × Option Node)) : obF op l = l ∨ evalP ti nodes op vs = evalP ti (fun _ => none) op vs := by
  cases op <;> first | exact Or.inl rfl | exact Or.inr rfl

/-- an operation that calls nothing: its effect, and what it asks -/
def opEff (ti : TI) (o : Oper) (st : St) (id : Nat) : Option (Eff × Prop) :=
  match evs st o.op.operands.toList with
  | none => none
  | some vs =>
    if dstOk st o.dst then
      match evalP ti (nodesOf (obsOf st vs)) o.op vs with
      | some (x, ok) => some ({ rd := rdOf st o.op.operands.toList, ob := obF o.op (obsOf st vs), wr := wrD o.dst x }, ok)
      | none =>
        match newA ti (nodesOf (obsOf st vs)) id o.op vs with
        | some (nd, x, ok) => some ({ rd := rdOf st o.op.operands.toList, ob := (id, none) :: obsOf st vs, new := [id], wr := wrD o.dst x, up := [(id, some nd)] }, ok ∧ st.obj id = none ∧ id ∉ st.ids)
        | none =>
          match appA ti (nodesOf (obsOf st vs)) id o.op vs with
          | some (old, nd, x, ok) => some ({ rd := rdOf st o.op.operands.toList, ob := (id, none) :: obsOf st vs, new := [id], wr := wrD o.dst x, up := [(id, some nd), (old, none)] }, ok ∧ st.obj id = none ∧ id ∉ st.ids)
          | none =>
            match o.op with
            | .store t _ _ => match storeA ti (nodesOf (obsOf st vs)) t vs with
              | some (i, nd, ok) => some ({ rd := rdOf st o.op.operands.toList, ob := obsOf st vs, wr := wrD o.dst .undef, up := [(i, some nd)] }, ok)
              | none => none
            | _ => none
    else none

/-- an operation tells its effect rightly, wherever what it looks at is as told -/
def Sound (P : Program) (w0 : World) (lab0 : Labs) (n : Nat) (o : Oper) (e : Eff) : Prop :=
  ∀ st a w, st.n = n → e.pre st → Rep w0 lab0 st a w → ∀ (next : Act → World → Prop) (Q : Exit → Act → World → Prop), (∀ a' w', Rep w0 lab0 (e.apply st) a' w' → next a' w') → o.wp P a w next Q

section snd
variable {P : Program} {ti : TI} (hT : TOk P ti) {w0 : World} {lab0 : Labs}

theorem dstOk_lt {st st' : St} {dst : Option Nat} (h : dstOk st dst = true) (hn : st'.n = st.n) : ∀ d, dst = some d → d < st'.n := by
  intro d hd; subst hd; rw [hn]; simpa [dstOk] using h

include hT in
theorem opEff_sound {o : Oper} {st : St} {id : Nat} {e : Eff} {ok : Prop} (h : opEff ti o st id = some (e, ok)) (hok : ok) : e.pre st ∧ Sound P w0 lab0 st.n o e := by
  unfold opEff at h
  split at h <;> first | (cases h; done) | skip
  rename_i vs hvs
  split at h <;> first | (cases h; done) | skip
  rename_i hdst
  have hobs : ∀ p ∈ obsOf st vs, st.obj p.1 = p.2 := by
    intro p hp
    unfold obsOf at hp
    obtain ⟨i, _, rfl⟩ := List.mem_map.1 hp; rfl
  have hrd := rdOf_self (st := st) o.op.operands.toList
  -- the parts that all share
  have sh : ∀ {e : Eff} {st' : St} {a w lab loc}, e.rd = rdOf st o.op.operands.toList → (∀ p ∈ obsOf st vs, p ∈ e.ob) → e.pre st' → RepL w0 lab0 st' a w lab loc →
      OpsV w lab loc vs (o.op.operands.toList.map a.eval) ∧ (∀ i nd, nodesOf (obsOf st vs) i = some nd → st'.obj i = some nd) ∧ (∀ x ∈ vs, ∀ k ∈ x.ids, k ∈ st'.ids) := by
    intro e st' a w lab loc he1 he2 hp hR
    have hv := evs_pre (st' := st') hvs (by rw [← he1]; exact hp.1)
    exact ⟨evs_V hR hv, nodesOf_pre (fun p hp' => hp.2.1 p (he2 p hp')), evs_ids hv⟩
  split at h
  · cases h
    rename_i x hev
    refine ⟨⟨hrd, fun p hp => hobs p (obF_sub p hp), by simp⟩, ?_⟩
    intro st' a w hn hp ⟨lab, loc, hR⟩ next Q hnext
    obtain ⟨v, hr, hV⟩ : ∃ v, (execOp a.eval o).run P w = .ok (.value v) w ∧ V w lab loc x v := by
      rcases obF_or ti (nodesOf (obsOf st vs)) o.op vs (obsOf st vs) with h1 | h1
      · obtain ⟨hv, hnod, _⟩ := sh (e := { rd := rdOf st o.op.operands.toList, ob := obF o.op (obsOf st vs), wr := wrD o.dst x }) rfl (fun p hp => by rw [h1]; exact hp) hp hR
        exact evalP_sound hT (fun i nd hi => hR.objs i nd (hnod i nd hi)) hev hok hv
      · rw [h1] at hev
        have hv := evs_pre (st' := st') hvs hp.1
        exact evalP_sound hT (nodes := fun _ => none) (fun i nd hi => by cases hi) hev hok (evs_V hR hv)
    unfold Oper.wp
    rw [hr]
    exact hnext _ _ ⟨lab, loc, step_pure hR _ rfl rfl (dstOk_lt hdst hn) hV rfl rfl rfl⟩
  · split at h
    · cases h
      rename_i nd x ok' hnew
      obtain ⟨hok1, hid, hni⟩ := hok
      refine ⟨⟨hrd, by intro p hp; rcases List.mem_cons.1 hp with rfl | hp; exact hid; exact hobs p hp, by simpa using hni⟩, ?_⟩
      intro st' a w hn hp ⟨lab, loc, hR⟩ next Q hnext
      obtain ⟨hv, hnod, hids⟩ := sh (e := { rd := rdOf st o.op.operands.toList, ob := (id, none) :: obsOf st vs, new := [id], wr := wrD o.dst x, up := [(id, some nd)] }) rfl (fun p hp => List.mem_cons_of_mem _ hp) hp hR
      have hid' : st'.obj id = none := hp.2.1 (id, none) List.mem_cons_self
      have hni' : id ∉ st'.ids := hp.2.2 id (by simp)
      obtain ⟨⟨v, w', c, ty, fz, hr, h1, h2, h3, h4, h5, h6, h7⟩, h8, h9⟩ := newA_sound hT (fun i nd hi => hR.objs i nd (hnod i nd hi)) hnew hok1 hv
      unfold Oper.wp
      rw [hr]
      refine hnext _ _ ⟨_, _, step_new hR _ rfl rfl (dstOk_lt hdst hn) h1 h2 h3 h4 hni' ?_ hid' h8 h5 ?_ h7⟩
      · intro hk
        rcases h9 id hk with ⟨y, hy, hk⟩ | ⟨i, n, hi, hk⟩
        · exact hni' (hids y hy id hk)
        · exact hni' (ids_of_obj (hnod i n hi) hk)
      · intro i cc j y hi hj
        obtain ⟨u, hu, hV⟩ := h6 i cc j y hi hj
        exact ⟨u, by simpa using hu, hV⟩
    · split at h
      · cases h
        rename_i old nd x ok' happ
        obtain ⟨hok1, hid, hni⟩ := hok
        refine ⟨⟨hrd, by intro p hp; rcases List.mem_cons.1 hp with rfl | hp; exact hid; exact hobs p hp, by simpa using hni⟩, ?_⟩
        intro st' a w hn hp ⟨lab, loc, hR⟩ next Q hnext
        obtain ⟨hv, hnod, hids⟩ := sh (e := { rd := rdOf st o.op.operands.toList, ob := (id, none) :: obsOf st vs, new := [id], wr := wrD o.dst x, up := [(id, some nd), (old, none)] }) rfl (fun p hp => List.mem_cons_of_mem _ hp) hp hR
        have hid' : st'.obj id = none := hp.2.1 (id, none) List.mem_cons_self
        have hni' : id ∉ st'.ids := hp.2.2 id (by simp)
        obtain ⟨v, w', hr, hR'⟩ := appA_sound hT hR hnod happ hok1 hv { rd := rdOf st o.op.operands.toList, ob := (id, none) :: obsOf st vs, new := [id], wr := wrD o.dst x, up := [(id, some nd), (old, none)] } rfl rfl (dstOk_lt hdst hn) hni' hid'
        unfold Oper.wp
        rw [hr]
        exact hnext _ _ hR'
      · split at h <;> first | (cases h; done) | skip
        rename_i t x y hop
        split at h <;> first | (cases h; done) | cases h
        rename_i i nd hst
        refine ⟨⟨hrd, hobs, by simp⟩, ?_⟩
        intro st' a w hn hp ⟨lab, loc, hR⟩ next Q hnext
        obtain ⟨hv, hnod, hids⟩ := sh (e := { rd := rdOf st o.op.operands.toList, ob := obsOf st vs, wr := wrD o.dst .undef, up := [(i, some nd)] }) rfl (fun p hp => hp) hp hR
        rw [hop] at hv
        simp only [Op.operands, List.map_cons, List.map_nil] at hv
        obtain ⟨w', hr, hR'⟩ := storeA_sound hT hR hop hnod hst hok hv { rd := rdOf st o.op.operands.toList, ob := obsOf st vs, wr := wrD o.dst .undef, up := [(i, some nd)] } rfl rfl (dstOk_lt hdst hn)
        unfold Oper.wp
        rw [hr]
        exact hnext _ _ ⟨lab, loc, hR'⟩
end snd

end Go.AM
