/- The abstract machine, part 17: a region run by its operations; what a piece of code leaves. -/
import Derived.Test.YtefkpiameojpoaaAm16
set_option linter.unusedVariables false
set_option linter.unusedSimpArgs false
namespace Go.AM

/-- holds fast what stands ahead of it -/
inductive Dep.{u} {α : Sort u} (x : α) : Type | mk

/-- two ways, by a bool -/
def Way (b want : Bool) (A B : Prop) (_ : Dep A) (_ : Dep B) : Prop := (b = want → A) ∧ (b = (!want) → B)
theorem Way_tt {A B : Prop} {dA : Dep A} {dB : Dep B} : Way true true A B dA dB = A := by simp [Way]
theorem Way_ff {A B : Prop} {dA : Dep A} {dB : Dep B} : Way false false A B dA dB = A := by simp [Way]
theorem Way_tf {A B : Prop} {dA : Dep A} {dB : Dep B} : Way true false A B dA dB = B := by simp [Way]
theorem Way_ft {A B : Prop} {dA : Dep A} {dB : Dep B} : Way false true A B dA dB = B := by simp [Way]
theorem Way_t {b : Bool} {A B : Prop} {dA : Dep A} {dB : Dep B} : Way b true A B dA dB = ((b = true → A) ∧ (b = false → B)) := by simp [Way]
theorem Way_f {b : Bool} {A B : Prop} {dA : Dep A} {dB : Dep B} : Way b false A B dA dB = ((b = false → A) ∧ (b = true → B)) := by simp [Way]

/-- a call: what is asked of the callee's contract, and what goes on -/
def CallK (P : Program) (o : Oper) (st : St) (ow : List Nat) (ci : CallIn) (vs : List AV) (k : Eff → Prop) (_ : Dep k) : Prop :=
  ∃ res muts, DC P ci.f ci.ts res muts ∧ ci.ok ∧ match callOut st o ow ci vs res muts with
    | some (e, ok) => ok ∧ k e
    | none => False

theorem CallK.intro {P : Program} {o : Oper} {st : St} {ow : List Nat} {ci : CallIn} {vs : List AV} {k : Eff → Prop} {d : Dep k} {res : AV} {muts : List (Nat × AV)} (h : DC P ci.f ci.ts res muts)
    (h2 : ci.ok ∧ match callOut st o ow ci vs res muts with
      | some (e, ok) => ok ∧ k e
      | none => False) : CallK P o st ow ci vs k d := ⟨res, muts, h, h2⟩

def opRun (P : Program) (ti : TI) (ow : List Nat) (o : Oper) (st : St) (id : Nat) (k : Eff → Prop) (_ : Dep k) : Prop :=
  match o.op with
  | .pick c a b => match opA st c with
    | some (.bool t) => dstOk st o.dst = true ∧
      Way t true (match opA st a with | some x => k { rd := rdOf st [c, a], wr := wrD o.dst x } | none => False)
        (match opA st b with | some x => k { rd := rdOf st [c, b], wr := wrD o.dst x } | none => False) .mk .mk
    | _ => False
  | _ => match callIn st o ow with
    | some ci => match evs st o.op.operands.toList with
      | some vs => CallK P o st ow ci vs k .mk
      | none => False
    | none => match opEff ti o st id with
      | some (e, ok) => ok ∧ k e
      | none => False

def gd (ops : Array Oper) (o : Oper) (st : St) : Option (Bool × Bool × List (Nat × AV)) :=
  match o.guard with
  | none => some (true, true, [])
  | some (j, want) => match (ops[j]?).bind (·.dst) with
    | some d => match st.slot d with
      | some (.bool b) => if d < st.n then some (b, want, [(d, .bool b)]) else none
      | some (.tup []) => if d < st.n then some (!want, want, [(d, .tup [])]) else none
      | _ => none
    | none => none

def grdE (g : List (Nat × AV)) (e : Eff) : Eff := { e with rd := g ++ e.rd }

def opsRun (P : Program) (ti : TI) (ow : Nat → List Nat) (ops : Array Oper) : List Nat → St → (List (Nat × Eff) → St → Prop) → Prop
  | [], st, k => k [] st
  | i :: rest, st, k => match ops[i]? with
    | none => False
    | some o => match gd ops o st with
      | none => False
      | some (b, want, grd) =>
        (b = want → opRun P ti (ow i) o st (o.dst.getD i) (fun e => opsRun P ti ow ops rest ((grdE grd e).apply st) fun es st' => k ((i, grdE grd e) :: es) st') .mk) ∧
        (b = (!want) → dstOk st o.dst = true ∧ opsRun P ti ow ops rest (Eff.apply { rd := grd, wr := wrD o.dst (.tup []) } st) fun es st' => k ((i, { rd := grd, wr := wrD o.dst (.tup []) }) :: es) st')

theorem bnot {b w : Bool} (h : ¬ b = w) : b = (!w) := by revert h; cases b <;> cases w <;> simp
theorem beq_not {b w : Bool} (h : ¬ b = w) : (b == w) = false := by revert h; cases b <;> cases w <;> simp

/-- the same, along the operations -/
def opsGo (P : Program) (ti : TI) (ow : Nat → List Nat) (ops : Array Oper) : Nat → List Oper → St → (k : List (Nat × Eff) → St → Prop) → Dep k → Prop
  | _, [], st, k, _ => k [] st
  | i, o :: rest, st, k, _ => match o.guard with
    | none => opRun P ti (ow i) o st (o.dst.getD i) (fun e => opsGo P ti ow ops (i + 1) rest (e.apply st) (fun es st' => k ((i, e) :: es) st') .mk) .mk
    | some g => match gd ops { o with guard := some g } st with
      | none => False
      | some (b, want, grd) => Way b want
        (opRun P ti (ow i) o st (o.dst.getD i) (fun e => opsGo P ti ow ops (i + 1) rest ((grdE grd e).apply st) (fun es st' => k ((i, grdE grd e) :: es) st') .mk) .mk)
        (dstOk st o.dst = true ∧ opsGo P ti ow ops (i + 1) rest (Eff.apply { rd := grd, wr := wrD o.dst (.tup []) } st) (fun es st' => k ((i, { rd := grd, wr := wrD o.dst (.tup []) }) :: es) st') .mk) .mk .mk

theorem opRun_k {P : Program} {ti : TI} {ow : List Nat} {o : Oper} {st : St} {id : Nat} {k k' : Eff → Prop} (h : k = k') : opRun P ti ow o st id k .mk = opRun P ti ow o st id k' .mk := by subst h; rfl

theorem opsGo_run {P : Program} {ti : TI} {ow : Nat → List Nat} {ops : Array Oper} : ∀ (l : List Oper) (i : Nat) (st : St) (k : List (Nat × Eff) → St → Prop), (∀ j : Nat, j < l.length → ops[i + j]? = l[j]?) →
    opsGo P ti ow ops i l st k .mk = opsRun P ti ow ops (List.range' i l.length) st k := by
  intro l
  induction l with
  | nil => intro i st k _; rfl
  | cons o rest ih =>
    intro i st k h
    have h0 := h 0 (by simp)
    simp only [Nat.add_zero, List.getElem?_cons_zero] at h0
    have hr : ∀ st k, opsGo P ti ow ops (i + 1) rest st k .mk = opsRun P ti ow ops (List.range' (i + 1) rest.length) st k := fun st k => ih (i + 1) st k fun j hj => by
      have := h (j + 1) (by simp; omega)
      rw [show i + 1 + j = i + (j + 1) by omega]; simpa using this
    rw [List.length_cons, List.range'_succ]
    simp only [opsGo, opsRun, h0]
    cases hg : o.guard with
    | none =>
      simp only [gd, hg]
      have e := opRun_k (P := P) (ti := ti) (ow := ow i) (o := o) (st := st) (id := o.dst.getD i) (k := fun e => opsGo P ti ow ops (i + 1) rest (e.apply st) (fun es st' => k ((i, e) :: es) st') .mk)
        (k' := fun e => opsRun P ti ow ops (List.range' (i + 1) rest.length) ((grdE [] e).apply st) fun es st' => k ((i, grdE [] e) :: es) st') (funext fun e => hr _ _)
      exact propext ⟨fun h => ⟨fun _ => Eq.mp e h, fun h => by cases h⟩, fun h => Eq.mpr e (h.1 trivial)⟩
    | some g =>
      have : ({ o with guard := some g } : Oper) = o := by cases o; simp at hg; simp [hg]
      simp only [this]
      cases gd ops o st with
      | none => rfl
      | some g =>
        obtain ⟨b, want, grd⟩ := g
        have e := opRun_k (P := P) (ti := ti) (ow := ow i) (o := o) (st := st) (id := o.dst.getD i) (k := fun e => opsGo P ti ow ops (i + 1) rest ((grdE grd e).apply st) (fun es st' => k ((i, grdE grd e) :: es) st') .mk)
          (k' := fun e => opsRun P ti ow ops (List.range' (i + 1) rest.length) ((grdE grd e).apply st) fun es st' => k ((i, grdE grd e) :: es) st') (funext fun e => hr _ _)
        simp only [Way, hr]
        exact propext ⟨fun h => ⟨fun hb => Eq.mp e (h.1 hb), h.2⟩, fun h => ⟨fun hb => Eq.mpr e (h.1 hb), h.2⟩⟩

theorem opsGo_all {P : Program} {ti : TI} {ow : Nat → List Nat} {ops : Array Oper} {st : St} {k : List (Nat × Eff) → St → Prop} (h : opsGo P ti ow ops 0 ops.toList st k .mk) : opsRun P ti ow ops (List.range ops.size) st k := by
  rw [opsGo_run _ _ _ _ (by intro j _; simp)] at h
  rw [List.range_eq_range']
  simpa using h

theorem opA_V {w0 : World} {lab0 : Labs} {st : St} {a : Act} {w : World} {lab : Labs} {loc : Locs} (h : RepL w0 lab0 st a w lab loc) {x : Operand} {y : AV} (he : opA st x = some y) : V w lab loc y (a.eval x) := by
  have := (evs_V (xs := [x]) (vs := [y]) h (by simp [evs, he])).2 0 y (a.eval x) rfl rfl
  exact this

theorem opA_pre {st st' : St} {x : Operand} {y : AV} (he : opA st x = some y) (hp : ∀ p ∈ rdOf st [x], st'.slot p.1 = some p.2) : opA st' x = some y := by
  have := evs_pre (st := st) (st' := st') (xs := [x]) (vs := [y]) (by simp [evs, he]) hp
  simp only [evs] at this
  split at this <;> first | (cases this; done) | skip
  rename_i z l hz hl
  simp at this hl
  rw [hz, this.1]

section
variable {P : Program} {ti : TI} (hT : TOk P ti) {w0 : World} {lab0 : Labs}

theorem rdOf_cons {st : St} {x : Operand} {xs : List Operand} : ∀ p, p ∈ rdOf st (x :: xs) ↔ p ∈ rdOf st [x] ∨ p ∈ rdOf st xs := by
  intro p
  cases x with
  | tmp t =>
    simp only [rdOf]
    split <;> simp
  | _ => simp [rdOf]

theorem pick_sound {o : Oper} {st : St} {c a b x : Operand} {t : Bool} {y : AV} (hop : o.op = .pick c a b) (hc : opA st c = some (.bool t)) (hx : x = if t then a else b)
    (hy : opA st x = some y) (hd : dstOk st o.dst = true) :
    Eff.pre { rd := rdOf st [c, x], wr := wrD o.dst y } st ∧ Sound P w0 lab0 st.n o { rd := rdOf st [c, x], wr := wrD o.dst y } := by
  refine ⟨⟨rdOf_self _, by simp, by simp⟩, ?_⟩
  intro st' ac w hn hp ⟨lab, loc, hR⟩ next Q hnext
  have hc' : opA st' c = some (.bool t) := opA_pre hc fun p hp' => hp.1 p ((rdOf_cons p).2 (.inl hp'))
  have hy' : opA st' x = some y := opA_pre hy fun p hp' => hp.1 p ((rdOf_cons p).2 (.inr hp'))
  have hcv := opA_V hR hc'
  have hyv := opA_V hR hy'
  have hcv' : ac.eval c = .bool t := hcv.inv_bool
  have hrun : (execOp ac.eval o).run P w = .ok (.value (ac.eval x)) w := by
    simp only [execOp, hop, hcv', asBool]
    subst hx
    cases t <;> simp
  unfold Oper.wp
  rw [hrun]
  exact hnext _ _ ⟨lab, loc, step_pure hR _ rfl rfl (dstOk_lt hd hn) hyv rfl rfl rfl⟩

include hT in
theorem opRun_sound {ow : List Nat} {o : Oper} {st : St} {id : Nat} {k : Eff → Prop} (h : opRun P ti ow o st id k .mk) : ∃ e, k e ∧ e.pre st ∧ Sound P w0 lab0 st.n o e := by
  unfold opRun at h
  split at h
  · rename_i c a b hop
    split at h <;> first | exact h.elim | skip
    rename_i t hc
    obtain ⟨hd, h1, h2⟩ := h
    cases t with
    | true =>
      have := h1 rfl
      split at this <;> first | exact this.elim | skip
      rename_i x hx
      exact ⟨_, this, pick_sound hop hc rfl hx hd⟩
    | false =>
      have := h2 rfl
      split at this <;> first | exact this.elim | skip
      rename_i x hx
      exact ⟨_, this, pick_sound hop hc rfl hx hd⟩
  · split at h
    · rename_i ci hci
      split at h <;> first | exact h.elim | skip
      rename_i vs hvs
      obtain ⟨res, muts, hdc, hok, h⟩ := h
      split at h <;> first | exact h.elim | skip
      rename_i e ok hco
      obtain ⟨h1, h2⟩ := h
      obtain ⟨h3, h4⟩ := call_sound (P := P) (w0 := w0) (lab0 := lab0) hci hok hdc hvs hco h1
      exact ⟨e, h2, h3, h4⟩
    split at h <;> first | exact h.elim | skip
    rename_i e ok he
    obtain ⟨h3, h4⟩ := opEff_sound (w0 := w0) (lab0 := lab0) hT he h.1
    exact ⟨e, h.2, h3, h4⟩

theorem gd_sound {ops : Array Oper} {o : Oper} {st st' : St} {b want : Bool} {grd : List (Nat × AV)} (h : gd ops o st = some (b, want, grd)) :
    (∀ p ∈ grd, st.slot p.1 = some p.2) ∧ ∀ a w, st'.n = st.n → (∀ p ∈ grd, st'.slot p.1 = some p.2) → Rep w0 lab0 st' a w → Region.wanted o (yielded ops a.tmps) = (b == want) := by
  unfold gd at h
  split at h
  · rename_i hg
    cases h
    exact ⟨by simp, fun a w _ _ _ => by simp [Region.wanted, hg]⟩
  · rename_i j want hg
    split at h <;> first | (cases h; done) | skip
    rename_i d hd
    split at h <;> first | (cases h; done) | skip
    · rename_i b' hb
      split at h <;> first | (cases h; done) | cases h
      rename_i hlt
      refine ⟨by simpa using hb, ?_⟩
      intro a w hn hp ⟨lab, loc, hR⟩
      have := hR.slots d (.bool b) (by simpa using hp)
      have hv := this.inv_bool
      have hlt' : d < a.tmps.size := by rw [hR.size, hn]; exact hlt
      have : a.tmps[d]? = some (.bool b) := by
        rw [Array.getElem?_eq_getElem hlt']
        simp [hlt'] at hv
        simp [hv]
      simp only [Region.wanted, hg, yielded, hd, Option.bind_some, this]
      cases b <;> cases want <;> rfl
    · rename_i hb
      split at h <;> first | (cases h; done) | cases h
      rename_i hlt
      refine ⟨by simpa using hb, ?_⟩
      intro a w hn hp ⟨lab, loc, hR⟩
      have := hR.slots d (.tup []) (by simpa using hp)
      obtain ⟨vs, hv, hl, _⟩ := this.inv_tup
      have hvs : vs = [] := by cases vs; rfl; simp at hl
      subst hvs
      have hlt' : d < a.tmps.size := by rw [hR.size, hn]; exact hlt
      have : a.tmps[d]? = some (.tuple #[]) := by
        rw [Array.getElem?_eq_getElem hlt']
        simp [hlt'] at hv
        simp [hv]
      simp only [Region.wanted, hg, yielded, hd, Option.bind_some, this]
      cases want <;> rfl

include hT in
theorem opsRun_sound {ow : Nat → List Nat} {ops : Array Oper} : ∀ (l : List Nat) (st : St) (k : List (Nat × Eff) → St → Prop), opsRun P ti ow ops l st k →
    ∃ es st', es.map (·.1) = l ∧ Chain P w0 lab0 ops st es st' ∧ k es st' := by
  intro l
  induction l with
  | nil => intro st k h; exact ⟨[], st, rfl, rfl, h⟩
  | cons i rest ih =>
    intro st k h
    simp only [opsRun] at h
    split at h <;> first | exact h.elim | skip
    rename_i o ho
    split at h <;> first | exact h.elim | skip
    rename_i b want grd hg
    obtain ⟨hg1, _⟩ := gd_sound (w0 := w0) (lab0 := lab0) (st' := st) hg
    by_cases hbw : b = want
    · obtain ⟨e, h1, h2, h3⟩ := opRun_sound hT (w0 := w0) (lab0 := lab0) (h.1 hbw)
      obtain ⟨es, st', h4, h5, h6⟩ := ih _ _ h1
      refine ⟨(i, grdE grd e) :: es, st', by simp [h4], ?_, h6⟩
      refine ⟨⟨?_, h2.2.1, h2.2.2⟩, ?_, h5⟩
      · intro p hp
        rcases List.mem_append.1 hp with hp | hp
        · exact hg1 p hp
        · exact h2.1 p hp
      · intro s a w hn hp hR rest' Q hnext
        have hp' : e.pre s := ⟨fun p hp' => hp.1 p (List.mem_append_right _ hp'), hp.2.1, hp.2.2⟩
        have hw := (gd_sound (w0 := w0) (lab0 := lab0) (st' := s) hg).2 a w hn (fun p hp' => hp.1 p (List.mem_append_left _ hp')) hR
        simp only [wpOps, ho, hw, hbw, beq_self_eq_true, if_true]
        exact .inl (h3 s a w hn hp' hR _ Q hnext)
    · have hbw' : b = (!want) := bnot hbw
      obtain ⟨hd, h1⟩ := h.2 hbw'
      obtain ⟨es, st', h4, h5, h6⟩ := ih _ _ h1
      refine ⟨_, st', ?_, ?_, h6⟩
      · simp [h4]
      refine ⟨⟨hg1, by simp, by simp⟩, ?_, h5⟩
      intro s a w hn hp hR rest' Q hnext
      have hw := (gd_sound (w0 := w0) (lab0 := lab0) (st' := s) hg).2 a w hn hp.1 hR
      have hw2 : (b == want) = false := beq_not hbw
      obtain ⟨lab, loc, hR⟩ := hR
      simp only [wpOps, ho, hw, hw2, Bool.false_eq_true, if_false]
      exact hnext _ _ ⟨lab, loc, step_pure hR _ rfl rfl (dstOk_lt hd hn) (.tup [] [] rfl (by intro j x y hx; simp at hx)) rfl rfl rfl⟩
end

/-! ### what is not written -/
def noWo (s : Nat) (o : Oper) : Bool := !decide (o.dst = some s)
def noW (s : Nat) : Code → Bool
  | .region _ ops _ => ops.all (noWo s)
  | .seq a b => noW s a && noW s b
  | .cond _ a b => noW s a && noW s b
  | .block _ b => noW s b
  | .loop b => noW s b
  | .skip => true
  | .exit _ => true
  | .ret => true
  | .label _ => true
  | _ => false

/-- the slots that a code does not write are as they were -/
def Pin (c : Code) (a : Act) (e : Exit) (a' : Act) : Prop := e = .outgrown ∨ ∀ s, noW s c = true → a'.tmps.getD s undef = a.tmps.getD s undef

theorem Pin.refl {c : Code} {a : Act} {e : Exit} : Pin c a e a := Or.inr fun _ _ => rfl

theorem upon_mono {P : Program} {o : Oper} {a : Act} {next next' : Act → World → Prop} {Q Q' : Exit → Act → World → Prop} {r : Result Next} (h : o.upon P a next Q r)
    (hn : ∀ v d w, next ({ a with defers := d }.put o.dst v) w → next' ({ a with defers := d }.put o.dst v) w) (hq : ∀ c w, Q (.panic c) a w → Q' (.panic c) a w) (ho : LetsOut Q → LetsOut Q') :
    o.upon P a next' Q' r := by
  cases r with
  | ok x w =>
    cases x with
    | value v => exact hn v a.defers w h
    | skip => exact hn undef a.defers w h
    | defer d => exact hn undef (d :: a.defers) w h
    | enter f args =>
      refine Calls.mono (P := P) (f := f) (args := args) (w := w) h ?_
      intro e w' he
      cases e with
      | returned v => exact hn v a.defers w' he
      | panicked ch => exact hq ch w' he
      | outgrown => exact ho he
    | row row args => exact Rows.mono (P := P) (row := row) (args := args) (w := w) h fun v w' hv => hn v a.defers w' hv
    | _ => exact False.elim h
  | halt x w =>
    cases x with
    | panic v => exact hq _ w h
    | _ => exact False.elim h

theorem put_getD {a : Act} {d : List Deferred} {dst : Option Tmp} {v : Value} {s : Nat} (h : dst ≠ some s) : ({ a with defers := d }.put dst v).tmps.getD s undef = a.tmps.getD s undef :=
  put_other { a with defers := d } v h

theorem wpOps_pin {P : Program} {ops : Array Oper} {Q : Exit → Act → World → Prop} (a0 : Act) : ∀ (l : List Nat) (a : Act) (w : World), (∀ s, ops.all (noWo s) = true → a.tmps.getD s undef = a0.tmps.getD s undef) →
    wpOps P ops Q l a w → wpOps P ops (fun e a' w' => Q e a' w' ∧ (e = .outgrown ∨ ∀ s, ops.all (noWo s) = true → a'.tmps.getD s undef = a0.tmps.getD s undef)) l a w := by
  intro l
  induction l with
  | nil => intro a w ha h; exact ⟨h, Or.inr ha⟩
  | cons i rest ih =>
    intro a w ha h
    simp only [wpOps] at h ⊢
    split at h
    · exact ih a w ha h
    · rename_i o hi
      have hput : ∀ v d s, ops.all (noWo s) = true → ({ a with defers := d }.put o.dst v).tmps.getD s undef = a0.tmps.getD s undef := by
        intro v d s hs
        rw [← ha s hs]
        apply put_getD
        obtain ⟨hlt, rfl⟩ := Array.getElem?_eq_some_iff.1 hi
        have := Array.all_eq_true.1 hs i hlt
        simpa [noWo] using this
      have hout : LetsOut Q → LetsOut (fun e a' w' => Q e a' w' ∧ (e = .outgrown ∨ ∀ s, ops.all (noWo s) = true → a'.tmps.getD s undef = a0.tmps.getD s undef)) := by
        rintro ⟨a1, w1, h1⟩; exact ⟨a1, w1, h1, Or.inl rfl⟩
      split at h
      · rename_i hw
        rw [if_pos hw]
        rcases h with h | h
        · exact Or.inl (upon_mono h (fun v d w' h' => ih _ _ (hput v d) h') (fun c w' h' => ⟨h', Or.inr ha⟩) hout)
        · exact Or.inr ⟨h.1, hout h.2⟩
      · rename_i hw
        rw [if_neg hw]
        exact ih _ _ (hput undef a.defers) h

/-! ### code -/
/-- what code leaves: it ends in a way, and in a state, that K takes -/
structure AW (P : Program) (c : Code) (st : St) (K : Exit → St → Prop) : Prop where
  go : ∀ w0 lab0 a w, Rep w0 lab0 st a w → c.wp P (fun e a' w' => (∃ st', K e st' ∧ Rep w0 lab0 st' a' w') ∧ Pin c a e a') a w

section
variable {P : Program} {ti : TI} {st : St} {K : Exit → St → Prop}

theorem AW.mono {c : Code} {K' : Exit → St → Prop} (h : AW P c st K) (hk : ∀ e s, K e s → K' e s) : AW P c st K' :=
  ⟨fun w0 lab0 a w hR => wp_mono (h.go w0 lab0 a w hR) fun _ _ _ ⟨⟨s, h1, h2⟩, h3⟩ => ⟨⟨s, hk _ _ h1, h2⟩, h3⟩⟩

theorem AW.less {c : Code} {st' : St} (hl : St.Less st st') (h : AW P c st' K) : AW P c st K :=
  ⟨fun w0 lab0 a w hR => h.go w0 lab0 a w (hR.less hl)⟩

theorem Rep.drawn {w0 : World} {lab0 : Labs} {a : Act} {w : World} (h : Rep w0 lab0 st a w) (n : Nat) : Rep w0 lab0 st a { w with drawn := n } := by
  obtain ⟨lab, loc, h⟩ := h
  have := step_pure (w' := { w with drawn := n }) (dst := none) (x := .undef) (v := undef) h {} rfl rfl (by simp) (.undef _) rfl rfl rfl
  exact ⟨lab, loc, this⟩

theorem AW.region (hT : TOk P ti) (ow : Nat → List Nat) {id : Nat} {ops : Array Oper} {draw : Bool} (h : opsRun P ti ow ops (List.range ops.size) st fun es s => (draw = true → drawOk ops es = true) ∧ K .normal s) :
    AW P (.region id ops draw) st K := by
  refine ⟨?_⟩
  intro w0 lab0 a w hR
  obtain ⟨es, s, h1, h2, h3, h4⟩ := opsRun_sound hT (w0 := w0) (lab0 := lab0) _ _ _ h
  cases draw with
  | false =>
    refine wp_region (wpOps_pin a _ _ _ (fun _ _ => rfl) ?_)
    rw [← h1]
    exact h2.sound hR fun a' w' hR' => ⟨s, h4, hR'⟩
  | true =>
    refine wp_region_draw fun t => ?_
    obtain ⟨es', s', h5, h6, h7⟩ := (drawOk_mix (h3 rfl) (P.follows .mixedOrders) t).chain h2
    refine wpOps_pin a _ _ _ (fun _ _ => rfl) ?_
    rw [← h5]
    exact h6.sound (hR.drawn _) fun a' w' hR' => ⟨s, h4, hR'.alike h7.symm⟩

theorem AW.skip (h : K .normal st) : AW P .skip st K := ⟨fun _ _ _ _ hR => wp_skip ⟨⟨st, h, hR⟩, .refl⟩⟩
theorem AW.exit {id : Nat} (h : K (.exit id) st) : AW P (.exit id) st K := ⟨fun _ _ _ _ hR => wp_exit ⟨⟨st, h, hR⟩, .refl⟩⟩
theorem AW.ret (h : K .ret st) : AW P .ret st K := ⟨fun _ _ _ _ hR => wp_ret ⟨⟨st, h, hR⟩, .refl⟩⟩
theorem AW.label {l : Nat} (h : K .normal st) : AW P (.label l) st K := ⟨fun _ _ _ _ hR => wp_label ⟨⟨st, h, hR⟩, .refl⟩⟩

def thenK (next : St → Prop) (K : Exit → St → Prop) : Exit → St → Prop
  | .normal, s => next s
  | e, s => K e s

theorem AW.seq {x y : Code} (h : AW P x st (thenK (fun s => AW P y s K) K)) : AW P (.seq x y) st K := by
  refine ⟨?_⟩
  intro w0 lab0 a w hR
  refine wp_seq (wp_mono (h.go w0 lab0 a w hR) ?_)
  rintro e a' w' ⟨⟨s, h1, h2⟩, h3⟩
  have hx : ∀ e', Pin x a e' a' → Pin (.seq x y) a e' a' := fun e' h => h.imp id fun h s hs => h s (by simp only [noW, Bool.and_eq_true] at hs; exact hs.1)
  cases e with
  | normal =>
    refine wp_mono (h1.go w0 lab0 a' w' h2) ?_
    rintro e2 a2 w2 ⟨h4, h5⟩
    refine ⟨h4, ?_⟩
    have h3 := h3.resolve_left (by simp)
    rcases h5 with h5 | h5
    · exact Or.inl h5
    · refine Or.inr fun s hs => ?_
      simp only [noW, Bool.and_eq_true] at hs
      rw [h5 s hs.2, h3 s hs.1]
  | _ => exact ⟨⟨s, h1, h2⟩, hx _ h3⟩

/-- one behind the other, by way of a state that says less -/
theorem AW.cut {x y : Code} (st1 : St) (h : AW P x st (thenK (fun s => St.Less s st1) K)) (h2 : AW P y st1 K) : AW P (.seq x y) st K := by
  refine AW.seq (h.mono ?_)
  intro e s hs
  cases e with
  | normal => exact h2.less hs
  | _ => exact hs

theorem AW.cond {c : Operand} {x y : Code} {t : Bool} (hc : opA st c = some (.bool t)) (ht : t = true → AW P x st K) (hf : t = false → AW P y st K) : AW P (.cond c x y) st K := by
  refine ⟨?_⟩
  intro w0 lab0 a w hR
  obtain ⟨lab, loc, hR'⟩ := hR
  refine wp_cond_split (opA_V hR' hc).inv_bool (fun h => wp_mono ((ht h).go w0 lab0 a w ⟨lab, loc, hR'⟩) ?_) (fun h => wp_mono ((hf h).go w0 lab0 a w ⟨lab, loc, hR'⟩) ?_)
  · rintro e a' w' ⟨h1, h2⟩
    exact ⟨h1, h2.imp id fun h s hs => h s (by simp only [noW, Bool.and_eq_true] at hs; exact hs.1)⟩
  · rintro e a' w' ⟨h1, h2⟩
    exact ⟨h1, h2.imp id fun h s hs => h s (by simp only [noW, Bool.and_eq_true] at hs; exact hs.2)⟩

def blockK (id : Nat) (K : Exit → St → Prop) : Exit → St → Prop
  | .exit i, s => if i = id then K .normal s else K (.exit i) s
  | e, s => K e s

theorem AW.block {id : Nat} {c : Code} (h : AW P c st (blockK id K)) : AW P (.block id c) st K := by
  refine ⟨?_⟩
  intro w0 lab0 a w hR
  refine wp_block (wp_mono (h.go w0 lab0 a w hR) ?_)
  rintro e a' w' ⟨⟨s, h1, h2⟩, h3⟩
  cases e with
  | exit i =>
    have h3' := h3.resolve_left (by simp)
    simp only [blockK] at h1
    simp only [Exit.inBlock]
    split
    · rename_i hi; rw [if_pos hi] at h1; exact ⟨⟨s, h1, h2⟩, Or.inr h3'⟩
    · rename_i hi; rw [if_neg hi] at h1; exact ⟨⟨s, h1, h2⟩, Or.inr h3'⟩
  | _ => exact ⟨⟨s, h1, h2⟩, h3⟩

/-- a loop: states of a family; each round goes on with a smaller one or leaves -/
theorem AW.loop {ι : Type} (S : ι → St) (KK : ι → Exit → St → Prop) (μ : ι → Nat) {c : Code}
    (h : ∀ i, AW P c (S i) (thenK (fun s => ∃ j, μ j < μ i ∧ St.Less s (S j) ∧ ∀ e s, KK j e s → KK i e s) (KK i))) (i : ι) : AW P (.loop c) (S i) (KK i) := by
  refine ⟨?_⟩
  intro w0 lab0 a w hR b k cs
  have key : ∀ n i a w, μ i = n → Rep w0 lab0 (S i) a w →
      ∃ e a' w', ((∃ st', KK i e st' ∧ Rep w0 lab0 st' a' w') ∧ Pin c a e a') ∧ Arrives P (lone (b.at a (.code c :: .inLoop c :: k)) cs w) b k cs e a' w' := by
    intro n
    induction n using Nat.strongRecOn with
    | _ n ih =>
      intro i a w hn hR
      obtain ⟨e, a₁, w₁, hq, harr⟩ := (h i).go w0 lab0 a w hR b (.inLoop c :: k) cs
      obtain ⟨⟨s, h1, h2⟩, h9⟩ := hq
      cases e with
      | normal =>
        obtain ⟨j, hlt, hl, hk⟩ := h1
        obtain ⟨e₂, a₂, w₂, ⟨⟨s2, h3, h4⟩, h5⟩, harr₂⟩ := ih (μ j) (hn ▸ hlt) j a₁ w₁ rfl (h2.less hl)
        have h9 := h9.resolve_left (by simp)
        exact ⟨e₂, a₂, w₂, ⟨⟨s2, hk _ _ h3, h4⟩, h5.imp id fun h s hs => by rw [h s hs, h9 s hs]⟩, .of_steps (Steps.trans harr (.one step_inLoop)) harr₂⟩
      | exit id => exact ⟨_, a₁, w₁, ⟨⟨s, h1, h2⟩, h9⟩, .pass (x := .inLoop c) rfl (fun _ _ => .inl (by simp)) harr⟩
      | goto l => exact ⟨_, a₁, w₁, ⟨⟨s, h1, h2⟩, h9⟩, .pass (x := .inLoop c) rfl (fun _ _ => .inl (by simp)) harr⟩
      | ret => exact ⟨_, a₁, w₁, ⟨⟨s, h1, h2⟩, h9⟩, .pass (x := .inLoop c) rfl (fun _ _ => .inl (by simp)) harr⟩
      | panic ch => exact ⟨_, a₁, w₁, ⟨⟨s, h1, h2⟩, h9⟩, .pass (x := .inLoop c) rfl (fun _ _ => .inl (by simp)) harr⟩
      | outgrown => exact ⟨_, a₁, w₁, ⟨⟨s, h1, h2⟩, h9⟩, .pass (x := .inLoop c) rfl (fun _ _ => .inl (by simp)) harr⟩
  obtain ⟨e, a', w', ⟨hq, hp⟩, harr⟩ := key _ i a w rfl hR
  exact ⟨e, a', w', ⟨hq, hp.imp id fun h s hs => h s (by simpa [noW] using hs)⟩, .of_steps (.one step_loop) harr⟩

theorem Less.of {st' : St} (hn : st'.n = st.n) (hs : ∀ p ∈ st'.slots, st.slot p.1 = some p.2) (ho : ∀ p ∈ st'.objs, ∀ nd, p.2 = some nd → st.obj p.1 = some nd) : St.Less st st' :=
  ⟨hn, fun s x hx => hs (s, x) (look_mem hx), fun i nd hi => ho (i, some nd) (look_mem (obj_look hi)) nd rfl⟩
end

end Go.AM
