/- The abstract machine, part 20: how a walk goes on, step by step. -/
import Derived.Test.YtefkpiameojpoaaAm19
set_option linter.unusedVariables false
set_option linter.unusedSimpArgs false
namespace Go.AM

def keepS (st : St) : List Nat → List (Nat × AV)
  | [] => []
  | s :: ks => match st.slot s with
    | some x => (s, x) :: keepS st ks
    | none => keepS st ks

def compact : List Nat → List (Nat × Option Node) → List (Nat × Option Node)
  | _, [] => []
  | seen, (i, o) :: r => if seen.contains i then compact seen r else match o with
    | some nd => (i, some nd) :: compact (i :: seen) r
    | none => compact (i :: seen) r

/-- the objects that may be reached from some ids -/
def gcO : Nat → List Nat → List (Nat × Option Node) → List (Nat × Option Node)
  | 0, seeds, l => l.filter fun p => seeds.contains p.1
  | k + 1, seeds, l => gcO k (seeds ++ objIds (l.filter fun p => seeds.contains p.1)) l

theorem gcO_sub : ∀ (k : Nat) (seeds : List Nat) (l : List (Nat × Option Node)) {i : Nat} {nd : Node}, look i (gcO k seeds l) = some (some nd) → (i, some nd) ∈ l := by
  intro k
  induction k with
  | zero => intro seeds l i nd h; exact (List.mem_filter.1 (look_mem h)).1
  | succ k ih =>
    intro seeds l i nd h
    exact ih _ _ h

theorem compact_keys {l : List (Nat × Option Node)} : ∀ {seen : List Nat} {i : Nat} {nd : Node}, (i, some nd) ∈ compact seen l → look i (compact seen l) = some (some nd) := by
  induction l with
  | nil => intro seen i nd h; simp [compact] at h
  | cons p l ih =>
    obtain ⟨k, o⟩ := p
    intro seen i nd h
    have hseen : ∀ {l : List (Nat × Option Node)} {seen : List Nat} {i : Nat} {nd : Node}, (i, some nd) ∈ compact seen l → i ∉ seen := by
      intro l
      induction l with
      | nil => intro seen i nd h; simp [compact] at h
      | cons q l ih =>
        obtain ⟨k, o⟩ := q
        intro seen i nd h
        simp only [compact] at h
        split at h
        · exact ih h
        · rename_i hk
          cases o with
          | none =>
            have := ih h
            simp only [List.mem_cons, not_or] at this
            exact this.2
          | some m =>
            rcases List.mem_cons.1 h with h | h
            · cases h; simpa using hk
            · have := ih h
              simp only [List.mem_cons, not_or] at this
              exact this.2
    simp only [compact] at h ⊢
    split at h
    · rename_i hk; rw [if_pos hk]; exact ih h
    · rename_i hk
      rw [if_neg hk]
      cases o with
      | none => exact ih h
      | some m =>
        simp only [look]
        rcases List.mem_cons.1 h with h | h
        · cases h; rw [if_pos rfl]
        · have hne := hseen h
          simp only [List.mem_cons, not_or] at hne
          rw [if_neg hne.1]
          exact ih h

def St.keep (ks : List Nat) (st : St) : St := ⟨st.n, keepS st ks, gcO 2 (slotIds (keepS st ks)) (compact [] st.objs)⟩

theorem look_keepS {st : St} {ks : List Nat} {s : Nat} {x : AV} (h : look s (keepS st ks) = some x) : st.slot s = some x := by
  induction ks with
  | nil => cases h
  | cons k ks ih =>
    simp only [keepS] at h
    split at h
    · rename_i y hy
      simp only [look] at h
      split at h
      · rename_i e; subst e; cases h; exact hy
      · exact ih h
    · exact ih h

theorem look_compact {l : List (Nat × Option Node)} {seen : List Nat} {i : Nat} {nd : Node} (h : look i (compact seen l) = some (some nd)) : i ∉ seen ∧ look i l = some (some nd) := by
  induction l generalizing seen with
  | nil => cases h
  | cons p l ih =>
    obtain ⟨k, o⟩ := p
    simp only [compact] at h
    simp only [look]
    split at h
    · rename_i hk
      obtain ⟨h1, h2⟩ := ih h
      refine ⟨h1, ?_⟩
      rw [if_neg]
      · exact h2
      · rintro rfl; exact h1 (by simpa using hk)
    · rename_i hk
      cases o with
      | none =>
        obtain ⟨h1, h2⟩ := ih h
        simp only [List.mem_cons, not_or] at h1
        exact ⟨h1.2, by rw [if_neg h1.1]; exact h2⟩
      | some m =>
        simp only [look] at h
        split at h
        · rename_i e; subst e; cases h
          exact ⟨by simpa using hk, by rw [if_pos rfl]⟩
        · rename_i e
          obtain ⟨h1, h2⟩ := ih h
          simp only [List.mem_cons, not_or] at h1
          exact ⟨h1.2, by rw [if_neg e]; exact h2⟩

theorem less_keep (ks : List Nat) (st : St) : St.Less st (st.keep ks) :=
  ⟨rfl, fun _ _ h => look_keepS h, fun i nd h => by
    have := compact_keys (gcO_sub _ _ _ (obj_look h))
    have h2 := (look_compact this).2
    simp [St.obj, h2]⟩

def St.keep0 (ks : List Nat) (st : St) : St := ⟨st.n, keepS st ks, compact [] st.objs⟩
theorem less_keep0 (ks : List Nat) (st : St) : St.Less st (st.keep0 ks) :=
  ⟨rfl, fun _ _ h => look_keepS h, fun i nd h => by
    have := obj_look h
    have h2 := (look_compact this).2
    simp [St.obj, h2]⟩

/-- the check of a drawn region, shut -/
def Chk (draw : Bool) (ops : Array Oper) (es : List (Nat × Eff)) : Prop := draw = true → drawOk ops es = true
theorem Chk.no {ops : Array Oper} {es : List (Nat × Eff)} : Chk false ops es := fun h => by cases h
theorem Chk.keys {ops : Array Oper} {es : List (Nat × Eff)} (h : drawK ops (es.map kOf) = true) : Chk true ops es := fun _ => drawK_ok h
theorem Chk.yes {ops : Array Oper} {es : List (Nat × Eff)} (h : drawOk ops es = true) : Chk true ops es := fun _ => h

section
variable {P : Program} {ti : TI} {st : St} {K : Exit → St → Prop}

/-- a region, then more; what is kept of the slots -/
theorem AW.reg (hT : TOk P ti) (ow : Nat → List Nat) (ks : List Nat) {id : Nat} {ops : Array Oper} {draw : Bool} {y : Code}
    (h : ∀ k : St → Prop, (∀ s, AW P y s K → k s) → opsGo P ti ow ops 0 ops.toList st (fun es s => Chk draw ops es ∧ k (s.keep ks)) .mk) : AW P (.seq (.region id ops draw) y) st K := by
  refine AW.seq ((AW.region hT ow (K := thenK (fun s => AW P y (s.keep ks) K) K) (opsGo_all (h (fun s => AW P y s K) fun s h => h))).mono ?_)
  intro e s hs
  cases e with
  | normal => exact AW.less (less_keep ks s) hs
  | _ => exact hs

/-- a region at the end of a piece -/
theorem AW.regN (hT : TOk P ti) (ow : Nat → List Nat) (ks : List Nat) {id : Nat} {ops : Array Oper} {draw : Bool} {y : Code} {K' : Exit → St → Prop} (hK : ∀ s, AW P y s K' → K .normal s)
    (h : ∀ k : St → Prop, (∀ s, AW P y s K' → k s) → opsGo P ti ow ops 0 ops.toList st (fun es s => Chk draw ops es ∧ k (s.keep ks)) .mk) : AW P (.region id ops draw) st K := by
  refine (AW.region hT ow (K := thenK (fun s => AW P y (s.keep ks) K') fun _ _ => False) (opsGo_all (h (fun s => AW P y s K') fun s h => h))).mono ?_
  intro e s hs
  cases e with
  | normal => exact hK _ (AW.less (less_keep ks s) hs)
  | _ => exact hs.elim

/-- a region, then more; what is kept of the slots -/
theorem AW.reg0 (hT : TOk P ti) (ow : Nat → List Nat) (ks : List Nat) {id : Nat} {ops : Array Oper} {draw : Bool} {y : Code}
    (h : ∀ k : St → Prop, (∀ s, AW P y s K → k s) → opsGo P ti ow ops 0 ops.toList st (fun es s => Chk draw ops es ∧ k (s.keep0 ks)) .mk) : AW P (.seq (.region id ops draw) y) st K := by
  refine AW.seq ((AW.region hT ow (K := thenK (fun s => AW P y (s.keep0 ks) K) K) (opsGo_all (h (fun s => AW P y s K) fun s h => h))).mono ?_)
  intro e s hs
  cases e with
  | normal => exact AW.less (less_keep0 ks s) hs
  | _ => exact hs

/-- a region at the end of a piece -/
theorem AW.regN0 (hT : TOk P ti) (ow : Nat → List Nat) (ks : List Nat) {id : Nat} {ops : Array Oper} {draw : Bool} {y : Code} {K' : Exit → St → Prop} (hK : ∀ s, AW P y s K' → K .normal s)
    (h : ∀ k : St → Prop, (∀ s, AW P y s K' → k s) → opsGo P ti ow ops 0 ops.toList st (fun es s => Chk draw ops es ∧ k (s.keep0 ks)) .mk) : AW P (.region id ops draw) st K := by
  refine (AW.region hT ow (K := thenK (fun s => AW P y (s.keep0 ks) K') fun _ _ => False) (opsGo_all (h (fun s => AW P y s K') fun s h => h))).mono ?_
  intro e s hs
  cases e with
  | normal => exact hK _ (AW.less (less_keep0 ks s) hs)
  | _ => exact hs.elim

theorem AW.regK (hT : TOk P ti) (ow : Nat → List Nat) {id : Nat} {ops : Array Oper} {draw : Bool}
    (h : ∀ k : St → Prop, (∀ s, K .normal s → k s) → opsGo P ti ow ops 0 ops.toList st (fun es s => Chk draw ops es ∧ k s) .mk) : AW P (.region id ops draw) st K :=
  AW.region hT ow (opsGo_all (h (fun s => K .normal s) fun _ h => h))

theorem AW.loopI {ι : Type} (S : ι → St) (I : ι → Prop) (μ : ι → Nat) {c : Code} (i0 : ι) (hI : I i0) (hS : St.Less st (S i0))
    (h : ∀ i, I i → AW P c (S i) (thenK (fun s => ∃ j, I j ∧ μ j < μ i ∧ St.Less s (S j)) K)) : AW P (.loop c) st K := by
  refine AW.less hS ?_
  refine AW.loop (ι := {i : ι // I i}) (fun i => S i.1) (fun _ => K) (fun i => μ i.1) ?_ ⟨i0, hI⟩
  intro i
  refine (h i.1 i.2).mono ?_
  intro e s hs
  cases e with
  | normal =>
    obtain ⟨j, h1, h2, h3⟩ := hs
    exact ⟨⟨j, h1⟩, h2, h3, fun _ _ h => h⟩
  | _ => exact hs

theorem AW.skipN {y : Code} {K' : Exit → St → Prop} (hK : ∀ s, AW P y s K' → K .normal s) (h : AW P y st K') : AW P .skip st K := AW.skip (hK _ h)

theorem AW.exitN {y : Code} {id : Nat} {K' : Exit → St → Prop} (hK : ∀ s, AW P y s K' → K (.exit id) s) (h : AW P y st K') : AW P (.exit id) st K := AW.exit (hK _ h)

theorem AW.skipT {y : Code} (h : AW P y st K) : AW P .skip st (thenK (fun s => AW P y s K) K) := AW.skip h

theorem AW.retF {rs : List ResultVar} {ow : List Nat} {muts : List (Nat × AV)} {res : AV} (h : (muts.all fun q => match st.slot q.1 with | some x => !isFn x | none => true) = true ∧ finOk ti rs ow muts st res)
    (hk : (muts.all fun q => match st.slot q.1 with | some x => !isFn x | none => true) = true ∧ finOk ti rs ow muts st res → K .ret st) : AW P .ret st K := AW.ret (hk h)

end

theorem Chk_false {ops : Array Oper} {es : List (Nat × Eff)} : Chk false ops es = True := eq_true Chk.no

theorem imp_true {p : Prop} : (true = true → p) ↔ p := by simp
theorem imp_false {p : Prop} : (false = true → p) ↔ True := by simp
theorem imp_tf {p : Prop} : (true = false → p) ↔ True := by simp
theorem imp_ff {p : Prop} : (false = false → p) ↔ p := by simp

@[go_sem] theorem AV_plain_undef : AV.plain (.undef) = false := rfl
@[go_sem] theorem AV_tree_undef : AV.tree (.undef) = false := rfl
@[go_sem] theorem leA0_undef {y : AV} : leA0 (.undef) y = ((.undef) = y) := rfl
@[go_sem] theorem leA_undef {y : AV} : leA (.undef) y = leA0 (.undef) y := rfl
@[go_sem] theorem leT_undef {y : AV} : leT (.undef) y = leA (.undef) y := rfl
@[go_sem] theorem AV_plain_bool {b : _} : AV.plain (.bool b) = true := rfl
@[go_sem] theorem AV_tree_bool {b : _} : AV.tree (.bool b) = true := rfl
@[go_sem] theorem leA0_bool {b : _} {y : AV} : leA0 (.bool b) y = ((.bool b) = y) := rfl
@[go_sem] theorem leA_bool {b : _} {y : AV} : leA (.bool b) y = leA0 (.bool b) y := rfl
@[go_sem] theorem leT_bool {b : _} {y : AV} : leT (.bool b) y = leA (.bool b) y := rfl
@[go_sem] theorem AV_plain_int {k : _} {n : _} : AV.plain (.int k n) = true := rfl
@[go_sem] theorem AV_tree_int {k : _} {n : _} : AV.tree (.int k n) = true := rfl
@[go_sem] theorem leA0_int {k : _} {n : _} {y : AV} : leA0 (.int k n) y = ((.int k n) = y) := rfl
@[go_sem] theorem leA_int {k : _} {n : _} {y : AV} : leA (.int k n) y = leA0 (.int k n) y := rfl
@[go_sem] theorem leT_int {k : _} {n : _} {y : AV} : leT (.int k n) y = leA (.int k n) y := rfl
@[go_sem] theorem AV_plain_str {s : _} : AV.plain (.str s) = true := rfl
@[go_sem] theorem AV_tree_str {s : _} : AV.tree (.str s) = true := rfl
@[go_sem] theorem leA0_str {s : _} {y : AV} : leA0 (.str s) y = ((.str s) = y) := rfl
@[go_sem] theorem leA_str {s : _} {y : AV} : leA (.str s) y = leA0 (.str s) y := rfl
@[go_sem] theorem leT_str {s : _} {y : AV} : leT (.str s) y = leA (.str s) y := rfl
@[go_sem] theorem AV_plain_nilp : AV.plain (.nilp) = true := rfl
@[go_sem] theorem AV_tree_nilp : AV.tree (.nilp) = true := rfl
@[go_sem] theorem leA0_nilp {y : AV} : leA0 (.nilp) y = ((.nilp) = y) := rfl
@[go_sem] theorem leA_nilp {y : AV} : leA (.nilp) y = leA0 (.nilp) y := rfl
@[go_sem] theorem leT_nilp {y : AV} : leT (.nilp) y = leA (.nilp) y := rfl
@[go_sem] theorem AV_plain_nils : AV.plain (.nils) = true := rfl
@[go_sem] theorem AV_tree_nils : AV.tree (.nils) = true := rfl
@[go_sem] theorem leA_nils {y : AV} : leA (.nils) y = leA0 (.nils) y := rfl
@[go_sem] theorem leT_nils {y : AV} : leT (.nils) y = leA (.nils) y := rfl
@[go_sem] theorem AV_plain_nel : AV.plain (.nel) = true := rfl
@[go_sem] theorem AV_plain_any : AV.plain (.any) = false := rfl
@[go_sem] theorem AV_tree_any : AV.tree (.any) = false := rfl
@[go_sem] theorem AV_tree_nel : AV.tree (.nel) = true := rfl
@[go_sem] theorem leA_nel {y : AV} : leA (.nel) y = leA0 (.nel) y := rfl
@[go_sem] theorem leT_nel {y : AV} : leT (.nel) y = leA (.nel) y := rfl
@[go_sem] theorem leA0_nelisl {b : Nat} {m : List (List AV)} : leA0 .nel (.isl b m) = (m = []) := rfl
@[go_sem] theorem AV_plain_zsl : AV.plain (.zsl) = true := rfl
@[go_sem] theorem AV_tree_zsl : AV.tree (.zsl) = true := rfl
@[go_sem] theorem leA_zsl {y : AV} : leA (.zsl) y = leA0 (.zsl) y := rfl
@[go_sem] theorem leT_zsl {y : AV} : leT (.zsl) y = leA (.zsl) y := rfl
@[go_sem] theorem AV_plain_isl {es : _} {l : _} : AV.plain (.isl es l) = true := rfl
@[go_sem] theorem AV_tree_isl {es : _} {l : _} : AV.tree (.isl es l) = true := rfl
@[go_sem] theorem leA0_isl {es : _} {l : _} {y : AV} : leA0 (.isl es l) y = ((.isl es l) = y) := rfl
@[go_sem] theorem leA_isl {es : _} {l : _} {y : AV} : leA (.isl es l) y = leA0 (.isl es l) y := rfl
@[go_sem] theorem leT_isl {es : _} {l : _} {y : AV} : leT (.isl es l) y = leA (.isl es l) y := rfl
@[go_sem] theorem AV_plain_osl {es : _} {l : _} : AV.plain (.osl es l) = false := rfl
@[go_sem] theorem AV_tree_osl {es : _} {l : _} : AV.tree (.osl es l) = true := rfl
@[go_sem] theorem leA_osl {es : _} {l : _} {y : AV} : leA (.osl es l) y = leA0 (.osl es l) y := rfl
@[go_sem] theorem leT_osl {es : _} {l : _} {y : AV} : leT (.osl es l) y = leA (.osl es l) y := rfl
@[go_sem] theorem AV_plain_ip {l : _} : AV.plain (.ip l) = true := rfl
@[go_sem] theorem AV_tree_ip {l : _} : AV.tree (.ip l) = true := rfl
@[go_sem] theorem leA0_ip {l : _} {y : AV} : leA0 (.ip l) y = ((.ip l) = y) := rfl
@[go_sem] theorem leA_ip {l : _} {y : AV} : leA (.ip l) y = leA0 (.ip l) y := rfl
@[go_sem] theorem leT_ip {l : _} {y : AV} : leT (.ip l) y = leA (.ip l) y := rfl
@[go_sem] theorem AV_plain_op {l : _} : AV.plain (.op l) = false := rfl
@[go_sem] theorem AV_tree_op {l : _} : AV.tree (.op l) = true := rfl
@[go_sem] theorem leA0_op {l : _} {y : AV} : leA0 (.op l) y = ((.op l) = y) := rfl
@[go_sem] theorem leA_op {l : _} {y : AV} : leA (.op l) y = leA0 (.op l) y := rfl
@[go_sem] theorem leT_op {l : _} {y : AV} : leT (.op l) y = leA (.op l) y := rfl
@[go_sem] theorem AV_plain_ptr {a : _} {b : _} {c : _} {d : _} : AV.plain (.ptr a b c d) = true := rfl
@[go_sem] theorem AV_tree_ptr {a : _} {b : _} {c : _} {d : _} : AV.tree (.ptr a b c d) = false := rfl
@[go_sem] theorem leA0_ptr {a : _} {b : _} {c : _} {d : _} {y : AV} : leA0 (.ptr a b c d) y = ((.ptr a b c d) = y) := rfl
@[go_sem] theorem leA_ptr {a : _} {b : _} {c : _} {d : _} {y : AV} : leA (.ptr a b c d) y = leA0 (.ptr a b c d) y := rfl
@[go_sem] theorem leT_ptr {a : _} {b : _} {c : _} {d : _} {y : AV} : leT (.ptr a b c d) y = leA (.ptr a b c d) y := rfl
@[go_sem] theorem AV_plain_sl {a : _} {b : _} {c : _} {d : _} : AV.plain (.sl a b c d) = true := rfl
@[go_sem] theorem AV_tree_sl {a : _} {b : _} {c : _} {d : _} : AV.tree (.sl a b c d) = false := rfl
@[go_sem] theorem leA0_sl {a : _} {b : _} {c : _} {d : _} {y : AV} : leA0 (.sl a b c d) y = ((.sl a b c d) = y) := rfl
@[go_sem] theorem leA_sl {a : _} {b : _} {c : _} {d : _} {y : AV} : leA (.sl a b c d) y = leA0 (.sl a b c d) y := rfl
@[go_sem] theorem leT_sl {a : _} {b : _} {c : _} {d : _} {y : AV} : leT (.sl a b c d) y = leA (.sl a b c d) y := rfl
@[go_sem] theorem AV_plain_fn {f : _} {c : _} : AV.plain (.fn f c) = true := rfl
@[go_sem] theorem AV_tree_fn {f : _} {c : _} : AV.tree (.fn f c) = false := rfl
@[go_sem] theorem leA0_fn {f : _} {c : _} {y : AV} : leA0 (.fn f c) y = ((.fn f c) = y) := rfl
@[go_sem] theorem leA_fn {f : _} {c : _} {y : AV} : leA (.fn f c) y = leA0 (.fn f c) y := rfl
@[go_sem] theorem leT_fn {f : _} {c : _} {y : AV} : leT (.fn f c) y = leA (.fn f c) y := rfl
@[go_sem] theorem AV_plain_agg {c : _} : AV.plain (.agg c) = false := rfl
@[go_sem] theorem AV_tree_agg {c : _} : AV.tree (.agg c) = false := rfl
@[go_sem] theorem leA0_agg {c : _} {y : AV} : leA0 (.agg c) y = ((.agg c) = y) := rfl
@[go_sem] theorem leT_agg {c : _} {y : AV} : leT (.agg c) y = leA (.agg c) y := rfl
@[go_sem] theorem AV_plain_tup {c : _} : AV.plain (.tup c) = false := rfl
@[go_sem] theorem AV_tree_tup {c : _} : AV.tree (.tup c) = false := rfl
@[go_sem] theorem leA0_tup {c : _} {y : AV} : leA0 (.tup c) y = ((.tup c) = y) := rfl
@[go_sem] theorem leA_tup {c : _} {y : AV} : leA (.tup c) y = leA0 (.tup c) y := rfl
@[go_sem] theorem AV_plain_gate {e : _} {x : _} : AV.plain (.gate e x) = false := rfl
@[go_sem] theorem AV_tree_gate {e : _} {x : _} : AV.tree (.gate e x) = false := rfl
@[go_sem] theorem leA0_gate {e : _} {x : _} {y : AV} : leA0 (.gate e x) y = ((.gate e x) = y) := rfl
@[go_sem] theorem leA_gate {e : _} {x : _} {y : AV} : leA (.gate e x) y = leA0 (.gate e x) y := rfl
@[go_sem] theorem leT_gate {e : _} {x : _} {y : AV} : leT (.gate e x) y = leA (.gate e x) y := rfl
@[go_sem] theorem leA_aggagg {c d : List AV} : leA (.agg c) (.agg d) = leL c d := rfl
@[go_sem] theorem leT_tuptup {c d : List AV} : leT (.tup c) (.tup d) = leLL c d := rfl
@[go_sem] theorem leA0_oslisl {a b : Nat} {l m : List (List AV)} : leA0 (.osl a l) (.isl b m) = (a = b ∧ l = [] ∧ m = []) := rfl
@[go_sem] theorem leA0_oslosl {a b : Nat} {l m : List (List AV)} : leA0 (.osl a l) (.osl b m) = (AV.osl a l = .osl b m) := rfl
@[go_sem] theorem leA0_nilsisl {b : Nat} {m : List (List AV)} : leA0 .nils (.isl b m) = (m = []) := rfl
@[go_sem] theorem leA0_nilsnils : leA0 .nils .nils = True := by simp [leA0]
@[go_sem] theorem leA0_zslisl {b : Nat} {m : List (List AV)} : leA0 .zsl (.isl b m) = (m = []) := rfl
@[go_sem] theorem leA0_zslzsl : leA0 .zsl .zsl = True := by simp [leA0]

attribute [go_sem low] Way_t Way_f
attribute [go_sem] kOf keys Eff.outIds Lab.down
attribute [go_sem] Way_tt Way_ff Way_tf Way_ft Chk_false opsGo opRun gd callIn opEff obF evs Op.operands Call.operands opA dstOk evalP wrD obsOf ofV rdOf idsL AV.ids nodesOf St.slot St.obj look Eff.apply grdE enumFrom keepS compact gcO St.keep St.keep0
  slotIds objIds oids Node.ids St.ids
  tkind TKind.agg intBin strBin intsA binA unA zerosA indexA esize indexAddrA fieldOf fieldAddrA fieldA loadA extractA lenA capA appNilA encB byteOfCell decB intOf sliceA convA AV.cellsA okCell isCells fillA placeOf allFields buildA minmaxA
  liveA takeOpt elemsA newA storeA appA unown unownL unownLL AV.ownd owndL owndLL strip cmpb findP apart frzAll 
  finOk leL leLL mutsF resAll resA frzAll frz frzL frz0 roOf isFn tupOf callOut thw thw1 thw0 thwL thwT gbAll gb gb0 gbL
end Go.AM
