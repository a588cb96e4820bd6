/- The abstract machine, part 20: how a walk goes on, step by step. -/
import Derived.Test.YtefkpiameojpoaaAm19
namespace Go.AM

def keepS (st : St) : List Nat → List (Nat × AV)
  | [] => []
  | s :: ks => match st.slot s with
    | some x => (s, x) :: keepS st ks
    | none => keepS st ks

def compact : List Nat → List (Nat × Option Node) → List (Nat × Option Node)
  | _, [] => []
  | seen, (i, o) :: r => if seen.contains i then compact seen r else match o with
    | some nd => (i, some nd) :: compact (i :: seen) r
    | none => compact (i :: seen) r

def St.keep (ks : List Nat) (st : St) : St := ⟨st.n, keepS st ks, compact [] st.objs⟩

theorem look_keepS {st : St} {ks : List Nat} {s : Nat} {x : AV} (h : look s (keepS st ks) = some x) : st.slot s = some x := by
  induction ks with
  | nil => cases h
  | cons k ks ih =>
    simp only [keepS] at h
    split at h
    · rename_i y hy
      simp only [look] at h
      split at h
      · rename_i e; subst e; cases h; exact hy
      · exact ih h
    · exact ih h

theorem look_compact {l : List (Nat × Option Node)} {seen : List Nat} {i : Nat} {nd : Node} (h : look i (compact seen l) = some (some nd)) : i ∉ seen ∧ look i l = some (some nd) := by
  induction l generalizing seen with
  | nil => cases h
  | cons p l ih =>
    obtain ⟨k, o⟩ := p
    simp only [compact] at h
    simp only [look]
    split at h
    · rename_i hk
      obtain ⟨h1, h2⟩ := ih h
      refine ⟨h1, ?_⟩
      rw [if_neg]
      · exact h2
      · rintro rfl; exact h1 (by simpa using hk)
    · rename_i hk
      cases o with
      | none =>
        obtain ⟨h1, h2⟩ := ih h
        simp only [List.mem_cons, not_or] at h1
        exact ⟨h1.2, by rw [if_neg h1.1]; exact h2⟩
      | some m =>
        simp only [look] at h
        split at h
        · rename_i e; subst e; cases h
          exact ⟨by simpa using hk, by rw [if_pos rfl]⟩
        · rename_i e
          obtain ⟨h1, h2⟩ := ih h
          simp only [List.mem_cons, not_or] at h1
          exact ⟨h1.2, by rw [if_neg e]; exact h2⟩

theorem less_keep (ks : List Nat) (st : St) : St.Less st (st.keep ks) :=
  ⟨rfl, fun _ _ h => look_keepS h, fun i nd h => by
    have := obj_look h
    have h2 := (look_compact this).2
    simp [St.obj, h2]⟩

/-- the check of a drawn region, shut -/
def Chk (draw : Bool) (ops : Array Oper) (es : List (Nat × Eff)) : Prop := draw = true → drawOk ops es = true
theorem Chk.no {ops : Array Oper} {es : List (Nat × Eff)} : Chk false ops es := fun h => by cases h
theorem Chk.yes {ops : Array Oper} {es : List (Nat × Eff)} (h : drawOk ops es = true) : Chk true ops es := fun _ => h

section
variable {P : Program} {ti : TI} {st : St} {K : Exit → St → Prop}

/-- a region, then more; what is kept of the slots -/
theorem AW.reg (hT : TOk P ti) (ow : Nat → List Nat) (ks : List Nat) {id : Nat} {ops : Array Oper} {draw : Bool} {y : Code}
    (h : ∀ k : St → Prop, (∀ s, AW P y s K → k s) → opsGo P ti ow ops 0 ops.toList st (fun es s => Chk draw ops es ∧ k (s.keep ks)) .mk) : AW P (.seq (.region id ops draw) y) st K := by
  refine AW.seq ((AW.region hT ow (K := thenK (fun s => AW P y (s.keep ks) K) K) (opsGo_all (h (fun s => AW P y s K) fun s h => h))).mono ?_)
  intro e s hs
  cases e with
  | normal => exact AW.less (less_keep ks s) hs
  | _ => exact hs

/-- a region at the end of a piece -/
theorem AW.regN (hT : TOk P ti) (ow : Nat → List Nat) (ks : List Nat) {id : Nat} {ops : Array Oper} {draw : Bool} {y : Code} {K' : Exit → St → Prop} (hK : ∀ s, AW P y s K' → K .normal s)
    (h : ∀ k : St → Prop, (∀ s, AW P y s K' → k s) → opsGo P ti ow ops 0 ops.toList st (fun es s => Chk draw ops es ∧ k (s.keep ks)) .mk) : AW P (.region id ops draw) st K := by
  refine (AW.region hT ow (K := thenK (fun s => AW P y (s.keep ks) K') fun _ _ => False) (opsGo_all (h (fun s => AW P y s K') fun s h => h))).mono ?_
  intro e s hs
  cases e with
  | normal => exact hK _ (AW.less (less_keep ks s) hs)
  | _ => exact hs.elim

theorem AW.regK (hT : TOk P ti) (ow : Nat → List Nat) {id : Nat} {ops : Array Oper} {draw : Bool}
    (h : ∀ k : St → Prop, (∀ s, K .normal s → k s) → opsGo P ti ow ops 0 ops.toList st (fun es s => Chk draw ops es ∧ k s) .mk) : AW P (.region id ops draw) st K :=
  AW.region hT ow (opsGo_all (h (fun s => K .normal s) fun _ h => h))

theorem AW.loopI {ι : Type} (S : ι → St) (I : ι → Prop) (μ : ι → Nat) {c : Code} (i0 : ι) (hI : I i0) (hS : St.Less st (S i0))
    (h : ∀ i, I i → AW P c (S i) (thenK (fun s => ∃ j, I j ∧ μ j < μ i ∧ St.Less s (S j)) K)) : AW P (.loop c) st K := by
  refine AW.less hS ?_
  refine AW.loop (ι := {i : ι // I i}) (fun i => S i.1) (fun _ => K) (fun i => μ i.1) ?_ ⟨i0, hI⟩
  intro i
  refine (h i.1 i.2).mono ?_
  intro e s hs
  cases e with
  | normal =>
    obtain ⟨j, h1, h2, h3⟩ := hs
    exact ⟨⟨j, h1⟩, h2, h3, fun _ _ h => h⟩
  | _ => exact hs

theorem AW.skipN {y : Code} {K' : Exit → St → Prop} (hK : ∀ s, AW P y s K' → K .normal s) (h : AW P y st K') : AW P .skip st K := AW.skip (hK _ h)

theorem AW.exitN {y : Code} {id : Nat} {K' : Exit → St → Prop} (hK : ∀ s, AW P y s K' → K (.exit id) s) (h : AW P y st K') : AW P (.exit id) st K := AW.exit (hK _ h)

theorem AW.skipT {y : Code} (h : AW P y st K) : AW P .skip st (thenK (fun s => AW P y s K) K) := AW.skip h

theorem AW.retF {rs : List ResultVar} {ow : List Nat} {res : AV} (h : finOk ti rs ow st res) (hk : finOk ti rs ow st res → K .ret st) : AW P .ret st K := AW.ret (hk h)

end

theorem Chk_false {ops : Array Oper} {es : List (Nat × Eff)} : Chk false ops es = True := eq_true Chk.no

theorem imp_true {p : Prop} : (true = true → p) ↔ p := by simp
theorem imp_false {p : Prop} : (false = true → p) ↔ True := by simp
theorem imp_tf {p : Prop} : (true = false → p) ↔ True := by simp
theorem imp_ff {p : Prop} : (false = false → p) ↔ p := by simp

attribute [go_sem low] Way_t Way_f
attribute [go_sem] Way_tt Way_ff Way_tf Way_ft Chk_false opsGo opRun gd callIn opEff evs Op.operands Call.operands opA dstOk evalP wrD obsOf ofV rdOf idsL AV.ids nodesOf St.slot St.obj look Eff.apply grdE enumFrom keepS compact St.keep
  slotIds objIds oids Node.ids St.ids
  tkind TKind.agg intBin strBin binA unA indexA esize indexAddrA fieldOf fieldAddrA fieldA loadA extractA lenA capA encB byteOfCell decB intOf sliceA convA AV.cellsA okCell isCells fillA placeOf allFields buildA minmaxA
  liveA takeOpt elemsA newA storeA appA unown unownL unownLL AV.ownd owndL owndLL strip cmpb findP apart frzAll AV.plain AV.tree
  finOk resAll resA frzAll frz frzL frz0 roOf isFn tupOf callOut thw thw1 thw0 thwL thwT gbAll gb gb0 gbL
end Go.AM
