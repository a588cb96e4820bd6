/- Joined texts: Pso Pga T1 T2 M1 Q2 Ba Bb S1 G1 G2 Bc Bd Be Bf Sa Psp Sd Se Sb. -/
import Derived.Test.YtajbihmllfodoaaD1
import Derived.Test.YtajbihmllfodoaaD2
import Derived.Test.YtajbihmllfodoaaD3
set_option linter.unusedVariables false
set_option linter.unusedSimpArgs false
namespace Go.AM
section
variable {α : Type} (key : α → Int)
/-- the stable order -/
def srt (l : List α) : List α := l.foldl (putK key) []
variable {key}
theorem srt_ord (l : List α) : Ord key (srt key l) := (puts_ord l [] List.Pairwise.nil).1
theorem srt_of (l : List α) (k : Int) : ofK key k (srt key l) = ofK key k l := by rw [srt, (puts_ord l [] List.Pairwise.nil).2]; rfl
theorem srt_one {l m : List α} (h : Ord key m) (hk : ∀ k, ofK key k m = ofK key k l) : m = srt key l := stable_puts h hk
theorem srt_self {l : List α} (h : Ord key l) : srt key l = l := (srt_one h fun _ => rfl).symm
theorem srt_snoc (l : List α) (x : α) : srt key (l ++ [x]) = putK key (srt key l) x := by simp [srt, List.foldl_append]
theorem put_perm (l : List α) (x : α) : (putK key l x).Perm (x :: l) := by
  have h : (x :: (l.takeWhile (fun y => decide (key y ≤ key x)) ++ l.dropWhile (fun y => decide (key y ≤ key x)))).Perm (x :: l) := by rw [List.takeWhile_append_dropWhile]
  exact (List.perm_middle).trans h
theorem puts_perm : ∀ (l acc : List α), (l.foldl (putK key) acc).Perm (acc ++ l)
  | [], acc => by simp
  | x :: r, acc => by
    refine (puts_perm r (putK key acc x)).trans ?_
    refine ((put_perm acc x).append_right r).trans ?_
    exact (List.perm_middle (l₁ := acc) (l₂ := r) (a := x)).symm
theorem srt_perm (l : List α) : (srt key l).Perm l := by simpa [srt] using puts_perm (key := key) l []
theorem srt_len (l : List α) : (srt key l).length = l.length := (srt_perm l).length_eq
theorem put_map {β : Type} (g : β → α) (l : List β) (x : β) : putK key (l.map g) (g x) = (putK (fun b => key (g b)) l x).map g := by
  unfold putK
  rw [List.takeWhile_map, List.dropWhile_map, List.map_append, List.map_cons]
  rfl
theorem srt_map {β : Type} (g : β → α) (l : List β) : srt key (l.map g) = (srt (fun b => key (g b)) l).map g := by
  have h : ∀ (l acc : List β), (l.map g).foldl (putK key) (acc.map g) = (l.foldl (putK fun b => key (g b)) acc).map g := by
    intro l
    induction l with
    | nil => intro acc; rfl
    | cons x l ih => intro acc; simp only [List.map_cons, List.foldl_cons]; rw [put_map, ih]
  exact h l []
theorem ord_nil : Ord key ([] : List α) := List.Pairwise.nil
theorem ord_sing (x : α) : Ord key [x] := List.pairwise_singleton _ x
/-- put in between -/
theorem put_mid {U W : List α} {x : α} (h : Ord key (U ++ W)) (h1 : ∀ y ∈ U, key y ≤ key x) (h2 : ∀ y ∈ W, key x < key y) : putK key (U ++ W) x = U ++ x :: W := by
  obtain ⟨a, b, c⟩ := ord_app.1 h
  refine ord_one _ _ (put_ord h x) ?_ fun k => ?_
  · refine ord_app.2 ⟨a, List.pairwise_cons.2 ⟨fun y hy => by have := h2 y hy; omega, b⟩, fun u hu v hv => ?_⟩
    rcases List.mem_cons.1 hv with e | e
    · rw [e]; exact h1 u hu
    · exact c u hu v e
  · rw [put_of h, ofK_append, ofK_append, ofK_cons]
    split
    · rename_i hk
      have hd : ofK key k W = [] := by
        unfold ofK
        rw [List.filter_eq_nil_iff]
        intro y hy
        have := h2 y hy
        simp; omega
      rw [hd]; simp
    · simp
theorem snocc (U : List α) : U = [] ∨ ∃ U' y, U = U' ++ [y] := by
  rcases List.eq_nil_or_concat U with h | ⟨U', y, h⟩
  · exact Or.inl h
  · exact Or.inr ⟨U', y, by simpa using h⟩
theorem ord_last {U : List α} {y : α} (h : Ord key (U ++ [y])) : ∀ z ∈ U ++ [y], key z ≤ key y := by
  intro z hz
  obtain ⟨_, _, c⟩ := ord_app.1 h
  rcases List.mem_append.1 hz with e | e
  · exact c z e y (List.mem_singleton.2 rfl)
  · rw [List.mem_singleton.1 e]; exact Int.le_refl _
/-- one ahead of an ordered list -/
theorem srt_head {B1 B2 : List α} {x : α} (h : Ord key (B1 ++ B2)) (h1 : ∀ y ∈ B1, key y < key x) (h2 : ∀ y ∈ B2, key x ≤ key y) : srt key ([x] ++ (B1 ++ B2)) = B1 ++ x :: B2 := by
  obtain ⟨a, b, c⟩ := ord_app.1 h
  refine (srt_one ?_ fun k => ?_).symm
  · refine ord_app.2 ⟨a, List.pairwise_cons.2 ⟨h2, b⟩, fun u hu v hv => ?_⟩
    rcases List.mem_cons.1 hv with e | e
    · rw [e]; have := h1 u hu; omega
    · exact c u hu v e
  · have := rot_in (key := key) (p := []) (a := [x]) (b := B1) (q := B2) (by intro z hz y hy; rw [List.mem_singleton.1 hz]; exact h1 y hy) k
    simpa using this
/-- one behind an ordered list -/
theorem srt_tail {A1 A2 : List α} {y : α} (h : Ord key (A1 ++ A2)) (h1 : ∀ x ∈ A1, key x ≤ key y) (h2 : ∀ x ∈ A2, key y < key x) : srt key (A1 ++ A2 ++ [y]) = A1 ++ y :: A2 := by
  rw [srt_snoc, srt_self h, put_mid h h1 h2]
/-- two halves -/
theorem srt_half {A1 A2 B1 B2 : List α} (hA : Ord key (A1 ++ A2)) (hB : Ord key (B1 ++ B2)) (h1 : ∀ x ∈ A1, ∀ y ∈ B2, key x ≤ key y) (h2 : ∀ x ∈ A2, ∀ y ∈ B1, key y < key x) :
    srt key (A1 ++ A2 ++ (B1 ++ B2)) = srt key (A1 ++ B1) ++ srt key (A2 ++ B2) := by
  obtain ⟨a1, a2, a3⟩ := ord_app.1 hA
  obtain ⟨b1, b2, b3⟩ := ord_app.1 hB
  refine (srt_one ?_ fun k => ?_).symm
  · refine ord_app.2 ⟨srt_ord _, srt_ord _, fun u hu v hv => ?_⟩
    rcases List.mem_append.1 ((srt_perm _).mem_iff.1 hu) with e | e <;> rcases List.mem_append.1 ((srt_perm _).mem_iff.1 hv) with e2 | e2
    · exact a3 u e v e2
    · exact h1 u e v e2
    · have := h2 v e2 u e; omega
    · exact b3 u e v e2
  · rw [ofK_append, srt_of, srt_of, ← ofK_append]
    have := rot_in (key := key) (p := A1) (a := A2) (b := B1) (q := B2) (fun x hx y hy => h2 x hx y hy) k
    simpa using this
end
/-- two neighbours change places -/
theorem sw_adj {α : Type} (R1 R2 : List α) (y x : α) : ((R1 ++ y :: x :: R2).set (R1.length + 1) y).set R1.length x = R1 ++ x :: y :: R2 := by
  rw [List.set_append, if_neg (by omega)]
  simp [List.set_append]
theorem sw_adj2 {α : Type} (R1 R2 : List α) (y x : α) : ((R1 ++ y :: x :: R2).set R1.length x).set (R1.length + 1) y = R1 ++ x :: y :: R2 := by
  simp [List.set_append]
theorem at_mid1 {α : Type} (R1 R2 : List α) (y x : α) : (R1 ++ y :: x :: R2)[R1.length + 1]? = some x := by
  rw [List.getElem?_append_right (by omega)]; simp
/-- two far ones change places -/
theorem sw_far {α : Type} (R1 R2 R3 : List α) (x z : α) : ((R1 ++ x :: R2 ++ z :: R3).set R1.length z).set (R1.length + 1 + R2.length) x = R1 ++ z :: R2 ++ x :: R3 := by
  have e : R1.length + 1 + R2.length = (R1 ++ z :: R2).length := by simp; omega
  rw [e]
  have h1 : (R1 ++ x :: R2 ++ z :: R3).set R1.length z = R1 ++ z :: R2 ++ z :: R3 := by simp [List.set_append]
  rw [h1, List.set_append, if_neg (by omega)]
  simp
theorem at_far {α : Type} (R1 R2 R3 : List α) (x z : α) : (R1 ++ x :: R2 ++ z :: R3)[R1.length + 1 + R2.length]? = some z := by
  have e : R1.length + 1 + R2.length = (R1 ++ x :: R2).length := by simp; omega
  rw [e]; simp
/-- the first i of two blocks have changed places -/
def swR {α : Type} (P X Y Z Q : List α) (i : Nat) : List α := P ++ (Z.take i ++ X.drop i) ++ Y ++ (X.take i ++ Z.drop i) ++ Q
theorem swR_zero {α : Type} (P X Y Z Q : List α) : swR P X Y Z Q 0 = P ++ X ++ Y ++ Z ++ Q := by simp [swR]
theorem swR_end {α : Type} (P X Y Z Q : List α) (h : Z.length = X.length) : swR P X Y Z Q X.length = P ++ Z ++ Y ++ X ++ Q := by
  unfold swR
  rw [List.take_of_length_le (by omega), List.drop_of_length_le (Nat.le_refl _), List.take_length, List.drop_of_length_le (l := Z) (by omega)]; simp
theorem swR_len {α : Type} (P X Y Z Q : List α) (i : Nat) (h : Z.length = X.length) (hi : i ≤ X.length) : (swR P X Y Z Q i).length = P.length + X.length + Y.length + X.length + Q.length := by
  unfold swR; simp; omega
theorem swR_form {α : Type} {P X Y Z Q : List α} {i : Nat} {x z : α} (hx : X[i]? = some x) (hz : Z[i]? = some z) :
    swR P X Y Z Q i = (P ++ Z.take i) ++ x :: (X.drop (i + 1) ++ Y ++ X.take i) ++ z :: (Z.drop (i + 1) ++ Q) ∧
    swR P X Y Z Q (i + 1) = (P ++ Z.take i) ++ z :: (X.drop (i + 1) ++ Y ++ X.take i) ++ x :: (Z.drop (i + 1) ++ Q) := by
  obtain ⟨h1, e1⟩ := List.getElem?_eq_some_iff.1 hx
  obtain ⟨h2, e2⟩ := List.getElem?_eq_some_iff.1 hz
  have d1 : X.drop i = x :: X.drop (i + 1) := by rw [List.drop_eq_getElem_cons h1, e1]
  have d2 : Z.drop i = z :: Z.drop (i + 1) := by rw [List.drop_eq_getElem_cons h2, e2]
  have t1 : X.take (i + 1) = X.take i ++ [x] := by rw [List.take_add_one, hx]; rfl
  have t2 : Z.take (i + 1) = Z.take i ++ [z] := by rw [List.take_add_one, hz]; rfl
  unfold swR
  rw [d1, d2, t1, t2]
  simp
theorem swR_step {α : Type} {P X Y Z Q : List α} {i : Nat} {x z : α} (hx : X[i]? = some x) (hz : Z[i]? = some z) {s t : Nat} (hs : s = P.length + i) (ht : t = P.length + X.length + Y.length + i) :
    (swR P X Y Z Q i)[s]? = some x ∧ (swR P X Y Z Q i)[t]? = some z ∧ ((swR P X Y Z Q i).set s z).set t x = swR P X Y Z Q (i + 1) := by
  obtain ⟨f1, f2⟩ := swR_form (P := P) (Y := Y) (Q := Q) hx hz
  obtain ⟨h1, e1⟩ := List.getElem?_eq_some_iff.1 hx
  obtain ⟨h2, e2⟩ := List.getElem?_eq_some_iff.1 hz
  have l1 : (P ++ Z.take i).length = s := by rw [List.length_append, List.length_take]; omega
  have l2 : (P ++ Z.take i).length + 1 + (X.drop (i + 1) ++ Y ++ X.take i).length = t := by simp; omega
  rw [f1, f2]
  have a1 := at_far (P ++ Z.take i) (X.drop (i + 1) ++ Y ++ X.take i) (Z.drop (i + 1) ++ Q) x z
  have a2 := sw_far (P ++ Z.take i) (X.drop (i + 1) ++ Y ++ X.take i) (Z.drop (i + 1) ++ Q) x z
  rw [l2] at a1 a2
  rw [l1] at a2
  refine ⟨?_, a1, a2⟩
  rw [← l1]
  simp
/-- two neighbours, told by places -/
theorem adj_step {α : Type} {C R1 R2 : List α} {y x : α} {s t : Nat} (hC : C = R1 ++ y :: x :: R2) (hs : s = R1.length) (ht : t = R1.length + 1) :
    C[s]? = some y ∧ C[t]? = some x ∧ (C.set t y).set s x = R1 ++ x :: y :: R2 ∧ (C.set s x).set t y = R1 ++ x :: y :: R2 := by
  subst hC hs ht
  exact ⟨by simp, at_mid1 R1 R2 y x, sw_adj R1 R2 y x, sw_adj2 R1 R2 y x⟩
/-- the rows of what has changed places -/
theorem sw_rows {C D : List VF} {s t : Nat} {x z : VF} (h : (C.set s z).set t x = D) : ((C.map VF.row).set s [.int .i64 z.src, .int .i64 z.to, .val z.v]).set t [.int .i64 x.src, .int .i64 x.to, .val x.v] = D.map VF.row := by
  rw [← h, List.map_set, List.map_set]; rfl
theorem gel {α : Type} {l : List α} {i : Nat} {x : α} (h : l[i]? = some x) : ∀ h2, l[i]'h2 = x := fun h2 => by rw [List.getElem?_eq_getElem h2] at h; exact Option.some.inj h
theorem cmpI_neg (a b : Int) : cmpI a b < 0 ↔ a < b := by unfold cmpI; split <;> (try split) <;> first | (simp_all; done) | (simp_all; omega)
theorem ins_zero (A : List VF) : srt VF.src (A.take 1) ++ A.drop 1 = A := by
  cases A with
  | nil => rfl
  | cons x r => rw [srt_self]; rfl; exact ord_sing x
theorem ins_form {A Q : List VF} {n : Nat} {x : VF} (hx : A[n]? = some x) (P : List VF) : P ++ (srt VF.src (A.take n) ++ A.drop n) ++ Q = P ++ srt VF.src (A.take n) ++ x :: (A.drop (n + 1) ++ Q) := by
  obtain ⟨h1, e1⟩ := List.getElem?_eq_some_iff.1 hx
  rw [List.drop_eq_getElem_cons h1, e1]; simp
theorem ins_look {C P U W R : List VF} {x : VF} {a j : Nat} (hC : C = P ++ U ++ x :: (W ++ R)) (ha : a = P.length) (hj : j = P.length + U.length) (hl : C.length ≤ 1048576) :
    (∃ U' y i1, U = U' ++ [y] ∧ a < j ∧ i1 + 1 = j ∧ C[i1]? = some y ∧ C[j]? = some x ∧ (C.set j y).set i1 x = P ++ U' ++ x :: (y :: W ++ R) ∧ IntKind.wrap .i64 ((j : Int) - 1) = ((i1 : Nat) : Int) ∧ (∀ h, C[i1]'h = y) ∧ (∀ h, C[j]'h = x) ∧ i1 < C.length ∧ j < C.length ∧ j ≠ i1) ∨
    (U = [] ∧ ¬ a < j ∧ ∃ (U' : List VF) (y : VF) (i1 : Nat), True ∧ True ∧ True ∧ True ∧ True ∧ True ∧ True ∧ True ∧ True ∧ True) := by
  rcases snocc U with rfl | ⟨U', y, rfl⟩
  · right
    refine ⟨rfl, by simp at hj; omega, [], x, 0, ?_⟩
    simp
  · left
    have hlen : C.length = P.length + U'.length + 1 + 1 + (W.length + R.length) := by rw [hC]; simp; omega
    have hC2 : C = (P ++ U') ++ y :: x :: (W ++ R) := by rw [hC]; simp
    simp only [List.length_append, List.length_singleton] at hj
    obtain ⟨g1, g2, g3, _⟩ := adj_step hC2 (s := P.length + U'.length) (t := j) (by simp) (by simp; omega)
    refine ⟨U', y, P.length + U'.length, rfl, by omega, by omega, g1, g2, by rw [g3]; simp, ?_, gel g1, gel g2, by omega, by omega, by omega⟩
    rw [wrap64 (by omega) (by omega)]; omega
theorem ins_out {P U W A Q : List VF} {x : VF} {n : Nat} (hx : A[n]? = some x) (hS : srt VF.src (A.take n) = U ++ W) (h1 : ∀ y ∈ U, y.src ≤ x.src) (h2 : ∀ y ∈ W, x.src < y.src) :
    P ++ U ++ x :: (W ++ (A.drop (n + 1) ++ Q)) = P ++ (srt VF.src (A.take (n + 1)) ++ A.drop (n + 1)) ++ Q := by
  have e : A.take (n + 1) = A.take n ++ [x] := by rw [List.take_add_one, hx]; rfl
  have ho : Ord VF.src (U ++ W) := by rw [← hS]; exact srt_ord _
  rw [e, srt_snoc, hS, put_mid ho h1 h2]; simp
theorem ins_le {U : List VF} {x : VF} (h : Ord VF.src U) (hc : ∀ U' y, U = U' ++ [y] → y.src ≤ x.src) : ∀ y ∈ U, y.src ≤ x.src := by
  rcases snocc U with rfl | ⟨U', y, rfl⟩
  · intro y hy; cases hy
  · intro z hz
    have := ord_last h z hz
    have := hc U' y rfl
    omega
end Go.AM
namespace Go.AM
/-- what a step adds: nodes, flows; what enters, what leaves -/
structure GR where
  ns : List TGNode
  fs : List TFlow
  en : Int
  lv : Int
def leafG (x : TGNode) (n : Nat) : GR := ⟨[x], [], n, n⟩
def seqF (g : Nat → Nat → GR) (n : Nat) (st : GR) (k : Int) : GR :=
  let r := g k.toNat (n + st.ns.length)
  ⟨st.ns ++ r.ns, st.fs ++ r.fs ++ [⟨st.lv, r.en, []⟩], st.en, r.lv⟩
def seqN (g : Nat → Nat → GR) (n : Nat) (ks : List Int) (i : Nat) : GR := ((ks.drop 1).take i).foldl (seqF g n) (g (headI ks).toNat n)
structure SD where
  ns : List TGNode
  fs : List TFlow
  os : List Int
def sdF (g : Nat → Nat → GR) (cd : Nat → List TNode) (n : Nat) (st : SD) (k : Int) : SD :=
  let r := g k.toNat (n + st.ns.length)
  ⟨st.ns ++ r.ns, st.fs ++ r.fs ++ [⟨(n : Int), r.en, cd k.toNat⟩], st.os ++ [r.lv]⟩
def sdN (g : Nat → Nat → GR) (cd : Nat → List TNode) (n : Nat) (op : TGNode) (ks : List Int) (i : Nat) : SD := (ks.take i).foldl (sdF g cd n) ⟨[op], [], []⟩
def sidesG (g : Nat → Nat → GR) (cd : Nat → List TNode) (op cl : TGNode) (ks : List Int) (n : Nat) : GR :=
  let st := sdN g cd n op ks ks.length
  ⟨st.ns ++ [cl], st.fs ++ st.os.map fun o => ⟨o, (n + st.ns.length : Nat), []⟩, n, (n + st.ns.length : Nat)⟩
def guardG (g : Nat → Nat → GR) (op cl mg : TGNode) (k0 k1 : Int) (n : Nat) : GR :=
  let r := g k0.toNat (n + 1)
  let c := n + 1 + r.ns.length
  let q := g k1.toNat (c + 1)
  let m := c + 1 + q.ns.length
  ⟨[op] ++ r.ns ++ [cl] ++ q.ns ++ [mg], r.fs ++ q.fs ++ [⟨n, r.en, []⟩, ⟨n, q.en, []⟩, ⟨r.lv, c, []⟩, ⟨c, m, []⟩, ⟨q.lv, m, []⟩], n, m⟩
def cdS (p : List TStep) (a : Nat) : List TNode := (nS p a).cond
def gstep (p : List TStep) : Nat → Nat → Nat → GR
  | 0, _, n => ⟨[], [], n, n⟩
  | f + 1, a, n =>
    if (nS p a).kind = 2 then leafG ⟨3, a, (nS p a).name, 0, []⟩ n
    else if (nS p a).kind = 5 then leafG ⟨4, a, [], (nS p a).arg, []⟩ n
    else if (nS p a).kind = 6 then leafG ⟨5, a, [], (nS p a).arg, []⟩ n
    else if (nS p a).kind = 7 then leafG ⟨6, a, [], (nS p a).arg, (nS p a).expr⟩ n
    else if (nS p a).kind = 1 then seqN (gstep p f) n (kids p (a : Int)) ((kids p (a : Int)).length - 1)
    else if (nS p a).kind = 8 then guardG (gstep p f) ⟨11, a, [], (nS p a).arg, []⟩ ⟨12, a, [], 0, []⟩ ⟨13, a, [], 0, []⟩ (gI (kids p (a : Int)) 0) (gI (kids p (a : Int)) 1) n
    else if (nS p a).kind = 3 then sidesG (gstep p f) (cdS p) ⟨7, a, [], 0, []⟩ ⟨8, a, [], 0, []⟩ (kids p (a : Int)) n
    else sidesG (gstep p f) (cdS p) ⟨9, a, [], 0, []⟩ ⟨10, a, [], 0, []⟩ (kids p (a : Int)) n
theorem seq_zero (g : Nat → Nat → GR) (n : Nat) (ks : List Int) : seqN g n ks 0 = g (headI ks).toNat n := rfl
theorem seq_succ {g : Nat → Nat → GR} {n : Nat} {ks : List Int} {i : Nat} {u : Int} (h : ks[i + 1]? = some u) : seqN g n ks (i + 1) = seqF g n (seqN g n ks i) u := by
  unfold seqN
  have h2 : (ks.drop 1)[i]? = some u := by rw [List.getElem?_drop, Nat.add_comm]; exact h
  rw [take_snoc h2, List.foldl_append]; rfl
theorem sd_zero (g : Nat → Nat → GR) (cd : Nat → List TNode) (n : Nat) (op : TGNode) (ks : List Int) : sdN g cd n op ks 0 = ⟨[op], [], []⟩ := rfl
theorem sd_succ {g : Nat → Nat → GR} {cd : Nat → List TNode} {n : Nat} {op : TGNode} {ks : List Int} {i : Nat} {u : Int} (h : ks[i]? = some u) : sdN g cd n op ks (i + 1) = sdF g cd n (sdN g cd n op ks i) u := by
  unfold sdN; rw [take_snoc h, List.foldl_append]; rfl
/-! how many -/
def cK (p : List TStep) (f : Nat) (k : Int) : Nat := (growF p f k.toNat).cnt
theorem cK_pos (p : List TStep) (f : Nat) (k : Int) : 1 ≤ cK p f k := by have := (growF p f k.toNat).cnt_eq; unfold cK; omega
def cKs (p : List TStep) (f : Nat) (l : List Int) : Nat := (l.map (cK p f)).sum
theorem cKs_snoc {p : List TStep} {f : Nat} {l : List Int} {i : Nat} {u : Int} (h : l[i]? = some u) : cKs p f (l.take (i + 1)) = cKs p f (l.take i) + cK p f u := by
  unfold cKs; rw [take_snoc h]; simp
theorem cKs_le (p : List TStep) (f : Nat) (l : List Int) (i : Nat) : cKs p f (l.take i) ≤ cKs p f l := by
  unfold cKs
  have h := congrArg (fun m => (m.map (cK p f)).sum) (List.take_append_drop i l)
  simp only [List.map_append, List.sum_append] at h
  omega
theorem cK_succ (p : List TStep) (f a : Nat) : cK p (f + 1) (a : Int) = 1 + cKs p f (kids p (a : Int)) := by
  unfold cK cKs
  rw [Int.toNat_natCast, grow_succ]
  simp only [TB.cnt]
  congr 1
  generalize kids p (a : Int) = l
  induction l with
  | nil => rfl
  | cons x l ih => simp only [List.map_cons, TB.cntL, List.sum_cons, ih]; rfl
/-- a step's nodes and flows are not too many -/
def Few (p : List TStep) (f : Nat) (g : Nat → Nat → GR) (k : Int) : Prop := ∀ n, (g k.toNat n).ns.length ≤ 3 * cK p f k ∧ (g k.toNat n).fs.length + 2 ≤ 5 * cK p f k
theorem seq_few {p : List TStep} {f : Nat} {g : Nat → Nat → GR} {n : Nat} {ks : List Int} (h0 : ks ≠ []) (h : ∀ k ∈ ks, Few p f g k) : ∀ i, i + 1 ≤ ks.length → (seqN g n ks i).ns.length ≤ 3 * cKs p f (ks.take (i + 1)) ∧ (seqN g n ks i).fs.length + 2 ≤ 5 * cKs p f (ks.take (i + 1)) := by
  intro i
  induction i with
  | zero =>
    intro hi
    obtain ⟨u, hu⟩ := at_some (l := ks) (i := 0) (by omega)
    have e : headI ks = u := by unfold headI; rw [List.getD_eq_getElem?_getD, hu]; rfl
    rw [seq_zero, e, cKs_snoc hu]
    have := h u (List.mem_of_getElem? hu) n
    simpa [cKs] using this
  | succ i ih =>
    intro hi
    obtain ⟨u, hu⟩ := at_some (l := ks) (i := i + 1) (by omega)
    have h1 := ih (by omega)
    have h2 := h u (List.mem_of_getElem? hu) (n + (seqN g n ks i).ns.length)
    rw [seq_succ hu, cKs_snoc hu]
    simp only [seqF, List.length_append, List.length_singleton]
    omega
theorem sd_few {p : List TStep} {f : Nat} {g : Nat → Nat → GR} {cd : Nat → List TNode} {n : Nat} {op : TGNode} {ks : List Int} (h : ∀ k ∈ ks, Few p f g k) : ∀ i, i ≤ ks.length → (sdN g cd n op ks i).ns.length ≤ 1 + 3 * cKs p f (ks.take i) ∧ (sdN g cd n op ks i).fs.length + i ≤ 5 * cKs p f (ks.take i) ∧ (sdN g cd n op ks i).os.length = i := by
  intro i
  induction i with
  | zero => intro _; simp [sd_zero, cKs]
  | succ i ih =>
    intro hi
    obtain ⟨u, hu⟩ := at_some (l := ks) (i := i) (by omega)
    have h1 := ih (by omega)
    have h2 := h u (List.mem_of_getElem? hu) (n + (sdN g cd n op ks i).ns.length)
    rw [sd_succ hu, cKs_snoc hu]
    simp only [sdF, List.length_append, List.length_singleton]
    omega
theorem sides_few {p : List TStep} {f : Nat} {g : Nat → Nat → GR} {cd : Nat → List TNode} {op cl : TGNode} {ks : List Int} (h : ∀ k ∈ ks, Few p f g k) (n : Nat) : (sidesG g cd op cl ks n).ns.length ≤ 3 * (1 + cKs p f ks) ∧ (sidesG g cd op cl ks n).fs.length + 2 ≤ 5 * (1 + cKs p f ks) := by
  have h1 := sd_few (cd := cd) (n := n) (op := op) h ks.length (Nat.le_refl _)
  rw [List.take_length] at h1
  simp only [sidesG, List.length_append, List.length_singleton, List.length_map]
  omega
theorem gstep_few {p : List TStep} (hP : ProcOk p) : ∀ (f a : Nat), a < p.length → Few p f (gstep p f) (a : Int) := by
  intro f
  induction f with
  | zero => intro a ha n; have := cK_pos p 0 (a : Int); simp only [gstep, List.length_nil]; omega
  | succ f ih =>
    intro a ha n
    have hk : ∀ k ∈ kids p (a : Int), Few p f (gstep p f) k := by
      intro k hk
      obtain ⟨m, rfl, h1, h2, _, _⟩ := hP.kid hk
      exact ih m h2
    have hm := hP.many ha
    rw [cK_succ, Int.toNat_natCast]
    unfold gstep
    have lf : ∀ x : TGNode, (leafG x n).ns.length ≤ 3 * (1 + cKs p f (kids p (a : Int))) ∧ (leafG x n).fs.length + 2 ≤ 5 * (1 + cKs p f (kids p (a : Int))) := by intro x; simp only [leafG, List.length_singleton, List.length_nil]; omega
    split
    · exact lf _
    split
    · exact lf _
    split
    · exact lf _
    split
    · exact lf _
    split
    · rename_i h1
      rw [h1] at hm
      have hm1 := hm
      have hlen : 1 ≤ (kids p (a : Int)).length := by
        have : kidLo 1 = 1 := by decide
        omega
      have h2 := seq_few (n := n) (by intro e; rw [e] at hlen; simp at hlen) hk ((kids p (a : Int)).length - 1) (by omega)
      rw [show (kids p (a : Int)).length - 1 + 1 = (kids p (a : Int)).length by omega, List.take_length] at h2
      omega
    split
    · rename_i h8
      rw [h8] at hm
      have hm1 := hm
      have e1 : kidLo 8 = 2 := by decide
      have e2 : kidHi 8 = 2 := by decide
      have hlen : (kids p (a : Int)).length = 2 := by omega
      obtain ⟨k0, k1, hk2⟩ : ∃ k0 k1, kids p (a : Int) = [k0, k1] := by
        match hq : kids p (a : Int), hlen with
        | [x, y], _ => exact ⟨x, y, rfl⟩
      rw [hk2] at hk ⊢
      have q0 : gI [k0, k1] 0 = k0 := rfl
      have q1 : gI [k0, k1] 1 = k1 := rfl
      have c : cKs p f [k0, k1] = cK p f k0 + cK p f k1 := by simp [cKs]
      rw [q0, q1, c]
      have h0 := hk k0 (by simp) (n + 1)
      have h1 := hk k1 (by simp) (n + 1 + (gstep p f k0.toNat (n + 1)).ns.length + 1)
      simp only [guardG, List.length_append, List.length_cons, List.length_nil]
      omega
    split
    · exact sides_few hk n
    · exact sides_few hk n
/-- the row of a maker of graphs -/
def mrow (p : List TStep) (ns : List TGNode) (fs : List TFlow) : List AV := [.isl 6 (p.map TStep.ro), nlc 5 (ns.map TGNode.oc), nlc 3 (fs.map TFlow.oc)]
@[go_sem] theorem mrow_eq (p : List TStep) (ns : List TGNode) (fs : List TFlow) : mrow p ns fs = [.isl 6 (p.map TStep.ro), nlc 5 (ns.map TGNode.oc), nlc 3 (fs.map TFlow.oc)] := rfl
theorem nlN (l : List TGNode) : (nlc 5 (l.map TGNode.oc) = .nils ∧ l = []) ∨ (nlc 5 (l.map TGNode.oc) = .osl 5 (l.map TGNode.oc) ∧ l ≠ []) := by
  cases l with
  | nil => exact Or.inl ⟨rfl, rfl⟩
  | cons x r => exact Or.inr ⟨rfl, by simp⟩
theorem nlF (l : List TFlow) : (nlc 3 (l.map TFlow.oc) = .nils ∧ l = []) ∨ (nlc 3 (l.map TFlow.oc) = .osl 3 (l.map TFlow.oc) ∧ l ≠ []) := by
  cases l with
  | nil => exact Or.inl ⟨rfl, rfl⟩
  | cons x r => exact Or.inr ⟨rfl, by simp⟩
theorem tree_snocA {A : List (List AV)} {r : List AV} (hA : ∀ c ∈ A, ∀ x ∈ c, AV.tree x = true) (hr : ∀ x ∈ r, AV.tree x = true) : ∀ c ∈ A ++ [r], ∀ x ∈ c, AV.tree x = true := by
  intro c hc x hx
  rcases List.mem_append.1 hc with h | h
  · exact hA c h x hx
  · rw [List.mem_singleton.1 h] at hx; exact hr x hx
/-- the graph of a process: its nodes, its flows as they are made -/
def gTop (p : List TStep) : GR := gstep p p.length 0 1
def gNs (p : List TStep) : List TGNode := [⟨1, 0, [], 0, []⟩] ++ (gTop p).ns ++ [⟨2, 0, [], 0, []⟩]
def gFl (p : List TStep) : List TFlow := (gTop p).fs ++ [⟨0, (gTop p).en, []⟩] ++ [⟨(gTop p).lv, (1 + (gTop p).ns.length : Nat), []⟩]
theorem gTop_few {p : List TStep} (h : ProcOk p) : (gTop p).ns.length ≤ 72 ∧ (gTop p).fs.length + 2 ≤ 120 := by
  have h1 := gstep_few h p.length 0 (by have := h.len; omega) 1
  have h2 := (grow_ok h).1
  unfold cK at h1
  simp only [Int.toNat_natCast] at h1
  unfold gTop
  omega
theorem kid_two {n : Nat} (h : kidLo 8 ≤ n ∧ (n : Int) ≤ kidHi 8) : n = 2 := by
  have e1 : kidLo 8 = 2 := by decide
  have e2 : kidHi 8 = 2 := by decide
  omega
theorem kid_one {n : Nat} (h : kidLo 1 ≤ n ∧ (n : Int) ≤ kidHi 1) : 1 ≤ n := by
  have e1 : kidLo 1 = 1 := by decide
  omega
/-- the row of a graph -/
def grw (ns : List TGNode) (fs : List TFlow) : List AV := [nlc 5 (ns.map TGNode.oc), nlc 3 (fs.map TFlow.oc)]
@[go_sem] theorem grw_eq (ns : List TGNode) (fs : List TFlow) : grw ns fs = [nlc 5 (ns.map TGNode.oc), nlc 3 (fs.map TFlow.oc)] := rfl
/-- where a flow is put -/
def plF (fs : List TFlow) (fr : Int) : Nat := (fs.takeWhile fun y => decide (y.frm ≤ fr)).length
theorem plF_le (fs : List TFlow) (fr : Int) : plF fs fr ≤ fs.length := by
  unfold plF
  have := congrArg List.length (List.takeWhile_append_dropWhile (p := fun y : TFlow => decide (y.frm ≤ fr)) (l := fs))
  rw [List.length_append] at this; omega
theorem plF_put (fs : List TFlow) (x : TFlow) : putK TFlow.frm fs x = fs.take (plF fs x.frm) ++ x :: fs.drop (plF fs x.frm) := by
  have e := List.takeWhile_append_dropWhile (p := fun y : TFlow => decide (y.frm ≤ x.frm)) (l := fs)
  have h1 : fs.take (plF fs x.frm) = fs.takeWhile fun y => decide (y.frm ≤ x.frm) := by
    unfold plF
    conv => lhs; arg 2; rw [← e]
    rw [List.take_left]
  have h2 : fs.drop (plF fs x.frm) = fs.dropWhile fun y => decide (y.frm ≤ x.frm) := by
    unfold plF
    conv => lhs; arg 2; rw [← e]
    rw [List.drop_left]
  rw [h1, h2]; rfl
theorem plF_lt {fs : List TFlow} {fr : Int} {i : Nat} {x : TFlow} (h : i < plF fs fr) (hx : fs[i]? = some x) : x.frm ≤ fr := by
  have e := List.takeWhile_append_dropWhile (p := fun y : TFlow => decide (y.frm ≤ fr)) (l := fs)
  rw [← e, List.getElem?_append_left h] at hx
  have := List.mem_of_getElem? hx
  exact take_le (key := TFlow.frm) (x := (⟨fr, 0, []⟩ : TFlow)) fs x this
theorem plF_ge {fs : List TFlow} {fr : Int} {x : TFlow} (hx : fs[plF fs fr]? = some x) : fr < x.frm := by
  have e := List.takeWhile_append_dropWhile (p := fun y : TFlow => decide (y.frm ≤ fr)) (l := fs)
  have hx2 : (fs.takeWhile (fun y : TFlow => decide (y.frm ≤ fr)) ++ fs.dropWhile (fun y : TFlow => decide (y.frm ≤ fr)))[(fs.takeWhile (fun y : TFlow => decide (y.frm ≤ fr))).length]? = some x := by rw [e]; exact hx
  rw [List.getElem?_append_right (Nat.le_refl _), Nat.sub_self] at hx2
  have h2 := List.head?_dropWhile_not (fun y : TFlow => decide (y.frm ≤ fr)) fs
  rw [List.head?_eq_getElem?, hx2] at h2
  simpa using h2
theorem link_look {vs : List VF} {n i : Nat} {fr : Int} (hnl : n ≤ vs.length) (hi : i ≤ n) (h1 : ∀ (i : Nat) x, i < n → vs[i]? = some x → x.src ≤ fr) (h2 : ∀ x, vs[n]? = some x → fr < x.src) :
    (i < n ∧ i < vs.length ∧ ∃ x, vs[i]? = some x ∧ x.src ≤ fr ∧ ∀ h, vs[i]'h = x) ∨ (i = n ∧ i < vs.length ∧ ∃ x, vs[i]? = some x ∧ ¬ x.src ≤ fr ∧ ∀ h, vs[i]'h = x) ∨ (i = n ∧ ¬ i < vs.length ∧ ∃ x : VF, True ∧ True ∧ True) := by
  rcases Nat.lt_or_ge i n with h | h
  · obtain ⟨x, hx⟩ := at_some (l := vs) (i := i) (by omega)
    exact Or.inl ⟨h, by omega, x, hx, h1 i x h hx, gel hx⟩
  · have e : i = n := by omega
    subst e
    rcases Nat.lt_or_ge i vs.length with h3 | h3
    · obtain ⟨x, hx⟩ := at_some h3
      exact Or.inr (Or.inl ⟨rfl, h3, x, hx, by have := h2 x hx; omega, gel hx⟩)
    · exact Or.inr (Or.inr ⟨rfl, by omega, ⟨0, 0, default⟩, True.intro, True.intro, True.intro⟩)
theorem link_here {vs : List VF} {n : Nat} {r : List AV} (h : n ≤ vs.length) : ((vs.map VF.row).take n ++ r :: (vs.map VF.row).drop n)[n]? = some r := by
  rw [List.getElem?_append_right (by rw [List.length_take]; omega), List.length_take, List.length_map, Nat.min_eq_left h, Nat.sub_self]; rfl
theorem link_set {vs : List VF} {n : Nat} {r r2 : List AV} (h : n ≤ vs.length) : ((vs.map VF.row).take n ++ r :: (vs.map VF.row).drop n).set n r2 = (vs.map VF.row).take n ++ r2 :: (vs.map VF.row).drop n := by
  rw [List.set_append, List.length_take, List.length_map, Nat.min_eq_left h, if_neg (Nat.lt_irrefl _), Nat.sub_self]; rfl
theorem vf_ok {Q : Nat → Prop} {l : List (List AV)} {vs : List VF} (h : ∀ c ∈ l, c ∈ vs.map VF.row) : (∀ c, c ∈ l → ∀ x, x ∈ c → x.plain = true ∧ ∀ y, y ∈ x.ids → Q y) ↔ True := by
  simp only [iff_true]
  intro c hc x hx
  obtain ⟨v, _, rfl⟩ := List.mem_map.1 (h c hc)
  simp only [VF.row, List.mem_cons, List.not_mem_nil, or_false] at hx
  rcases hx with rfl | rfl | rfl <;> exact ⟨rfl, by intro y hy; simp [AV.ids] at hy⟩
@[go_sem high] theorem vf_take_ok {Q : Nat → Prop} (vs : List VF) (i : Nat) : (∀ c, c ∈ (vs.map VF.row).take i → ∀ x, x ∈ c → x.plain = true ∧ ∀ y, y ∈ x.ids → Q y) ↔ True := vf_ok fun c hc => List.mem_of_mem_take hc
@[go_sem high] theorem vf_drop_ok {Q : Nat → Prop} (vs : List VF) (i : Nat) : (∀ c, c ∈ (vs.map VF.row).drop i → ∀ x, x ∈ c → x.plain = true ∧ ∀ y, y ∈ x.ids → Q y) ↔ True := vf_ok fun c hc => List.mem_of_mem_drop hc
@[go_sem high] theorem vf_take_ids (vs : List VF) (i : Nat) : ((vs.map VF.row).take i).flatMap idsL = [] := by rw [← List.map_take]; exact VF_row_idsL _
@[go_sem high] theorem vf_drop_ids (vs : List VF) (i : Nat) : ((vs.map VF.row).drop i).flatMap idsL = [] := by rw [← List.map_drop]; exact VF_row_idsL _
theorem vf_tree {vs : List VF} {n : Nat} {r : List AV} (hr : ∀ x ∈ r, AV.tree x = true) : ∀ c ∈ (vs.map VF.row).take n ++ r :: (vs.map VF.row).drop n, ∀ x ∈ c, AV.tree x = true := by
  have key : ∀ c ∈ vs.map VF.row, ∀ x ∈ c, AV.tree x = true := (VF_row_treeL vs).2 True.intro
  intro c hc x hx
  rcases List.mem_append.1 hc with h | h
  · exact key c (List.mem_of_mem_take h) x hx
  · rcases List.mem_cons.1 h with rfl | h
    · exact hr x hx
    · exact key c (List.mem_of_mem_drop h) x hx
/-- flows put in one by one -/
def lk (F l : List TFlow) : List TFlow := l.foldl (putK TFlow.frm) F
theorem lk_app (F a b : List TFlow) : lk F (a ++ b) = lk (lk F a) b := by simp [lk, List.foldl_append]
theorem lk_one (F : List TFlow) (x : TFlow) : lk F [x] = putK TFlow.frm F x := rfl
theorem lk_len (F l : List TFlow) : (lk F l).length = F.length + l.length := by
  have := (puts_perm (key := TFlow.frm) l F).length_eq
  rw [List.length_append] at this; exact this
theorem lk_srt (l : List TFlow) : lk [] l = srt TFlow.frm l := rfl
/-- what a step has not -/
theorem ProcOk.bare {p : List TStep} (h : ProcOk p) {a : Nat} (ha : a < p.length) : ((nS p a).kind ≠ 2 → (nS p a).name = []) ∧ (highA (nS p a).kind = 0 → (nS p a).arg = 0) ∧ ((nS p a).kind ≠ 7 → (nS p a).expr = []) ∧ 1 ≤ (nS p a).kind ∧ (nS p a).kind ≤ 8 := by
  have h1 := h.one a ha
  unfold oneF stepF at h1
  split at h1
  · cases h1
  rename_i h2
  have h3 : ¬ alien (nS p a) = true := fun e => h2 (Or.inr (Or.inr e))
  unfold alien at h3
  simp only [Bool.or_eq_true, Bool.and_eq_true, decide_eq_true_eq, not_or, not_and] at h3
  obtain ⟨⟨a1, a2⟩, a3⟩ := h3
  refine ⟨fun hk => ?_, fun hk => ?_, fun hk => ?_, by omega, by omega⟩
  · by_cases e : (nS p a).name = []
    · exact e
    · exact absurd hk (a1 e)
  · by_cases e : (nS p a).arg = 0
    · exact e
    · exact absurd hk (a2 e)
  · by_cases e : 0 < (nS p a).expr.length
    · exact absurd hk (a3 e)
    · exact List.eq_nil_of_length_eq_zero (by omega)
end Go.AM
set_option maxHeartbeats 600000
set_option maxRecDepth 100000
namespace Go.AM
open Go.Proofs

end Go.AM
namespace Go.AM
open Go.Proofs

end Go.AM
namespace Go.AM
open Go.Proofs

/-- laws.markText -/
theorem dc_laws_markText (k : Int) (hk : k ≤ 4611686018427387904) : DC Try.prog 32 [.int .i64 k] (.str (mt k)) [] := by
 refine DC.intro tiOk Try.func32 rfl rfl rfl rfl rfl rfl rfl rfl [] ?_
 refine rgA [0] ?_
 refine AW.seq ?_
 refine rgA [0,5] ?_
 refine AW.cond rfl ?_ ?_
 ·intro hc; try simp at hc
  all_goals (
   refine rgA [2] ?_
   refine rt ?_
   first | (simp [go_sem, Try.results32, mt, *]; done) | (have hz := digs_zero (n := k'.toNat) (k := k') (acc := acc) (by simpa using hc); have hk0 : ¬ k ≤ 0 := (by omega); simp [go_sem, Try.results32, mt, hk0, h4, hz]))
 ·intro hc; try simp at hc
  all_goals (
   refine AW.skipN (fun _ h => h) ?_
   refine rgA [0,3] ?_
   refine AW.seq ?_
   refine AW.block ?_
   refine AW.loopI (fun i : Int × List UInt8 => ⟨20, [(0, .int .i64 i.1), (3, .str i.2)], []⟩) (fun i => 0 ≤ i.1 ∧ i.1 * 10 ^ i.2.length ≤ 4611686018427387904 ∧ i.2.length ≤ 19 ∧ digs k.toNat k [] = digs i.1.toNat i.1 i.2) (fun i => i.1.toNat) ((k, [])) (by refine ⟨by omega, by simp; omega, by simp, rfl⟩) (Less.of rfl (by simp [go_sem]) (by simp [go_sem])) ?_
   rintro ⟨k', acc⟩ ⟨h1, h2, h3, h4⟩
   simp only at h1 h2 h3 h4
   refine AW.seq ?_
   refine rgA [0,3,7] ?_
   refine AW.cond rfl ?_ ?_
   ·intro hc; try simp at hc
    all_goals (
     have hlt : 0 < k' := by simpa using hc
     have htm : k'.tmod 10 = k' % 10 := Int.tmod_eq_emod_of_nonneg h1
     have htd : k'.tdiv 10 = k' / 10 := Int.tdiv_eq_ediv_of_nonneg h1
     have hkb := mt_big hlt h2
     have hw1 : IntKind.wrap .i64 (48 + k' % 10) = 48 + k' % 10 := wrap64 (by omega) (by omega)
     have hw2 : IntKind.wrap .i64 (k' / 10) = k' / 10 := wrap64 (by omega) (by omega)
     obtain ⟨hs1, hs2⟩ := mt_step hlt h2
     refine AW.skipN (fun _ h => h) ?_
     refine AW.block ?_
     refine rg [0,3] ?_
     intro k hk; simp -dsimp (maxSteps := 2000000) [go_sem, -decide_eq_true_eq, -decide_eq_false_iff_not, htm, htd, hw1, hw2]
     repeat' first | apply And.intro | refine hk _ ?_ | intro hg | omega | exact True.intro
     all_goals clear hk k
     refine rgK ?_
     intro k hk; simp -dsimp [go_sem, -decide_eq_true_eq, -decide_eq_false_iff_not, htm, htd, hw1, hw2]
     repeat' first | apply And.intro | refine hk _ ?_ | intro hg | omega | exact True.intro
     all_goals clear hk k
     show ∃ _, _
     refine ⟨(k' / 10, b8 (48 + k' % 10) :: acc), ⟨by simp only; omega, by simpa using hs2, by simp; omega, ?_⟩, by simp only; omega, Less.of rfl (by simp [go_sem, hw2]) (by simp [go_sem])⟩
     rw [h4, digs_step hlt])
   ·intro hc; try simp at hc
    all_goals (
     refine AW.exitN (fun _ h => h) ?_
     refine rgA [2] ?_
     refine rt ?_
     first | (simp [go_sem, Try.results32, mt, *]; done) | (have hz := digs_zero (n := k'.toNat) (k := k') (acc := acc) (by simpa using hc); have hk0 : ¬ k ≤ 0 := (by omega); simp [go_sem, Try.results32, mt, hk0, h4, hz])))

end Go.AM
namespace Go.AM
open Go.Proofs

/-- slices.Clone[[]impl.Node,impl.Node] -/
theorem dc_CloneN_n  : DC Try.prog 60 [.nils] (.isl 4 []) [] := by
 refine DC.intro tiOk Try.func60 rfl rfl rfl rfl rfl rfl rfl rfl [] ?_
 refine rgA [0] ?_
 refine AW.seq ?_
 refine rgA [0,4] ?_
 refine AW.cond rfl ?_ ?_
 ·intro hc; try simp at hc
  all_goals try (exfalso; simp at hc; done)
  all_goals (
   refine rgA [2] ?_
   refine rt ?_
   simp [go_sem, Try.results60])
 ·intro hc; try simp at hc
  all_goals try (exfalso; simp at hc; done)
  all_goals (
   refine AW.skipN (fun _ h => h) ?_
   refine rgA [2] ?_
   refine rt ?_
   simp [go_sem, Try.results60])

/-- slices.Clone[[]impl.Node,impl.Node] -/
theorem dc_CloneN_e  : DC Try.prog 60 [.nel] (.isl 4 []) [] := by
 refine DC.intro tiOk Try.func60 rfl rfl rfl rfl rfl rfl rfl rfl [1000] ?_
 refine rgA [0] ?_
 refine AW.seq ?_
 refine rgA [0,4] ?_
 refine AW.cond rfl ?_ ?_
 ·intro hc; try simp at hc
  all_goals try (exfalso; simp at hc; done)
  all_goals (
   refine rgA [2] ?_
   refine rt ?_
   simp [go_sem, Try.results60])
 ·intro hc; try simp at hc
  all_goals try (exfalso; simp at hc; done)
  all_goals (
   refine AW.skipN (fun _ h => h) ?_
   refine AW.slotLe (x := ?x_1) 0 (.isl 4 []) ?h1_1 ?h2_1 ?kk_1
   (case h1_1 => exact rfl)
   (case h2_1 => simp [go_sem])
   refine rgA [2] ?_
   refine rt ?_
   simp [go_sem, Try.results60])
theorem dc_CloneN_nil : DC Try.prog 60 [.isl 4 []] (.isl 4 []) [] := DC.empty dc_CloneN_n dc_CloneN_e

/-- slices.Clone[[]impl.Node,impl.Node] -/
theorem dc_CloneN_c (x : TNode) (r : List TNode) (hb : r.length + 1 ≤ 1048576) : DC Try.prog 60 [.isl 4 ((x :: r).map TNode.ro)] (.osl 4 ((x :: r).map TNode.ro)) [] := by
 refine DC.intro tiOk Try.func60 rfl rfl rfl rfl rfl rfl rfl rfl [1000] ?_
 refine rgA [0] ?_
 refine AW.seq ?_
 refine rgA [0,4] ?_
 refine AW.cond rfl ?_ ?_
 ·intro hc; try simp at hc
  all_goals try (exfalso; simp at hc; done)
  all_goals (
   refine rgA [2] ?_
   refine rt ?_
   simp [go_sem, Try.results60])
 ·intro hc; try simp at hc
  all_goals try (exfalso; simp at hc; done)
  all_goals (
   refine AW.skipN (fun _ h => h) ?_
   refine rgA [2] ?_
   refine rt ?_
   simp [go_sem, Try.results60])
theorem dc_CloneN (l : List TNode) (hb : l.length ≤ 1048576) : DC Try.prog 60 [.isl 4 (l.map TNode.ro)] (owc 4 (l.map TNode.ro)) [] := by
  cases l with
  | nil => exact dc_CloneN_nil
  | cons x r => exact dc_CloneN_c x r hb

end Go.AM
namespace Go.AM
open Go.Proofs

set_option maxHeartbeats 4000000 in
/-- (*impl.graphMaker).node -/
theorem dc_impl_graphMaker_node_z (p : List TStep) (ns : List TGNode) (fs : List TFlow) (kd st k0 s0 ag : Int) (nm : List UInt8) (hn : ns.length ≤ 1000) : DC Try.prog 65 [.op (mrow p ns fs), .int .i64 kd, .int .i64 st, .agg [.int .i64 k0, .int .i64 s0, .str nm, .int .i64 ag, .nils]] (.int .i64 (ns.length : Nat)) [(0, .op (mrow p (ns ++ [(⟨kd, st, nm, ag, []⟩ : TGNode)]) fs))] := by
 have hne : nlc 5 ((ns ++ [(⟨kd, st, nm, ag, []⟩ : TGNode)]).map TGNode.oc) = .osl 5 ((ns ++ [(⟨kd, st, nm, ag, []⟩ : TGNode)]).map TGNode.oc) := by rw [List.map_append]; exact nlc_snoc _ _ _
 have htk : (ns.map TGNode.oc).take ns.length = ns.map TGNode.oc := List.take_of_length_le (by rw [List.length_map]; exact Nat.le_refl _)
 have hwl : IntKind.wrap .i64 ((ns.length : Nat) : Int) = ((ns.length : Nat) : Int) := wrap64 (by omega) (by omega)
 have hwz : IntKind.wrap .i64 0 = 0 := wrap64 (by omega) (by omega)
 refine DC.introG tiOk Try.func65 rfl rfl rfl rfl rfl rfl rfl (by simp [noW, noWo]) [] ?_
 refine rg [0,1,2,7] ?_
 intro k hk; simp -dsimp [go_sem, -decide_eq_true_eq, -decide_eq_false_iff_not, htk, hwl, hwz]
 repeat' first | apply And.intro | refine hk _ ?_ | intro hg | omega | exact True.intro
 all_goals clear hk k
 refine rg [0,7] ?_
 intro k hk; simp -dsimp [go_sem, -decide_eq_true_eq, -decide_eq_false_iff_not, htk, hwl, hwz]
 repeat' first | apply And.intro | refine hk _ ?_ | intro hg | omega | exact True.intro
 all_goals clear hk k
 rcases nlN ns with ⟨hnc, hl0⟩ | ⟨hnc, hl0⟩
 all_goals (
  rw [hnc]
  try refine AW.thaw 1900 0 1 7001 rfl rfl rfl (by simp [go_sem]) ?_
  refine rg0 [0] ?_
  intro k hk; simp -dsimp (maxSteps := 2000000) [go_sem, -decide_eq_true_eq, -decide_eq_false_iff_not, htk, hwl, hwz]
  repeat' first | ((refine Chk.keys ?_); simp only [go_sem, List.map_cons, List.map_nil, List.flatMap_cons, List.flatMap_nil, List.flatMap_append, List.append_nil, List.nil_append, List.cons_append]; decide +kernel) | apply And.intro | refine hk _ ?_ | intro hg | omega | exact True.intro
  all_goals clear hk k
  first | refine AW.cellLe 21 0 4 (.isl 4 []) rfl rfl rfl (by simp [go_sem]) ?_ | refine AW.cellLe 21 ns.length 4 (.isl 4 []) rfl (app_here (by simp)) rfl (by simp [go_sem]) ?_
  refine rg [0,8] ?_
  intro k hk; simp -dsimp (maxSteps := 2000000) [go_sem, -decide_eq_true_eq, -decide_eq_false_iff_not, htk, hwl, hwz]
  repeat' first | apply And.intro | refine hk _ ?_ | intro hg | omega | exact True.intro
  all_goals clear hk k
  refine AW.ret ⟨.inr rfl, ?_⟩
  refine Gh.fold 1900 0 1 21 rfl rfl rfl rfl (by simp) (by decide) (by first | exact tree_snocA (by simp [go_sem]) (by simp [go_sem]) | (simp only [List.set_append, List.length_map, Nat.lt_irrefl, if_false, ite_false, Nat.sub_self, List.set_cons_zero]; exact tree_snocA (by simp [go_sem]) (by simp [go_sem])) | simp [go_sem]) ?_
  refine Gh.done ?_
  first | (subst hl0; simp [go_sem, Try.results65]; done) | (simp [go_sem, Try.results65, hne, List.set_append]; done) | simp [go_sem, Try.results65, hne, hl0, List.set_append])

set_option maxHeartbeats 4000000 in
/-- (*impl.graphMaker).node -/
theorem dc_impl_graphMaker_node_o (p : List TStep) (ns : List TGNode) (fs : List TFlow) (kd st k0 s0 ag : Int) (nm : List UInt8) (e : List TNode) (he : e ≠ []) (hn : ns.length ≤ 1000) : DC Try.prog 65 [.op (mrow p ns fs), .int .i64 kd, .int .i64 st, .agg [.int .i64 k0, .int .i64 s0, .str nm, .int .i64 ag, .osl 4 (e.map TNode.ro)]] (.int .i64 (ns.length : Nat)) [(0, .op (mrow p (ns ++ [(⟨kd, st, nm, ag, e⟩ : TGNode)]) fs))] := by
 have hne : nlc 5 ((ns ++ [(⟨kd, st, nm, ag, e⟩ : TGNode)]).map TGNode.oc) = .osl 5 ((ns ++ [(⟨kd, st, nm, ag, e⟩ : TGNode)]).map TGNode.oc) := by rw [List.map_append]; exact nlc_snoc _ _ _
 have htk : (ns.map TGNode.oc).take ns.length = ns.map TGNode.oc := List.take_of_length_le (by rw [List.length_map]; exact Nat.le_refl _)
 have hwl : IntKind.wrap .i64 ((ns.length : Nat) : Int) = ((ns.length : Nat) : Int) := wrap64 (by omega) (by omega)
 have hwz : IntKind.wrap .i64 0 = 0 := wrap64 (by omega) (by omega)
 have hoc : owc 4 (e.map TNode.ro) = .osl 4 (e.map TNode.ro) := owc_ne (by simpa using he)
 refine DC.introG tiOk Try.func65 rfl rfl rfl rfl rfl rfl rfl (by simp [noW, noWo]) [] ?_
 refine rg [0,1,2,7] ?_
 intro k hk; simp -dsimp [go_sem, -decide_eq_true_eq, -decide_eq_false_iff_not, htk, hwl, hwz, hoc]
 repeat' first | apply And.intro | refine hk _ ?_ | intro hg | omega | exact True.intro
 all_goals clear hk k
 refine rg [0,7] ?_
 intro k hk; simp -dsimp [go_sem, -decide_eq_true_eq, -decide_eq_false_iff_not, htk, hwl, hwz, hoc]
 repeat' first | apply And.intro | refine hk _ ?_ | intro hg | omega | exact True.intro
 all_goals clear hk k
 rcases nlN ns with ⟨hnc, hl0⟩ | ⟨hnc, hl0⟩
 all_goals (
  rw [hnc]
  try refine AW.thaw 1900 0 1 7001 rfl rfl rfl (by simp [go_sem]) ?_
  refine rg0 [0] ?_
  intro k hk; simp -dsimp (maxSteps := 2000000) [go_sem, -decide_eq_true_eq, -decide_eq_false_iff_not, htk, hwl, hwz, hoc]
  repeat' first | ((refine Chk.keys ?_); simp only [go_sem, List.map_cons, List.map_nil, List.flatMap_cons, List.flatMap_nil, List.flatMap_append, List.append_nil, List.nil_append, List.cons_append]; decide +kernel) | apply And.intro | refine hk _ ?_ | intro hg | omega | exact True.intro
  all_goals clear hk k
  refine rg [0,8] ?_
  intro k hk; simp -dsimp (maxSteps := 2000000) [go_sem, -decide_eq_true_eq, -decide_eq_false_iff_not, htk, hwl, hwz, hoc]
  repeat' first | apply And.intro | refine hk _ ?_ | intro hg | omega | exact True.intro
  all_goals clear hk k
  refine AW.ret ⟨.inr rfl, ?_⟩
  first | refine Gh.fold 21 0 4 1903 rfl rfl rfl rfl (by simp) (by decide) (by simp [go_sem]) ?_ | refine Gh.fold 21 ns.length 4 1903 rfl (app_here (by simp)) rfl rfl (by simp) (by decide) (by simp [go_sem]) ?_
  refine Gh.fold 1900 0 1 21 rfl rfl rfl rfl (by simp) (by decide) (by first | exact tree_snocA (by simp [go_sem]) (by simp [go_sem]) | (simp only [List.set_append, List.length_map, Nat.lt_irrefl, if_false, ite_false, Nat.sub_self, List.set_cons_zero]; exact tree_snocA (by simp [go_sem]) (by simp [go_sem])) | simp [go_sem]) ?_
  refine Gh.done ?_
  first | (subst hl0; simp [go_sem, Try.results65, hoc]; done) | (simp [go_sem, Try.results65, hne, hoc, List.set_append]; done) | simp [go_sem, Try.results65, hne, hl0, hoc, List.set_append])

end Go.AM
namespace Go.AM
open Go.Proofs

set_option maxHeartbeats 4000000 in
/-- (*impl.graphMaker).flow -/
theorem dc_impl_graphMaker_flow_n (p : List TStep) (ns : List TGNode) (fs : List TFlow) (fr to : Int) (hn : fs.length ≤ 1000) : DC Try.prog 67 [.op (mrow p ns fs), .int .i64 fr, .int .i64 to, .nils] (.tup []) [(0, .op (mrow p ns (fs ++ [(⟨fr, to, []⟩ : TFlow)])))] := by
 have hne : nlc 3 ((fs ++ [(⟨fr, to, []⟩ : TFlow)]).map TFlow.oc) = .osl 3 ((fs ++ [(⟨fr, to, []⟩ : TFlow)]).map TFlow.oc) := by rw [List.map_append]; exact nlc_snoc _ _ _
 have htk : (fs.map TFlow.oc).take fs.length = fs.map TFlow.oc := List.take_of_length_le (by rw [List.length_map]; exact Nat.le_refl _)
 refine DC.introG tiOk Try.func67 rfl rfl rfl rfl rfl rfl rfl (by simp [noW, noWo]) [] ?_
 rcases nlF fs with ⟨hnc, hl0⟩ | ⟨hnc, hl0⟩
 all_goals (
  have hmw : mrow p ns fs = [.isl 6 (p.map TStep.ro), nlc 5 (ns.map TGNode.oc), nlc 3 (fs.map TFlow.oc)] := rfl
  rw [hnc] at hmw
  rw [hmw]
  try refine AW.thaw 1900 0 2 7001 rfl rfl rfl (by simp [go_sem]) ?_
  refine rgE (fun _ => []) ?_
  intro k hk; simp -dsimp (maxSteps := 2000000) [go_sem, -decide_eq_true_eq, -decide_eq_false_iff_not, htk]
  repeat' first | ((refine Chk.keys ?_); simp only [go_sem, List.map_cons, List.map_nil, List.flatMap_cons, List.flatMap_nil, List.flatMap_append, List.append_nil, List.nil_append, List.cons_append]; decide +kernel) | apply And.intro | refine hk _ ?_ | intro hg | (refine CallK.intro (dc_CloneN_n) ?_; simp -dsimp (maxSteps := 2000000) [go_sem, -decide_eq_true_eq, -decide_eq_false_iff_not, htk]) | omega | exact True.intro
  all_goals clear hk k
  refine ⟨.intro, And.intro (.inl rfl) ?_⟩
  refine Gh.fold 1900 0 2 20 rfl rfl rfl rfl (by simp) (by decide) (by first | exact tree_snocA (by simp [go_sem]) (by simp [go_sem]) | (simp only [List.set_append, List.length_map, Nat.lt_irrefl, if_false, ite_false, Nat.sub_self, List.set_cons_zero]; exact tree_snocA (by simp [go_sem]) (by simp [go_sem])) | simp [go_sem]) ?_
  refine Gh.done ?_
  first | (subst hl0; simp [go_sem, Try.results67]; done) | (simp [go_sem, Try.results67, hne, List.set_append]; done) | (simp [go_sem, Try.results67, hne, hl0, List.set_append]; done))

set_option maxHeartbeats 4000000 in
/-- (*impl.graphMaker).flow -/
theorem dc_impl_graphMaker_flow_c (p : List TStep) (ns : List TGNode) (fs : List TFlow) (fr to : Int) (c : List TNode) (hc0 : c.length ≤ 1048576) (hn : fs.length ≤ 1000) : DC Try.prog 67 [.op (mrow p ns fs), .int .i64 fr, .int .i64 to, .isl 4 (c.map TNode.ro)] (.tup []) [(0, .op (mrow p ns (fs ++ [(⟨fr, to, c⟩ : TFlow)])))] := by
 have hne : nlc 3 ((fs ++ [(⟨fr, to, c⟩ : TFlow)]).map TFlow.oc) = .osl 3 ((fs ++ [(⟨fr, to, c⟩ : TFlow)]).map TFlow.oc) := by rw [List.map_append]; exact nlc_snoc _ _ _
 have htk : (fs.map TFlow.oc).take fs.length = fs.map TFlow.oc := List.take_of_length_le (by rw [List.length_map]; exact Nat.le_refl _)
 refine DC.introG tiOk Try.func67 rfl rfl rfl rfl rfl rfl rfl (by simp [noW, noWo]) [] ?_
 rcases nlF fs with ⟨hnc, hl0⟩ | ⟨hnc, hl0⟩ <;> rcases ccases c with ⟨hoc, hoc0⟩ | ⟨hoc, hoc0⟩
 all_goals (
  have hmw : mrow p ns fs = [.isl 6 (p.map TStep.ro), nlc 5 (ns.map TGNode.oc), nlc 3 (fs.map TFlow.oc)] := rfl
  rw [hnc] at hmw
  rw [hmw]
  try refine AW.thaw 1900 0 2 7001 rfl rfl rfl (by simp [go_sem]) ?_
  refine rgE (fun _ => []) ?_
  intro k hk; simp -dsimp (maxSteps := 2000000) [go_sem, -decide_eq_true_eq, -decide_eq_false_iff_not, htk, hoc]
  repeat' first | ((refine Chk.keys ?_); simp only [go_sem, List.map_cons, List.map_nil, List.flatMap_cons, List.flatMap_nil, List.flatMap_append, List.append_nil, List.nil_append, List.cons_append]; decide +kernel) | apply And.intro | refine hk _ ?_ | intro hg | (refine CallK.intro (dc_CloneN c hc0) ?_; simp -dsimp (maxSteps := 2000000) [go_sem, -decide_eq_true_eq, -decide_eq_false_iff_not, htk, hoc]) | omega | exact True.intro
  all_goals clear hk k
  refine ⟨.intro, And.intro (.inl rfl) ?_⟩
  try (guard_hyp hoc0 : 0 < c.length; first | refine Gh.fold 20 0 2 1017 rfl rfl rfl rfl (by simp) (by decide) (by simp [go_sem]) ?_ | refine Gh.fold 20 fs.length 2 1017 rfl (app_here (by simp)) rfl rfl (by simp) (by decide) (by simp [go_sem]) ?_)
  refine Gh.fold 1900 0 2 20 rfl rfl rfl rfl (by simp) (by decide) (by first | exact tree_snocA (by simp [go_sem]) (by simp [go_sem]) | (simp only [List.set_append, List.length_map, Nat.lt_irrefl, if_false, ite_false, Nat.sub_self, List.set_cons_zero]; exact tree_snocA (by simp [go_sem]) (by simp [go_sem])) | simp [go_sem]) ?_
  refine Gh.done ?_
  first | (subst hl0; simp [go_sem, Try.results67, hoc]; done) | (simp [go_sem, Try.results67, hne, hoc, List.set_append]; done) | (simp [go_sem, Try.results67, hne, hl0, hoc, List.set_append]; done))

end Go.AM
namespace Go.AM
open Go.Proofs

/-- impl.codeIf -/
theorem dc_impl_codeIf (b : Bool) (n : Int) : DC Try.prog 38 [.bool b, .int .i64 n] (.int .i64 (if b then n else 0)) [] := by
 refine DC.intro tiOk Try.func38 rfl rfl rfl rfl rfl rfl rfl rfl [] ?_
 refine rgA [0,1] ?_
 refine AW.seq ?_
 refine rgA [1,5] ?_
 refine AW.cond rfl ?_ ?_
 ·intro hc; try simp at hc
  all_goals (
   refine rgA [4] ?_
   refine rt ?_
   simp [go_sem, *, Try.results38])
 ·intro hc; try simp at hc
  all_goals (
   refine AW.skipN (fun _ h => h) ?_
   refine rgA [4] ?_
   refine rt ?_
   simp [go_sem, *, Try.results38])

/-- impl.inRange -/
theorem dc_impl_inRange (n lo hi : Int) : DC Try.prog 55 [.int .i64 n, .int .i64 lo, .int .i64 hi] (.bool (inR n lo hi)) [] := by
 refine DC.intro tiOk Try.func55 rfl rfl rfl rfl rfl rfl rfl rfl [] ?_
 refine rgA [0,1,2] ?_
 refine rg [6] ?_
 intro k hk; simp +contextual -dsimp (maxSteps := 2000000) [go_sem, -decide_eq_true_eq, -decide_eq_false_iff_not]
 repeat' first | apply And.intro | refine hk _ ?_ | (intro hg; try simp only [decide_eq_true_eq, decide_eq_false_iff_not] at hg) | omega | exact True.intro
 all_goals clear hk k
 all_goals (
  refine rt ?_
  simp [go_sem, *, inR, Try.results55, -decide_eq_true_eq, -decide_eq_false_iff_not])

/-- spec.l1In -/
theorem dc_spec_l1In (n lo hi : Int) : DC Try.prog 35 [.int .i64 n, .int .i64 lo, .int .i64 hi] (.bool (inR n lo hi)) [] := by
 refine DC.intro tiOk Try.func35 rfl rfl rfl rfl rfl rfl rfl rfl [] ?_
 refine rgA [0,1,2] ?_
 refine rg [6] ?_
 intro k hk; simp +contextual -dsimp (maxSteps := 2000000) [go_sem, -decide_eq_true_eq, -decide_eq_false_iff_not]
 repeat' first | apply And.intro | refine hk _ ?_ | (intro hg; try simp only [decide_eq_true_eq, decide_eq_false_iff_not] at hg) | omega | exact True.intro
 all_goals clear hk k
 all_goals (
  refine rt ?_
  simp [go_sem, *, inR, Try.results35, -decide_eq_true_eq, -decide_eq_false_iff_not])

/-- impl.areAll -/
theorem dc_impl_areAll (f : Nat) (p : UInt8 → Bool) (hf : ∀ c : UInt8, DC Try.prog f [.int .u8 c.toNat] (.bool (p c)) []) (s : List UInt8) (hs : s.length ≤ 9223372036854775807) : DC Try.prog 112 [.str s, .fn f []] (.bool (s.all p)) [] := by
 refine DC.intro tiOk Try.func112 rfl rfl rfl rfl rfl rfl rfl rfl [] ?_
 refine rgA [0,1] ?_
 refine AW.seq ?_
 refine rgA [0,1,7,8] ?_
 refine AW.block ?_
 refine AW.loopI (fun i : Nat => ⟨18, [(0, .str s), (1, .fn f []), (7, .int .i64 s.length), (8, .int .i64 i)], []⟩) (fun i => i ≤ s.length ∧ (s.take i).all p = true) (fun i => s.length - i) (0) (by simp) (Less.of rfl (by simp [go_sem]) (by simp [go_sem])) ?_
 rintro i ⟨hi, hall⟩
 refine rgA [0,1,7,8,9] ?_
 refine AW.seq ?_
 refine AW.cond rfl ?_ ?_
 ·intro hc; try simp at hc
  all_goals (
   have hlt : i < s.length := by assumption
   obtain ⟨x, hx⟩ := at_some hlt
   refine AW.skipN (fun _ h => h) ?_
   refine AW.seq ?_
   refine AW.block ?_
   refine rg [0,1,5,7,8] ?_
   intro k hk; simp -dsimp [go_sem, -decide_eq_true_eq, -decide_eq_false_iff_not, hx]
   repeat' first | apply And.intro | refine hk _ ?_ | intro hg | omega | exact True.intro
   all_goals clear hk k
   refine rg [0,1,7,8,16] ?_
   intro k hk; simp -dsimp (maxSteps := 2000000) [go_sem, -decide_eq_true_eq, -decide_eq_false_iff_not, hx]
   repeat' first | apply And.intro | refine hk _ ?_ | intro hg | (refine CallK.intro (hf x) ?_; simp -dsimp (maxSteps := 2000000) [go_sem, -decide_eq_true_eq, -decide_eq_false_iff_not, hx]) | omega | exact True.intro
   all_goals clear hk k
   refine AW.cond rfl ?_ ?_
   ·intro hc; try simp at hc
    all_goals (
     refine rg [4] ?_
     intro k hk; simp -dsimp [go_sem, -decide_eq_true_eq, -decide_eq_false_iff_not, hx]
     repeat' first | apply And.intro | refine hk _ ?_ | intro hg | omega | exact True.intro
     all_goals clear hk k
     refine rt ?_
     first | (have hr := all_not (p := p) hx (by assumption); simp [go_sem, Try.results112, hr]) | (have hr := all_end (show s.length ≤ i by omega) hall; simp [go_sem, Try.results112, hr]))
   ·intro hc; try simp at hc
    all_goals (
     refine AW.skipN (fun _ h => h) ?_
     refine rgK ?_
     intro k hk; simp -dsimp [go_sem, -decide_eq_true_eq, -decide_eq_false_iff_not, hx]
     repeat' first | apply And.intro | refine hk _ ?_ | intro hg | omega | exact True.intro
     all_goals clear hk k
     show ∃ _, _
     have hw := wrapi hlt hs
     refine ⟨i + 1, ⟨by omega, ?_⟩, by omega, Less.of rfl (by simp [go_sem, hw]) (by simp [go_sem])⟩
     rw [all_take hx hall]; assumption))
 ·intro hc; try simp at hc
  all_goals (
   refine AW.exitN (fun _ h => h) ?_
   refine rgA [4] ?_
   refine rt ?_
   first | (have hr := all_not (p := p) hx (by assumption); simp [go_sem, Try.results112, hr]) | (have hr := all_end (show s.length ≤ i by omega) hall; simp [go_sem, Try.results112, hr]))

/-- impl.firstCode -/
theorem dc_impl_firstCode (l : List Int) (hl : l.length ≤ 9223372036854775807) : DC Try.prog 37 [.isl 1 (l.map I1)] (.int .i64 (firstC l)) [] := by
 refine DC.intro tiOk Try.func37 rfl rfl rfl rfl rfl rfl rfl rfl [] ?_
 refine rgA [0] ?_
 refine AW.seq ?_
 refine rgA [5,6,7] ?_
 refine AW.block ?_
 refine AW.loopI (fun i : Nat => ⟨15, [(5, .isl 1 (l.map I1)), (6, .int .i64 l.length), (7, .int .i64 i)], []⟩) (fun i => i ≤ l.length ∧ firstC l = firstC (l.drop i)) (fun i => l.length - i) (0) (by simp) (Less.of rfl (by simp [go_sem]) (by simp [go_sem])) ?_
 rintro i ⟨hi, hinv⟩
 refine rgA [5,6,7,8] ?_
 refine AW.seq ?_
 refine AW.cond rfl ?_ ?_
 ·intro hc; try simp at hc
  all_goals (
   have hlt : i < l.length := by assumption
   obtain ⟨x, hx⟩ := at_some hlt
   refine AW.skipN (fun _ h => h) ?_
   refine AW.seq ?_
   refine AW.block ?_
   refine rg [4,5,6,7] ?_
   intro k hk; simp -dsimp [go_sem, -decide_eq_true_eq, -decide_eq_false_iff_not, hx]
   repeat' first | apply And.intro | refine hk _ ?_ | intro hg | omega | exact True.intro
   all_goals clear hk k
   refine rg [4,5,6,7,12] ?_
   intro k hk; simp -dsimp [go_sem, -decide_eq_true_eq, -decide_eq_false_iff_not, hx]
   repeat' first | apply And.intro | refine hk _ ?_ | intro hg | omega | exact True.intro
   all_goals clear hk k
   refine AW.cond rfl ?_ ?_
   ·intro hc; try simp at hc
    all_goals (
     refine rg [2] ?_
     intro k hk; simp -dsimp [go_sem, -decide_eq_true_eq, -decide_eq_false_iff_not, hx]
     repeat' first | apply And.intro | refine hk _ ?_ | intro hg | omega | exact True.intro
     all_goals clear hk k
     refine rt ?_
     first | (simp [go_sem, Try.results37, hinv, firstC_step hx, *]; done) | (simp [go_sem, Try.results37, hinv, firstC_end (show l.length ≤ i by omega)]))
   ·intro hc; try simp at hc
    all_goals (
     refine AW.skipN (fun _ h => h) ?_
     refine rgK ?_
     intro k hk; simp -dsimp [go_sem, -decide_eq_true_eq, -decide_eq_false_iff_not, hx]
     repeat' first | apply And.intro | refine hk _ ?_ | intro hg | omega | exact True.intro
     all_goals clear hk k
     show ∃ _, _
     have hw := wrapi hlt hl
     refine ⟨i + 1, ⟨by omega, ?_⟩, by omega, Less.of rfl (by simp [go_sem, hw]) (by simp [go_sem])⟩
     rw [hinv, firstC_step hx, if_pos (by assumption)]))
 ·intro hc; try simp at hc
  all_goals (
   refine AW.exitN (fun _ h => h) ?_
   refine rgA [2] ?_
   refine rt ?_
   first | (simp [go_sem, Try.results37, hinv, firstC_step hx, *]; done) | (simp [go_sem, Try.results37, hinv, firstC_end (show l.length ≤ i by omega)]))

end Go.AM
namespace Go.AM
open Go.Proofs

/-- impl.argBounds -/
theorem dc_impl_argBounds (k : Int) : DC Try.prog 91 [.int .i64 k] (.tup [.int .i64 (lowA k), .int .i64 (highA k)]) [] := by
 refine DC.intro tiOk Try.func91 rfl rfl rfl rfl rfl rfl rfl rfl [] ?_
 refine rgA [0] ?_
 refine AW.seq ?_
 refine rgA [4] ?_
 refine AW.block ?_
 refine rgA [4,5] ?_
 refine AW.cond rfl ?_ ?_
 ·intro hc; try simp at hc
  all_goals try (exfalso; omega; done)
  all_goals (
   refine rgA [2,3] ?_
   refine rt ?_
   simp [go_sem, Try.results91, lowA, highA] <;> grind)
 ·intro hc; try simp at hc
  all_goals try (exfalso; omega; done)
  all_goals (
   refine AW.seq ?_
   refine rgA [4,7] ?_
   refine AW.cond rfl ?_ ?_
   ·intro hc; try simp at hc
    all_goals try (exfalso; omega; done)
    all_goals (
     refine AW.skipN (fun _ h => h) ?_
     refine AW.cond rfl ?_ ?_
     ·intro hc; try simp at hc
      all_goals try (exfalso; omega; done)
      all_goals (
       refine rgA [2,3] ?_
       refine rt ?_
       simp [go_sem, Try.results91, lowA, highA] <;> grind)
     ·intro hc; try simp at hc
      all_goals try (exfalso; omega; done)
      all_goals (
       refine rgA [10] ?_
       refine AW.cond rfl ?_ ?_
       ·intro hc; try simp at hc
        all_goals try (exfalso; omega; done)
        all_goals (
         refine rgA [2,3] ?_
         refine rt ?_
         simp [go_sem, Try.results91, lowA, highA] <;> grind)
       ·intro hc; try simp at hc
        all_goals try (exfalso; omega; done)
        all_goals (
         refine AW.skipN (fun _ h => h) ?_
         refine rgA [2,3] ?_
         refine rt ?_
         simp [go_sem, Try.results91, lowA, highA] <;> grind)))
   ·intro hc; try simp at hc
    all_goals try (exfalso; omega; done)
    all_goals (
     refine rgNA [4,7] (fun _ h => h) ?_
     refine AW.cond rfl ?_ ?_
     ·intro hc; try simp at hc
      all_goals try (exfalso; omega; done)
      all_goals (
       refine rgA [2,3] ?_
       refine rt ?_
       simp [go_sem, Try.results91, lowA, highA] <;> grind)
     ·intro hc; try simp at hc
      all_goals try (exfalso; omega; done)
      all_goals (
       refine rgA [10] ?_
       refine AW.cond rfl ?_ ?_
       ·intro hc; try simp at hc
        all_goals try (exfalso; omega; done)
        all_goals (
         refine rgA [2,3] ?_
         refine rt ?_
         simp [go_sem, Try.results91, lowA, highA] <;> grind)
       ·intro hc; try simp at hc
        all_goals try (exfalso; omega; done)
        all_goals (
         refine AW.skipN (fun _ h => h) ?_
         refine rgA [2,3] ?_
         refine rt ?_
         simp [go_sem, Try.results91, lowA, highA] <;> grind))))

/-- impl.kidBounds -/
theorem dc_impl_kidBounds (k : Int) : DC Try.prog 96 [.int .i64 k] (.tup [.int .i64 (kidLo k), .int .i64 (kidHi k)]) [] := by
 refine DC.intro tiOk Try.func96 rfl rfl rfl rfl rfl rfl rfl rfl [] ?_
 refine rgA [0] ?_
 refine AW.seq ?_
 refine rgA [4] ?_
 refine AW.block ?_
 refine rgA [4,5] ?_
 refine AW.cond rfl ?_ ?_
 ·intro hc; try simp at hc
  all_goals try (exfalso; omega; done)
  all_goals (
   refine rgA [2,3] ?_
   refine rt ?_
   simp [go_sem, Try.results96, kidLo, kidHi] <;> grind)
 ·intro hc; try simp at hc
  all_goals try (exfalso; omega; done)
  all_goals (
   refine AW.seq ?_
   refine rgA [4,7] ?_
   refine AW.cond rfl ?_ ?_
   ·intro hc; try simp at hc
    all_goals try (exfalso; omega; done)
    all_goals (
     refine AW.skipN (fun _ h => h) ?_
     refine AW.cond rfl ?_ ?_
     ·intro hc; try simp at hc
      all_goals try (exfalso; omega; done)
      all_goals (
       refine rgA [2,3] ?_
       refine rt ?_
       simp [go_sem, Try.results96, kidLo, kidHi] <;> grind)
     ·intro hc; try simp at hc
      all_goals try (exfalso; omega; done)
      all_goals (
       refine rgA [10] ?_
       refine AW.cond rfl ?_ ?_
       ·intro hc; try simp at hc
        all_goals try (exfalso; omega; done)
        all_goals (
         refine rgA [2,3] ?_
         refine rt ?_
         simp [go_sem, Try.results96, kidLo, kidHi] <;> grind)
       ·intro hc; try simp at hc
        all_goals try (exfalso; omega; done)
        all_goals (
         refine AW.skipN (fun _ h => h) ?_
         refine rgA [2,3] ?_
         refine rt ?_
         simp [go_sem, Try.results96, kidLo, kidHi] <;> grind)))
   ·intro hc; try simp at hc
    all_goals try (exfalso; omega; done)
    all_goals (
     refine rgNA [4,7] (fun _ h => h) ?_
     refine AW.cond rfl ?_ ?_
     ·intro hc; try simp at hc
      all_goals try (exfalso; omega; done)
      all_goals (
       refine rgA [2,3] ?_
       refine rt ?_
       simp [go_sem, Try.results96, kidLo, kidHi] <;> grind)
     ·intro hc; try simp at hc
      all_goals try (exfalso; omega; done)
      all_goals (
       refine rgA [10] ?_
       refine AW.cond rfl ?_ ?_
       ·intro hc; try simp at hc
        all_goals try (exfalso; omega; done)
        all_goals (
         refine rgA [2,3] ?_
         refine rt ?_
         simp [go_sem, Try.results96, kidLo, kidHi] <;> grind)
       ·intro hc; try simp at hc
        all_goals try (exfalso; omega; done)
        all_goals (
         refine AW.skipN (fun _ h => h) ?_
         refine rgA [2,3] ?_
         refine rt ?_
         simp [go_sem, Try.results96, kidLo, kidHi] <;> grind))))

/-- spec.l4Many -/
theorem dc_spec_l4Many (k : Int) (n : Nat) (hn : n ≤ 24) : DC Try.prog 86 [.int .i64 k, .int .i64 (n : Nat)] (.bool (inR n (kidLo k) (kidHi k))) [] := by
 refine DC.intro tiOk Try.func86 rfl rfl rfl rfl rfl rfl rfl rfl [] ?_
 refine rgA [0,1] ?_
 refine AW.seq ?_
 refine rgA [1,5] ?_
 refine AW.block ?_
 refine rgA [1,5,6] ?_
 refine AW.cond rfl ?_ ?_
 ·intro hc; try simp at hc
  all_goals try (exfalso; omega; done)
  all_goals (
   refine rgA [4] ?_
   refine rt ?_
   simp [go_sem, Try.results86, inR, kidLo, kidHi] <;> grind)
 ·intro hc; try simp at hc
  all_goals try (exfalso; omega; done)
  all_goals (
   refine AW.seq ?_
   refine rgA [1,5,10] ?_
   refine AW.cond rfl ?_ ?_
   ·intro hc; try simp at hc
    all_goals try (exfalso; omega; done)
    all_goals (
     refine AW.skipN (fun _ h => h) ?_
     refine AW.cond rfl ?_ ?_
     ·intro hc; try simp at hc
      all_goals try (exfalso; omega; done)
      all_goals (
       refine rgA [4] ?_
       refine rt ?_
       simp [go_sem, Try.results86, inR, kidLo, kidHi] <;> grind)
     ·intro hc; try simp at hc
      all_goals try (exfalso; omega; done)
      all_goals (
       refine rgA [1,15] ?_
       refine AW.cond rfl ?_ ?_
       ·intro hc; try simp at hc
        all_goals try (exfalso; omega; done)
        all_goals (
         refine rgA [4] ?_
         refine rt ?_
         simp [go_sem, Try.results86, inR, kidLo, kidHi] <;> grind)
       ·intro hc; try simp at hc
        all_goals try (exfalso; omega; done)
        all_goals (
         refine AW.skipN (fun _ h => h) ?_
         refine rgA [4] ?_
         refine rt ?_
         simp [go_sem, Try.results86, inR, kidLo, kidHi] <;> grind)))
   ·intro hc; try simp at hc
    all_goals try (exfalso; omega; done)
    all_goals (
     refine rgNA [1,5,10] (fun _ h => h) ?_
     refine AW.cond rfl ?_ ?_
     ·intro hc; try simp at hc
      all_goals try (exfalso; omega; done)
      all_goals (
       refine rgA [4] ?_
       refine rt ?_
       simp [go_sem, Try.results86, inR, kidLo, kidHi] <;> grind)
     ·intro hc; try simp at hc
      all_goals try (exfalso; omega; done)
      all_goals (
       refine rgA [1,15] ?_
       refine AW.cond rfl ?_ ?_
       ·intro hc; try simp at hc
        all_goals try (exfalso; omega; done)
        all_goals (
         refine rgA [4] ?_
         refine rt ?_
         simp [go_sem, Try.results86, inR, kidLo, kidHi] <;> grind)
       ·intro hc; try simp at hc
        all_goals try (exfalso; omega; done)
        all_goals (
         refine AW.skipN (fun _ h => h) ?_
         refine rgA [4] ?_
         refine rt ?_
         simp [go_sem, Try.results86, inR, kidLo, kidHi] <;> grind))))

/-- spec.l4Arg -/
theorem dc_spec_l4Arg (s : TStep) : DC Try.prog 84 [.ip s.ro] (.bool (decide (s.kind = 5 ∨ s.kind = 6 ∨ s.kind = 7 ∨ s.kind = 8 → lowA s.kind ≤ s.arg ∧ s.arg ≤ highA s.kind))) [] := by
 refine DC.intro tiOk Try.func84 rfl rfl rfl rfl rfl rfl rfl rfl [] ?_
 refine rgA [0] ?_
 refine AW.seq ?_
 refine rgA [0,6] ?_
 refine AW.block ?_
 refine rgA [0,6,7] ?_
 refine AW.cond rfl ?_ ?_
 ·intro hc; try simp at hc
  all_goals try (exfalso; omega; done)
  all_goals (
   refine rg [2] ?_
   intro k hk; simp -dsimp (maxSteps := 2000000) [go_sem, -decide_eq_true_eq, -decide_eq_false_iff_not]
   repeat' first | apply And.intro | refine hk _ ?_ | intro hg | (refine CallK.intro (dc_spec_l1In _ _ _) ?_; simp -dsimp (maxSteps := 2000000) [go_sem, -decide_eq_true_eq, -decide_eq_false_iff_not]) | omega | exact True.intro
   all_goals clear hk k
   refine rt ?_
   simp [go_sem, Try.results84, inR, lowA, highA] <;> grind)
 ·intro hc; try simp at hc
  all_goals try (exfalso; omega; done)
  all_goals (
   refine AW.seq ?_
   refine rgA [0,6,14] ?_
   refine AW.cond rfl ?_ ?_
   ·intro hc; try simp at hc
    all_goals try (exfalso; omega; done)
    all_goals (
     refine AW.skipN (fun _ h => h) ?_
     refine AW.cond rfl ?_ ?_
     ·intro hc; try simp at hc
      all_goals try (exfalso; omega; done)
      all_goals (
       refine rg [2] ?_
       intro k hk; simp -dsimp (maxSteps := 2000000) [go_sem, -decide_eq_true_eq, -decide_eq_false_iff_not]
       repeat' first | apply And.intro | refine hk _ ?_ | intro hg | (refine CallK.intro (dc_spec_l1In _ _ _) ?_; simp -dsimp (maxSteps := 2000000) [go_sem, -decide_eq_true_eq, -decide_eq_false_iff_not]) | omega | exact True.intro
       all_goals clear hk k
       refine rt ?_
       simp [go_sem, Try.results84, inR, lowA, highA] <;> grind)
     ·intro hc; try simp at hc
      all_goals try (exfalso; omega; done)
      all_goals (
       refine rgA [0,22] ?_
       refine AW.cond rfl ?_ ?_
       ·intro hc; try simp at hc
        all_goals try (exfalso; omega; done)
        all_goals (
         refine rg [2] ?_
         intro k hk; simp -dsimp (maxSteps := 2000000) [go_sem, -decide_eq_true_eq, -decide_eq_false_iff_not]
         repeat' first | apply And.intro | refine hk _ ?_ | intro hg | (refine CallK.intro (dc_spec_l1In _ _ _) ?_; simp -dsimp (maxSteps := 2000000) [go_sem, -decide_eq_true_eq, -decide_eq_false_iff_not]) | omega | exact True.intro
         all_goals clear hk k
         refine rt ?_
         simp [go_sem, Try.results84, inR, lowA, highA] <;> grind)
       ·intro hc; try simp at hc
        all_goals try (exfalso; omega; done)
        all_goals (
         refine AW.skipN (fun _ h => h) ?_
         refine rgA [2] ?_
         refine rt ?_
         simp [go_sem, Try.results84, inR, lowA, highA] <;> grind)))
   ·intro hc; try simp at hc
    all_goals try (exfalso; omega; done)
    all_goals (
     refine rgNA [0,6,14] (fun _ h => h) ?_
     refine AW.cond rfl ?_ ?_
     ·intro hc; try simp at hc
      all_goals try (exfalso; omega; done)
      all_goals (
       refine rg [2] ?_
       intro k hk; simp -dsimp (maxSteps := 2000000) [go_sem, -decide_eq_true_eq, -decide_eq_false_iff_not]
       repeat' first | apply And.intro | refine hk _ ?_ | intro hg | (refine CallK.intro (dc_spec_l1In _ _ _) ?_; simp -dsimp (maxSteps := 2000000) [go_sem, -decide_eq_true_eq, -decide_eq_false_iff_not]) | omega | exact True.intro
       all_goals clear hk k
       refine rt ?_
       simp [go_sem, Try.results84, inR, lowA, highA] <;> grind)
     ·intro hc; try simp at hc
      all_goals try (exfalso; omega; done)
      all_goals (
       refine rgA [0,22] ?_
       refine AW.cond rfl ?_ ?_
       ·intro hc; try simp at hc
        all_goals try (exfalso; omega; done)
        all_goals (
         refine rg [2] ?_
         intro k hk; simp -dsimp (maxSteps := 2000000) [go_sem, -decide_eq_true_eq, -decide_eq_false_iff_not]
         repeat' first | apply And.intro | refine hk _ ?_ | intro hg | (refine CallK.intro (dc_spec_l1In _ _ _) ?_; simp -dsimp (maxSteps := 2000000) [go_sem, -decide_eq_true_eq, -decide_eq_false_iff_not]) | omega | exact True.intro
         all_goals clear hk k
         refine rt ?_
         simp [go_sem, Try.results84, inR, lowA, highA] <;> grind)
       ·intro hc; try simp at hc
        all_goals try (exfalso; omega; done)
        all_goals (
         refine AW.skipN (fun _ h => h) ?_
         refine rgA [2] ?_
         refine rt ?_
         simp [go_sem, Try.results84, inR, lowA, highA] <;> grind))))

/-- spec.l4Bare -/
theorem dc_spec_l4Bare (s : TStep) (hg : s.gok) : DC Try.prog 80 [.ip s.ro] (.bool (!alien s)) [] := by
 obtain ⟨g0, g1, g2⟩ := hg
 refine DC.intro tiOk Try.func80 rfl rfl rfl rfl rfl rfl rfl rfl [] ?_
 refine rgA [0] ?_
 refine rg [0,3] ?_
 intro k hk; simp -dsimp (maxSteps := 2000000) [go_sem, -decide_eq_true_eq, -decide_eq_false_iff_not]
 repeat' first | apply And.intro | refine hk _ ?_ | intro hg | (refine CallK.intro (dc_spec_l1In _ _ _) ?_; simp -dsimp (maxSteps := 2000000) [go_sem, -decide_eq_true_eq, -decide_eq_false_iff_not]) | omega | exact True.intro
 all_goals clear hk k
 refine AW.cut ⟨46, [(2, .bool (!alien s))], []⟩ ?_ ?_
 ·skip
  refine rgK ?_
  intro k hk; simp +contextual -dsimp (maxSteps := 2000000) [go_sem, -decide_eq_true_eq, -decide_eq_false_iff_not]
  repeat' first | apply And.intro | refine hk _ ?_ | (intro hg; try simp only [decide_eq_true_eq, decide_eq_false_iff_not] at hg) | omega | exact True.intro
  all_goals clear hk k
  all_goals (show St.Less _ _; exact Less.of rfl (by simp [go_sem, alien, highA, inR] at * <;> grind) (by simp [go_sem]))
 ·skip
  refine rt ?_
  simp [go_sem, Try.results80]

/-- (*impl.parents).next -/
theorem dc_impl_parents_next_z (par : Int) : DC Try.prog 92 [.op [.nils, .nils], .int .i64 par] (.int .i64 (parF [] par)) [(0, .op [nlc 1 ((nxtL [] par).map I1), nlc 1 ((nxtD [] [] par).map I1)])] := by
 have hwm : IntKind.wrap .i64 (-1) = -1 := wrap64 (by omega) (by omega)
 refine DC.intro tiOk Try.func92 rfl rfl rfl rfl rfl rfl rfl (by simp [noW, noWo]) [] ?_
 refine rg [0,1] ?_
 intro k hk; simp -dsimp [go_sem, -decide_eq_true_eq, -decide_eq_false_iff_not, hwm]
 repeat' first | apply And.intro | refine hk _ ?_ | intro hg | omega | exact True.intro
 all_goals clear hk k
 refine rg [0,1,5] ?_
 intro k hk; simp -dsimp [go_sem, -decide_eq_true_eq, -decide_eq_false_iff_not, hwm]
 repeat' first | apply And.intro | refine hk _ ?_ | intro hg | omega | exact True.intro
 all_goals clear hk k
 refine AW.seq ?_
 refine AW.cut ⟨75, [(0, .ptr 1900 2 0 0), (1, .int .i64 par), (5, .int .i64 0), (29, .bool (decide (par ≠ -1)))], [(1900, some ⟨2, [[.nils, .nils]]⟩)]⟩ ?_ ?_
 ·skip
  refine rgK ?_
  intro k hk; simp +contextual -dsimp (maxSteps := 2000000) [go_sem, -decide_eq_true_eq, -decide_eq_false_iff_not, hwm]
  repeat' first | apply And.intro | refine hk _ ?_ | (intro hg; try simp only [decide_eq_true_eq, decide_eq_false_iff_not] at hg) | (refine CallK.intro (dc_impl_inRange _ _ _) ?_; simp +contextual -dsimp (maxSteps := 2000000) [go_sem, -decide_eq_true_eq, -decide_eq_false_iff_not, hwm]) | omega | exact True.intro
  all_goals clear hk k
  all_goals (show St.Less _ _; exact Less.of rfl (by simp [go_sem] <;> grind) (by simp [go_sem]))
 ·skip
  refine AW.cond rfl ?_ ?_
  ·intro hc; try simp at hc
   all_goals try (exfalso; omega; done)
   all_goals (
    refine rg [0,4] ?_
    intro k hk; simp -dsimp [go_sem, -decide_eq_true_eq, -decide_eq_false_iff_not, hwm]
    repeat' first | apply And.intro | refine hk _ ?_ | intro hg | omega | exact True.intro
    all_goals clear hk k
    refine rt ?_
    first | (have hpm : par = -1 := (by assumption); subst hpm; simp [go_sem, Try.results92, nxtL, nxtD, parF]; done) | (have hpm : ¬ par = -1 := (by first | assumption | simpa using hc); simp [go_sem, Try.results92, nxtL, nxtD, parF, hpm]))
  ·intro hc; try simp at hc
   all_goals try (exfalso; omega; done)
   all_goals (
    refine AW.skipN (fun _ h => h) ?_
    have hpm : par = -1 := by simpa using hc
    refine rg [0,1,6] ?_
    intro k hk; simp -dsimp [go_sem, -decide_eq_true_eq, -decide_eq_false_iff_not, hwm, hpm]
    repeat' first | apply And.intro | refine hk _ ?_ | intro hg | omega | exact True.intro
    all_goals clear hk k
    refine AW.seq ?_
    refine AW.block ?_
    refine AW.loopI (fun _ : Nat => ⟨75, [(0, .ptr 1900 2 0 0), (1, .int .i64 par), (6, .int .i64 (-1))], [(1900, some ⟨2, [[.nils, .nils]]⟩)]⟩) (fun _ => True) (fun _ => 0) (0) (trivial) (Less.of rfl (by simp [go_sem, hpm, hwm]) (by simp [go_sem])) ?_
    rintro i _
    refine AW.seq ?_
    refine rg [0,1,6,34] ?_
    intro k hk; simp -dsimp [go_sem, -decide_eq_true_eq, -decide_eq_false_iff_not, hwm]
    repeat' first | apply And.intro | refine hk _ ?_ | intro hg | omega | exact True.intro
    all_goals clear hk k
    refine AW.cond rfl ?_ ?_
    ·intro hc; try simp at hc
     all_goals try (exfalso; omega; done)
     all_goals (
      refine AW.skipN (fun _ h => h) ?_
      refine AW.block ?_
      refine rgK ?_
      intro k hk; simp -dsimp (maxSteps := 2000000) [go_sem, -decide_eq_true_eq, -decide_eq_false_iff_not, hwm]
      repeat' first | apply And.intro | refine hk _ ?_ | intro hg | omega | exact True.intro
      all_goals clear hk k
      show ∃ _, _
      exfalso; omega)
    ·intro hc; try simp at hc
     all_goals try (exfalso; omega; done)
     all_goals (
      refine AW.exitN (fun _ h => h) ?_
      refine AW.seq ?_
      refine rg [0,1,44] ?_
      intro k hk; simp -dsimp [go_sem, -decide_eq_true_eq, -decide_eq_false_iff_not, hwm]
      repeat' first | apply And.intro | refine hk _ ?_ | intro hg | omega | exact True.intro
      all_goals clear hk k
      refine AW.cond rfl ?_ ?_
      ·intro hc; try simp at hc
       all_goals try (exfalso; omega; done)
       all_goals (
        refine rg [0,4] ?_
        intro k hk; simp -dsimp [go_sem, -decide_eq_true_eq, -decide_eq_false_iff_not, hwm]
        repeat' first | apply And.intro | refine hk _ ?_ | intro hg | omega | exact True.intro
        all_goals clear hk k
        refine rt ?_
        first | (have hpm : par = -1 := (by assumption); subst hpm; simp [go_sem, Try.results92, nxtL, nxtD, parF]; done) | (have hpm : ¬ par = -1 := (by first | assumption | simpa using hc); simp [go_sem, Try.results92, nxtL, nxtD, parF, hpm]))
      ·intro hc; try simp at hc
       all_goals try (exfalso; omega; done)
       all_goals (
        refine AW.skipN (fun _ h => h) ?_
        refine rg [0,1,7] ?_
        intro k hk; simp -dsimp [go_sem, -decide_eq_true_eq, -decide_eq_false_iff_not, hwm]
        repeat' first | apply And.intro | refine hk _ ?_ | intro hg | omega | exact True.intro
        all_goals clear hk k
        refine AW.seq ?_
        refine rg [0,1,7,46] ?_
        intro k hk; simp -dsimp [go_sem, -decide_eq_true_eq, -decide_eq_false_iff_not, hwm]
        repeat' first | apply And.intro | refine hk _ ?_ | intro hg | omega | exact True.intro
        all_goals clear hk k
        refine AW.cond rfl ?_ ?_
        ·intro hc; try simp at hc
         all_goals try (exfalso; omega; done)
         all_goals (
          refine rgN [0,1,7] (fun _ h => h) ?_
          intro k hk; simp -dsimp (maxSteps := 2000000) [go_sem, -decide_eq_true_eq, -decide_eq_false_iff_not, hwm]
          repeat' first | apply And.intro | refine hk _ ?_ | intro hg | omega | exact True.intro
          all_goals clear hk k
          refine rg [0] ?_
          intro k hk; simp -dsimp (maxSteps := 2000000) [go_sem, -decide_eq_true_eq, -decide_eq_false_iff_not, hwm]
          repeat' first | (refine Chk.keys ?_; simp only [go_sem, List.map_cons, List.map_nil, List.flatMap_cons, List.flatMap_nil, List.flatMap_append, List.append_nil, List.nil_append, List.cons_append]; decide +kernel) | apply And.intro | refine hk _ ?_ | intro hg | omega | exact True.intro
          all_goals clear hk k
          refine AW.fold (nd := ?nd_1) (c := ?c_1) (l := ?l_1) (es := ?es_1) (n := ?n_1) 1900 0 0 63 ?h1_1 ?h2_1 ?h4_1 ?h3_1 ?hn_1 (by decide) ?h6_1 ?kk_1
          (case h1_1 => exact rfl)
          (case h2_1 => exact rfl)
          (case h4_1 => exact rfl)
          (case h3_1 => exact rfl)
          (case hn_1 => simp)
          (case h6_1 => simp [go_sem])
          refine AW.fold (nd := ?nd_2) (c := ?c_2) (l := ?l_2) (es := ?es_2) (n := ?n_2) 1900 0 1 70 ?h1_2 ?h2_2 ?h4_2 ?h3_2 ?hn_2 (by decide) ?h6_2 ?kk_2
          (case h1_2 => exact rfl)
          (case h2_2 => exact rfl)
          (case h4_2 => exact rfl)
          (case h3_2 => exact rfl)
          (case hn_2 => simp)
          (case h6_2 => simp [go_sem])
          refine rg [0,4] ?_
          intro k hk; simp -dsimp [go_sem, -decide_eq_true_eq, -decide_eq_false_iff_not, hwm]
          repeat' first | apply And.intro | refine hk _ ?_ | intro hg | omega | exact True.intro
          all_goals clear hk k
          refine rt ?_
          first | (have hpm : par = -1 := (by assumption); subst hpm; simp [go_sem, Try.results92, nxtL, nxtD, parF]; done) | (have hpm : ¬ par = -1 := (by first | assumption | simpa using hc); simp [go_sem, Try.results92, nxtL, nxtD, parF, hpm]))
        ·intro hc; try simp at hc
         all_goals try (exfalso; omega; done)
         all_goals (
          refine AW.skipN (fun _ h => h) ?_
          refine rg [0] ?_
          intro k hk; simp -dsimp (maxSteps := 2000000) [go_sem, -decide_eq_true_eq, -decide_eq_false_iff_not, hwm]
          repeat' first | (refine Chk.keys ?_; simp only [go_sem, List.map_cons, List.map_nil, List.flatMap_cons, List.flatMap_nil, List.flatMap_append, List.append_nil, List.nil_append, List.cons_append]; decide +kernel) | apply And.intro | refine hk _ ?_ | intro hg | omega | exact True.intro
          all_goals clear hk k
          refine AW.fold (nd := ?nd_3) (c := ?c_3) (l := ?l_3) (es := ?es_3) (n := ?n_3) 1900 0 0 63 ?h1_3 ?h2_3 ?h4_3 ?h3_3 ?hn_3 (by decide) ?h6_3 ?kk_3
          (case h1_3 => exact rfl)
          (case h2_3 => exact rfl)
          (case h4_3 => exact rfl)
          (case h3_3 => exact rfl)
          (case hn_3 => simp)
          (case h6_3 => simp [go_sem])
          refine AW.fold (nd := ?nd_4) (c := ?c_4) (l := ?l_4) (es := ?es_4) (n := ?n_4) 1900 0 1 70 ?h1_4 ?h2_4 ?h4_4 ?h3_4 ?hn_4 (by decide) ?h6_4 ?kk_4
          (case h1_4 => exact rfl)
          (case h2_4 => exact rfl)
          (case h4_4 => exact rfl)
          (case h3_4 => exact rfl)
          (case hn_4 => simp)
          (case h6_4 => simp [go_sem])
          refine rg [0,4] ?_
          intro k hk; simp -dsimp [go_sem, -decide_eq_true_eq, -decide_eq_false_iff_not, hwm]
          repeat' first | apply And.intro | refine hk _ ?_ | intro hg | omega | exact True.intro
          all_goals clear hk k
          refine rt ?_
          first | (have hpm : par = -1 := (by assumption); subst hpm; simp [go_sem, Try.results92, nxtL, nxtD, parF]; done) | (have hpm : ¬ par = -1 := (by first | assumption | simpa using hc); simp [go_sem, Try.results92, nxtL, nxtD, parF, hpm])))))

/-- (*impl.parents).next -/
theorem dc_impl_parents_next_s (l d : List Int) (par : Int) (hl : ParOk l) (hd : d = depsOf l) (hn : l ≠ []) (h24 : l.length ≤ 24) : DC Try.prog 92 [.op [.osl 1 (l.map I1), .osl 1 (d.map I1)], .int .i64 par] (.int .i64 (parF l par)) [(0, .op [nlc 1 ((nxtL l par).map I1), nlc 1 ((nxtD l d par).map I1)])] := by
 have hlp : 0 < l.length := List.length_pos_iff.2 hn
 have hdl : d.length = l.length := by rw [hd]; exact depsOf_len l
 have hnl := nlc_map (f := I1) hn 1
 have hnd := nlc_map (f := I1) (l := d) (by intro h; rw [h] at hdl; simp at hdl; omega) 1
 have hw1 : IntKind.wrap .i64 ((l.length : Int) - 1) = (l.length : Int) - 1 := wrap64 (by omega) (by omega)
 have htl : List.take l.length (d.map I1) = d.map I1 := List.take_of_length_le (by simp [hdl])
 refine DC.intro tiOk Try.func92 rfl rfl rfl rfl rfl rfl rfl (by simp [noW, noWo]) [] ?_
 refine rg [0,1] ?_
 intro k hk; simp -dsimp [go_sem, -decide_eq_true_eq, -decide_eq_false_iff_not, hw1, hdl, htl]
 repeat' first | apply And.intro | refine hk _ ?_ | intro hg | omega | exact True.intro
 all_goals clear hk k
 refine AW.thaw (nd := ?nd_1) (c := ?c_1) (l := ?l_1) (es := ?es_1) 1900 0 0 7001 ?h1_1 ?h2_1 ?h3_1 ?h45_1 ?kk_1
 (case h1_1 => exact rfl)
 (case h2_1 => exact rfl)
 (case h3_1 => exact rfl)
 (case h45_1 => simp [go_sem])
 refine AW.thaw (nd := ?nd_2) (c := ?c_2) (l := ?l_2) (es := ?es_2) 1900 0 1 7002 ?h1_2 ?h2_2 ?h3_2 ?h45_2 ?kk_2
 (case h1_2 => exact rfl)
 (case h2_2 => exact rfl)
 (case h3_2 => exact rfl)
 (case h45_2 => simp [go_sem])
 refine rg [0,1,5] ?_
 intro k hk; simp -dsimp [go_sem, -decide_eq_true_eq, -decide_eq_false_iff_not, hw1, hdl, htl]
 repeat' first | apply And.intro | refine hk _ ?_ | intro hg | omega | exact True.intro
 all_goals clear hk k
 refine AW.seq ?_
 refine AW.cut ⟨75, [(0, .ptr 1900 2 0 0), (1, .int .i64 par), (5, .int .i64 (l.length : Nat)), (29, .bool (decide (parF l par = 3)))], [(7001, some ⟨1, l.map I1⟩), (7002, some ⟨1, d.map I1⟩), (1900, some ⟨2, [[.sl 7001 1 0 l.length, .sl 7002 1 0 l.length]]⟩)]⟩ ?_ ?_
 ·skip
  refine rgK ?_
  intro k hk; simp +contextual -dsimp (maxSteps := 2000000) [go_sem, -decide_eq_true_eq, -decide_eq_false_iff_not, hw1, hdl, htl]
  repeat' first | apply And.intro | refine hk _ ?_ | (intro hg; try simp only [decide_eq_true_eq, decide_eq_false_iff_not] at hg) | (refine CallK.intro (dc_impl_inRange _ _ _) ?_; simp +contextual -dsimp (maxSteps := 2000000) [go_sem, -decide_eq_true_eq, -decide_eq_false_iff_not, hw1, hdl, htl]) | omega | exact True.intro
  all_goals clear hk k
  all_goals (show St.Less _ _; exact Less.of rfl (by simp [go_sem, parF, inR] at * <;> grind) (by simp [go_sem, hdl]))
 ·skip
  refine AW.cond rfl ?_ ?_
  ·intro hc; try simp at hc
   all_goals try (exfalso; omega; done)
   all_goals (
    refine AW.fold (nd := ?nd_3) (c := ?c_3) (l := ?l_3) (es := ?es_3) (n := ?n_3) 1900 0 0 7001 ?h1_3 ?h2_3 ?h4_3 ?h3_3 ?hn_3 (by decide) ?h6_3 ?kk_3
    (case h1_3 => exact rfl)
    (case h2_3 => exact rfl)
    (case h4_3 => exact rfl)
    (case h3_3 => exact rfl)
    (case hn_3 => simp [hdl])
    (case h6_3 => simp [go_sem, hdl])
    refine AW.fold (nd := ?nd_4) (c := ?c_4) (l := ?l_4) (es := ?es_4) (n := ?n_4) 1900 0 1 7002 ?h1_4 ?h2_4 ?h4_4 ?h3_4 ?hn_4 (by decide) ?h6_4 ?kk_4
    (case h1_4 => exact rfl)
    (case h2_4 => exact rfl)
    (case h4_4 => exact rfl)
    (case h3_4 => exact rfl)
    (case hn_4 => simp [hdl])
    (case h6_4 => simp [go_sem, hdl])
    have hp3 : parF l par = 3 := by simpa using hc
    refine rg [0,4] ?_
    intro k hk; simp -dsimp [go_sem, -decide_eq_true_eq, -decide_eq_false_iff_not, hw1, hdl, htl]
    repeat' first | apply And.intro | refine hk _ ?_ | intro hg | omega | exact True.intro
    all_goals clear hk k
    refine rt ?_
    first | (simp [go_sem, Try.results92, nxtL, nxtD, hp3, hnl, hnd]; done) | (simp [go_sem, Try.results92, nxtL, nxtD, hp1, hnl, hnd]; done) | (simp [go_sem, Try.results92, hb, hnl2, hnd2, hp0, hnl, hnd, htl]; done))
  ·intro hc; try simp at hc
   all_goals try (exfalso; omega; done)
   all_goals (
    refine AW.skipN (fun _ h => h) ?_
    have hp3 : ¬ parF l par = 3 := by simpa using hc
    have hpr := parF_not3 hlp hp3
    refine rg [0,1,6] ?_
    intro k hk; simp -dsimp [go_sem, -decide_eq_true_eq, -decide_eq_false_iff_not, hw1, hdl, htl]
    repeat' first | apply And.intro | refine hk _ ?_ | intro hg | omega | exact True.intro
    all_goals clear hk k
    refine AW.seq ?_
    refine AW.block ?_
    refine AW.loopI (fun a : Int => ⟨75, [(0, .ptr 1900 2 0 0), (1, .int .i64 par), (6, .int .i64 a)], [(7001, some ⟨1, l.map I1⟩), (7002, some ⟨1, d.map I1⟩), (1900, some ⟨2, [[.sl 7001 1 0 l.length, .sl 7002 1 0 l.length]]⟩)]⟩) (fun a => -1 ≤ a ∧ a < l.length ∧ upB l a par = upB l ((l.length : Int) - 1) par) (fun a => (a + 1).toNat) ((l.length : Int) - 1) (by refine ⟨by omega, by omega, rfl⟩) (Less.of rfl (by simp [go_sem, hdl]) (by simp [go_sem, hdl])) ?_
    rintro a ⟨ha0, ha1, hinv⟩
    refine AW.seq ?_
    refine rg [0,1,6,34] ?_
    intro k hk; simp -dsimp [go_sem, -decide_eq_true_eq, -decide_eq_false_iff_not, hw1, hdl, htl]
    repeat' first | apply And.intro | refine hk _ ?_ | intro hg | omega | exact True.intro
    all_goals clear hk k
    refine AW.cond rfl ?_ ?_
    ·intro hc; try simp at hc
     all_goals try (exfalso; omega; done)
     all_goals (
      have hlt : par < a := by assumption
      obtain ⟨k, hk⟩ : ∃ k : Nat, a = k := ⟨_, (Int.toNat_of_nonneg (show 0 ≤ a by omega)).symm⟩
      subst hk
      obtain ⟨x, hx⟩ := at_some (l := l) (show k < l.length by omega)
      have hxg : l.getD k 0 = x := by rw [List.getD, hx]; rfl
      have hxl := hl k (by omega)
      rw [hxg] at hxl
      refine AW.skipN (fun _ h => h) ?_
      refine AW.block ?_
      refine rgK ?_
      intro k hk; simp -dsimp (maxSteps := 2000000) [go_sem, -decide_eq_true_eq, -decide_eq_false_iff_not, hw1, hdl, htl, hx]
      repeat' first | apply And.intro | refine hk _ ?_ | intro hg | omega | exact True.intro
      all_goals clear hk k
      show ∃ _, _
      refine ⟨x, ⟨by omega, by omega, ?_⟩, by omega, Less.of rfl (by simp [go_sem]) (by simp [go_sem])⟩
      rw [← hinv, upB_eq hl (show (0 : Int) ≤ (k : Int) by omega) (by omega), if_neg (by omega), Int.toNat_natCast, hxg])
    ·intro hc; try simp at hc
     all_goals try (exfalso; omega; done)
     all_goals (
      refine AW.exitN (fun _ h => h) ?_
      refine AW.seq ?_
      refine rg [0,1,44] ?_
      intro k hk; simp -dsimp [go_sem, -decide_eq_true_eq, -decide_eq_false_iff_not, hw1, hdl, htl]
      repeat' first | apply And.intro | refine hk _ ?_ | intro hg | omega | exact True.intro
      all_goals clear hk k
      refine AW.cond rfl ?_ ?_
      ·intro hc; try simp at hc
       all_goals try (exfalso; omega; done)
       all_goals (
        refine AW.fold (nd := ?nd_5) (c := ?c_5) (l := ?l_5) (es := ?es_5) (n := ?n_5) 1900 0 0 7001 ?h1_5 ?h2_5 ?h4_5 ?h3_5 ?hn_5 (by decide) ?h6_5 ?kk_5
        (case h1_5 => exact rfl)
        (case h2_5 => exact rfl)
        (case h4_5 => exact rfl)
        (case h3_5 => exact rfl)
        (case hn_5 => simp [hdl])
        (case h6_5 => simp [go_sem, hdl])
        refine AW.fold (nd := ?nd_6) (c := ?c_6) (l := ?l_6) (es := ?es_6) (n := ?n_6) 1900 0 1 7002 ?h1_6 ?h2_6 ?h4_6 ?h3_6 ?hn_6 (by decide) ?h6_6 ?kk_6
        (case h1_6 => exact rfl)
        (case h2_6 => exact rfl)
        (case h4_6 => exact rfl)
        (case h3_6 => exact rfl)
        (case hn_6 => simp [hdl])
        (case h6_6 => simp [go_sem, hdl])
        have hup : upB l ((l.length : Int) - 1) par = false := by rw [← hinv]; exact upB_lt hl l.length a (by omega) (by omega) (by omega)
        have hp1 : parF l par = 1 := by unfold parF; rw [if_neg (by omega), if_pos ⟨hlp, hup⟩]
        refine rg [0,4] ?_
        intro k hk; simp -dsimp [go_sem, -decide_eq_true_eq, -decide_eq_false_iff_not, hw1, hdl, htl]
        repeat' first | apply And.intro | refine hk _ ?_ | intro hg | omega | exact True.intro
        all_goals clear hk k
        refine rt ?_
        first | (simp [go_sem, Try.results92, nxtL, nxtD, hp3, hnl, hnd]; done) | (simp [go_sem, Try.results92, nxtL, nxtD, hp1, hnl, hnd]; done) | (simp [go_sem, Try.results92, hb, hnl2, hnd2, hp0, hnl, hnd, htl]; done))
      ·intro hc; try simp at hc
       all_goals try (exfalso; omega; done)
       all_goals (
        refine AW.skipN (fun _ h => h) ?_
        have hpa : a = par := by first | assumption | omega
        have hup : upB l ((l.length : Int) - 1) par = true := by rw [← hinv, upB_eq hl (by omega) (by omega), if_pos hpa]
        have hp0 : parF l par = 0 := by unfold parF; rw [if_neg (by omega), if_neg (by rw [hup]; simp)]
        refine rg [0,1,7] ?_
        intro k hk; simp -dsimp [go_sem, -decide_eq_true_eq, -decide_eq_false_iff_not, hw1, hdl, htl]
        repeat' first | apply And.intro | refine hk _ ?_ | intro hg | omega | exact True.intro
        all_goals clear hk k
        refine AW.seq ?_
        refine rg [0,1,7,46] ?_
        intro k hk; simp -dsimp [go_sem, -decide_eq_true_eq, -decide_eq_false_iff_not, hw1, hdl, htl]
        repeat' first | apply And.intro | refine hk _ ?_ | intro hg | omega | exact True.intro
        all_goals clear hk k
        refine AW.cond rfl ?_ ?_
        ·intro hc; try simp at hc
         all_goals try (exfalso; omega; done)
         all_goals (
          obtain ⟨b, hb⟩ : ∃ b : Nat, par = b := ⟨_, (Int.toNat_of_nonneg hpr.1).symm⟩
          have hdb : d[b]? = some (dep l b) := by rw [hd]; exact depsOf_at (by omega)
          have hds := dep_small hl (a := (b : Int)) (by omega)
          have hw2 : IntKind.wrap .i64 (dep l b + 1) = dep l b + 1 := wrap64 (by omega) (by omega)
          have hdg : d.getD b 0 = dep l b := by rw [List.getD, hdb]; rfl
          have hnl2 : nxtL l par = l ++ [par] := nxtL_app hp0
          have hnd2 : nxtD l d par = d ++ [dep l b + 1] := by rw [nxtD, if_pos hp0, if_pos hpr.1, hb, Int.toNat_natCast, hdg]
          rw [hb] at hnl2 hnd2 hp0
          refine rgN [0,1,7] (fun _ h => h) ?_
          intro k hk; simp -dsimp (maxSteps := 2000000) [go_sem, -decide_eq_true_eq, -decide_eq_false_iff_not, hw1, hdl, htl, hb, hdb, hw2]
          repeat' first | apply And.intro | refine hk _ ?_ | intro hg | omega | exact True.intro
          all_goals clear hk k
          refine rg [0] ?_
          intro k hk; simp -dsimp (maxSteps := 2000000) [go_sem, -decide_eq_true_eq, -decide_eq_false_iff_not, hw1, hdl, htl]
          repeat' first | (refine Chk.keys ?_; simp only [go_sem, List.map_cons, List.map_nil, List.flatMap_cons, List.flatMap_nil, List.flatMap_append, List.append_nil, List.nil_append, List.cons_append]; decide +kernel) | apply And.intro | refine hk _ ?_ | intro hg | omega | exact True.intro
          all_goals clear hk k
          refine AW.fold (nd := ?nd_7) (c := ?c_7) (l := ?l_7) (es := ?es_7) (n := ?n_7) 1900 0 0 63 ?h1_7 ?h2_7 ?h4_7 ?h3_7 ?hn_7 (by decide) ?h6_7 ?kk_7
          (case h1_7 => exact rfl)
          (case h2_7 => exact rfl)
          (case h4_7 => exact rfl)
          (case h3_7 => exact rfl)
          (case hn_7 => simp [hdl])
          (case h6_7 => simp [go_sem, hdl])
          refine AW.fold (nd := ?nd_8) (c := ?c_8) (l := ?l_8) (es := ?es_8) (n := ?n_8) 1900 0 1 70 ?h1_8 ?h2_8 ?h4_8 ?h3_8 ?hn_8 (by decide) ?h6_8 ?kk_8
          (case h1_8 => exact rfl)
          (case h2_8 => exact rfl)
          (case h4_8 => exact rfl)
          (case h3_8 => exact rfl)
          (case hn_8 => simp [hdl])
          (case h6_8 => simp [go_sem, hdl])
          refine rg [0,4] ?_
          intro k hk; simp -dsimp [go_sem, -decide_eq_true_eq, -decide_eq_false_iff_not, hw1, hdl, htl]
          repeat' first | apply And.intro | refine hk _ ?_ | intro hg | omega | exact True.intro
          all_goals clear hk k
          refine rt ?_
          first | (simp [go_sem, Try.results92, nxtL, nxtD, hp3, hnl, hnd]; done) | (simp [go_sem, Try.results92, nxtL, nxtD, hp1, hnl, hnd]; done) | (simp [go_sem, Try.results92, hb, hnl2, hnd2, hp0, hnl, hnd, htl]; done))
        ·intro hc; try simp at hc
         all_goals try (exfalso; omega; done)
         all_goals (
          refine AW.skipN (fun _ h => h) ?_
          refine rg [0] ?_
          intro k hk; simp -dsimp (maxSteps := 2000000) [go_sem, -decide_eq_true_eq, -decide_eq_false_iff_not, hw1, hdl, htl]
          repeat' first | (refine Chk.keys ?_; simp only [go_sem, List.map_cons, List.map_nil, List.flatMap_cons, List.flatMap_nil, List.flatMap_append, List.append_nil, List.nil_append, List.cons_append]; decide +kernel) | apply And.intro | refine hk _ ?_ | intro hg | omega | exact True.intro
          all_goals clear hk k
          refine AW.fold (nd := ?nd_9) (c := ?c_9) (l := ?l_9) (es := ?es_9) (n := ?n_9) 1900 0 0 63 ?h1_9 ?h2_9 ?h4_9 ?h3_9 ?hn_9 (by decide) ?h6_9 ?kk_9
          (case h1_9 => exact rfl)
          (case h2_9 => exact rfl)
          (case h4_9 => exact rfl)
          (case h3_9 => exact rfl)
          (case hn_9 => simp [hdl])
          (case h6_9 => simp [go_sem, hdl])
          refine AW.fold (nd := ?nd_10) (c := ?c_10) (l := ?l_10) (es := ?es_10) (n := ?n_10) 1900 0 1 70 ?h1_10 ?h2_10 ?h4_10 ?h3_10 ?hn_10 (by decide) ?h6_10 ?kk_10
          (case h1_10 => exact rfl)
          (case h2_10 => exact rfl)
          (case h4_10 => exact rfl)
          (case h3_10 => exact rfl)
          (case hn_10 => simp [hdl])
          (case h6_10 => simp [go_sem, hdl])
          refine rg [0,4] ?_
          intro k hk; simp -dsimp [go_sem, -decide_eq_true_eq, -decide_eq_false_iff_not, hw1, hdl, htl]
          repeat' first | apply And.intro | refine hk _ ?_ | intro hg | omega | exact True.intro
          all_goals clear hk k
          refine rt ?_
          first | (simp [go_sem, Try.results92, nxtL, nxtD, hp3, hnl, hnd]; done) | (simp [go_sem, Try.results92, nxtL, nxtD, hp1, hnl, hnd]; done) | (simp [go_sem, Try.results92, hb, hnl2, hnd2, hp0, hnl, hnd, htl]; done)))))
theorem dc_parents_next (l d : List Int) (par : Int) (hl : ParOk l) (hd : d = depsOf l) (h24 : l.length ≤ 24) : DC Try.prog 92 [.op [nlc 1 (l.map I1), nlc 1 (d.map I1)], .int .i64 par] (.int .i64 (parF l par)) [(0, .op [nlc 1 ((nxtL l par).map I1), nlc 1 ((nxtD l d par).map I1)])] := by
  by_cases hn : l = []
  · subst hn; subst hd; exact dc_impl_parents_next_z par
  · have hdl : d.length = l.length := by rw [hd]; exact depsOf_len l
    rw [nlc_map hn, nlc_map (l := d) (by intro h; rw [h] at hdl; exact hn (List.eq_nil_of_length_eq_zero hdl.symm))]
    exact dc_impl_parents_next_s l d par hl hd hn h24

/-- (*impl.parents).last -/
theorem dc_impl_parents_last (L D : List (List AV)) (v : Int) (hD : D.length ≤ 1000) : DC Try.prog 93 [.ip [.isl 1 L, .isl 1 (D ++ [[.int .i64 v]])]] (.int .i64 v) [] := by
 have hw1 : IntKind.wrap .i64 (D.length : Int) = (D.length : Int) := wrap64 (by omega) (by omega)
 have hat : (D ++ [[AV.int .i64 v]])[D.length]? = some [AV.int .i64 v] := List.getElem?_concat_length
 refine DC.intro tiOk Try.func93 rfl rfl rfl rfl rfl rfl rfl rfl [] ?_
 refine rg [0] ?_
 intro k hk; simp -dsimp [go_sem, -decide_eq_true_eq, -decide_eq_false_iff_not, hw1, hat]
 repeat' first | apply And.intro | refine hk _ ?_ | intro hg | omega | exact True.intro
 all_goals clear hk k
 refine rg [2] ?_
 intro k hk; simp -dsimp (maxSteps := 2000000) [go_sem, -decide_eq_true_eq, -decide_eq_false_iff_not, hw1, hat]
 repeat' first | (refine Chk.keys ?_; simp only [go_sem, List.map_cons, List.map_nil, List.flatMap_cons, List.flatMap_nil, List.flatMap_append, List.append_nil, List.nil_append, List.cons_append]; decide +kernel) | apply And.intro | refine hk _ ?_ | intro hg | omega | exact True.intro
 all_goals clear hk k
 refine rt ?_
 simp [go_sem, Try.results93]

end Go.AM
namespace Go.AM
open Go.Proofs

/-- impl.kids -/
theorem dc_impl_kids (p : List TStep) (a : Int) (hp : p.length ≤ 24) : DC Try.prog 59 [.isl 6 (p.map TStep.ro), .int .i64 a] (.osl 1 ((kids p a).map I1)) [] := by
 refine DC.intro tiOk Try.func59 rfl rfl rfl rfl rfl rfl rfl rfl [1000] ?_
 refine rgA [0,1] ?_
 refine rgA [0,1,5] ?_
 refine AW.seq ?_
 refine rgA [1,5,9,10,11] ?_
 refine AW.block ?_
 refine AW.rename (nd := ?nd_1) 8 27 ?h1_1 ?h2_1 ?h4_1 ?kk_1
 (case h1_1 => exact rfl)
 (case h2_1 => simp [go_sem])
 (case h4_1 => simp [go_sem])
 refine AW.loopI (fun i : Nat => ⟨30, [(1, .int .i64 a), (5, .sl 27 1 0 (kidU p a i).length), (9, .isl 6 (p.map TStep.ro)), (10, .int .i64 p.length), (11, .int .i64 i)], [(27, some ⟨1, (kidU p a i).map I1⟩)]⟩) (fun i => i ≤ p.length) (fun i => p.length - i) (0) (by simp) (Less.of rfl (by simp [go_sem, kidU]) (by simp [go_sem, kidU])) ?_
 rintro i hi
 refine AW.rename (nd := ?nd_2) 27 8 ?h1_2 ?h2_2 ?h4_2 ?kk_2
 (case h1_2 => exact rfl)
 (case h2_2 => simp [go_sem])
 (case h4_2 => simp [go_sem])
 refine rgA [1,5,9,10,11,12] ?_
 refine AW.seq ?_
 refine AW.cond rfl ?_ ?_
 ·intro hc; try simp at hc
  all_goals (
   have hlt : i < p.length := by assumption
   obtain ⟨x, hx⟩ := at_some hlt
   have hkl := kidU_len p a i
   refine AW.skipN (fun _ h => h) ?_
   refine AW.seq ?_
   refine AW.block ?_
   refine rg [1,5,6,7,9,10,11] ?_
   intro k hk; simp -dsimp [go_sem, -decide_eq_true_eq, -decide_eq_false_iff_not, hx]
   repeat' first | apply And.intro | refine hk _ ?_ | intro hg | omega | exact True.intro
   all_goals clear hk k
   refine AW.cut ⟨30, [(1, .int .i64 a), (5, .sl 8 1 0 (kidU p a i).length), (6, .int .i64 i), (9, .isl 6 (p.map TStep.ro)), (10, .int .i64 p.length), (11, .int .i64 i), (23, .bool (decide (0 < i ∧ x.par = a)))], [(8, some ⟨1, (kidU p a i).map I1⟩)]⟩ ?_ ?_
   ·skip
    refine rgK ?_
    intro k hk; simp +contextual -dsimp (maxSteps := 2000000) [go_sem, -decide_eq_true_eq, -decide_eq_false_iff_not, hx]
    repeat' first | apply And.intro | refine hk _ ?_ | (intro hg; try simp only [decide_eq_true_eq, decide_eq_false_iff_not] at hg) | omega | exact True.intro
    all_goals clear hk k
    all_goals (show St.Less _ _; exact Less.of rfl (by simp [go_sem] <;> first | omega | grind) (by simp [go_sem]))
   ·skip
    refine AW.cond rfl ?_ ?_
    ·intro hc; try simp at hc
     all_goals (
      have hks := kidU_yes hx (by simpa using hc)
      refine rgN [1,5,9,10,11] (fun _ h => h) ?_
      intro k hk; simp -dsimp [go_sem, -decide_eq_true_eq, -decide_eq_false_iff_not, hx]
      repeat' first | apply And.intro | refine hk _ ?_ | intro hg | omega | exact True.intro
      all_goals clear hk k
      try (have hks := kidU_not hx (by simpa using hc))
      try (refine AW.rename (nd := ?nd_3) 8 27 ?h1_3 ?h2_3 ?h4_3 ?kk_3; (case h1_3 => exact rfl); (case h2_3 => simp [go_sem]); (case h4_3 => simp [go_sem]))
      refine rgK ?_
      intro k hk; simp -dsimp [go_sem, -decide_eq_true_eq, -decide_eq_false_iff_not, hx]
      repeat' first | apply And.intro | refine hk _ ?_ | intro hg | omega | exact True.intro
      all_goals clear hk k
      show ∃ _, _
      have hw := wrapi hlt (by omega)
      refine ⟨i + 1, by omega, by omega, Less.of rfl (by simp [go_sem, hw, hks] <;> omega) (by simp [go_sem, hks])⟩)
    ·intro hc; try simp at hc
     all_goals (
      refine AW.skipN (fun _ h => h) ?_
      try (have hks := kidU_not hx (by simpa using hc))
      try (refine AW.rename (nd := ?nd_4) 8 27 ?h1_4 ?h2_4 ?h4_4 ?kk_4; (case h1_4 => exact rfl); (case h2_4 => simp [go_sem]); (case h4_4 => simp [go_sem]))
      refine rgK ?_
      intro k hk; simp -dsimp [go_sem, -decide_eq_true_eq, -decide_eq_false_iff_not, hx]
      repeat' first | apply And.intro | refine hk _ ?_ | intro hg | omega | exact True.intro
      all_goals clear hk k
      show ∃ _, _
      have hw := wrapi hlt (by omega)
      refine ⟨i + 1, by omega, by omega, Less.of rfl (by simp [go_sem, hw, hks] <;> omega) (by simp [go_sem, hks])⟩))
 ·intro hc; try simp at hc
  all_goals (
   refine AW.exitN (fun _ h => h) ?_
   refine rgA [4] ?_
   refine rt ?_
   rw [kids_end (by omega)]; simp [go_sem, Try.results59])

/-- spec.l4Kids -/
theorem dc_spec_l4Kids (p : List TStep) (a : Int) (hp : p.length ≤ 24) (h0 : (nS p 0).par ≠ a) : DC Try.prog 87 [.isl 6 (p.map TStep.ro), .int .i64 a] (.osl 1 ((kids p a).map I1)) [] := by
 refine DC.intro tiOk Try.func87 rfl rfl rfl rfl rfl rfl rfl rfl [1000] ?_
 refine rgA [0,1] ?_
 refine rgA [0,1,5] ?_
 refine AW.seq ?_
 refine rgA [0,1,5,6] ?_
 refine AW.block ?_
 refine AW.rename (nd := ?nd_1) 7 24 ?h1_1 ?h2_1 ?h4_1 ?kk_1
 (case h1_1 => exact rfl)
 (case h2_1 => simp [go_sem])
 (case h4_1 => simp [go_sem])
 refine AW.loopI (fun i : Nat => ⟨26, [(0, .isl 6 (p.map TStep.ro)), (1, .int .i64 a), (5, .sl 24 1 0 (kidU p a i).length), (6, .int .i64 i)], [(24, some ⟨1, (kidU p a i).map I1⟩)]⟩) (fun i => i ≤ p.length) (fun i => p.length - i) (0) (by simp) (Less.of rfl (by simp [go_sem, kidU]) (by simp [go_sem, kidU])) ?_
 rintro i hi
 refine AW.rename (nd := ?nd_2) 24 7 ?h1_2 ?h2_2 ?h4_2 ?kk_2
 (case h1_2 => exact rfl)
 (case h2_2 => simp [go_sem])
 (case h4_2 => simp [go_sem])
 refine AW.seq ?_
 refine rgA [0,1,5,6,11] ?_
 refine AW.cond rfl ?_ ?_
 ·intro hc; try simp at hc
  all_goals (
   have hlt : i < p.length := by assumption
   obtain ⟨x, hx⟩ := at_some hlt
   have hi0 : x.par = a → 0 < i := fun h => by rcases Nat.eq_zero_or_pos i with h1 | h1; (exfalso; subst h1; rw [nS_at hx] at h0; exact h0 h); exact h1
   have hkl := kidU_len p a i
   refine AW.skipN (fun _ h => h) ?_
   refine AW.seq ?_
   refine AW.block ?_
   refine rg [0,1,5,6,20] ?_
   intro k hk; simp -dsimp (maxSteps := 2000000) [go_sem, -decide_eq_true_eq, -decide_eq_false_iff_not, hx]
   repeat' first | apply And.intro | refine hk _ ?_ | intro hg | omega | exact True.intro
   all_goals clear hk k
   refine AW.cond rfl ?_ ?_
   ·intro hc; try simp at hc
    all_goals (
     have hxa : x.par = a := by simpa using hc
     have hks := kidU_yes hx ⟨hi0 hxa, hxa⟩
     refine rgN [0,1,5,6] (fun _ h => h) ?_
     intro k hk; simp -dsimp [go_sem, -decide_eq_true_eq, -decide_eq_false_iff_not, hx]
     repeat' first | apply And.intro | refine hk _ ?_ | intro hg | omega | exact True.intro
     all_goals clear hk k
     try (have hks := kidU_not hx (fun h => absurd h.2 (by simpa using hc)))
     try (refine AW.rename (nd := ?nd_3) 7 24 ?h1_3 ?h2_3 ?h4_3 ?kk_3; (case h1_3 => exact rfl); (case h2_3 => simp [go_sem]); (case h4_3 => simp [go_sem]))
     refine rgK ?_
     intro k hk; simp -dsimp [go_sem, -decide_eq_true_eq, -decide_eq_false_iff_not, hx]
     repeat' first | apply And.intro | refine hk _ ?_ | intro hg | omega | exact True.intro
     all_goals clear hk k
     show ∃ _, _
     have hw := wrapi hlt (by omega)
     refine ⟨i + 1, by omega, by omega, Less.of rfl (by simp [go_sem, hw, hks] <;> omega) (by simp [go_sem, hks])⟩)
   ·intro hc; try simp at hc
    all_goals (
     refine AW.skipN (fun _ h => h) ?_
     try (have hks := kidU_not hx (fun h => absurd h.2 (by simpa using hc)))
     try (refine AW.rename (nd := ?nd_4) 7 24 ?h1_4 ?h2_4 ?h4_4 ?kk_4; (case h1_4 => exact rfl); (case h2_4 => simp [go_sem]); (case h4_4 => simp [go_sem]))
     refine rgK ?_
     intro k hk; simp -dsimp [go_sem, -decide_eq_true_eq, -decide_eq_false_iff_not, hx]
     repeat' first | apply And.intro | refine hk _ ?_ | intro hg | omega | exact True.intro
     all_goals clear hk k
     show ∃ _, _
     have hw := wrapi hlt (by omega)
     refine ⟨i + 1, by omega, by omega, Less.of rfl (by simp [go_sem, hw, hks] <;> omega) (by simp [go_sem, hks])⟩))
 ·intro hc; try simp at hc
  all_goals (
   refine AW.exitN (fun _ h => h) ?_
   refine rgA [4] ?_
   refine rt ?_
   rw [kids_end (by omega)]; simp [go_sem, Try.results87])

end Go.AM
namespace Go.AM
open Go.Proofs

set_option maxHeartbeats 8000000 in
/-- (*impl.graphMaker).sequence -/
theorem dc_impl_graphMaker_sequence (p : List TStep) (hP : ProcOk p) (f : Nat) (hS : ∀ (k : Int) (ns : List TGNode) (fs : List TFlow), 0 ≤ k → k.toNat < p.length → p.length ≤ k.toNat + f → ns.length + 3 * cK p f k ≤ 400 → fs.length + 5 * cK p f k ≤ 400 → DC Try.prog 66 [.op (mrow p ns fs), .int .i64 k] (.tup [.int .i64 (gstep p f k.toNat ns.length).en, .int .i64 (gstep p f k.toNat ns.length).lv]) [(0, .op (mrow p (ns ++ (gstep p f k.toNat ns.length).ns) (fs ++ (gstep p f k.toNat ns.length).fs)))]) (ns : List TGNode) (fs : List TFlow) (a : Nat) (ha : a < p.length) (hf : p.length ≤ a + f + 1) (hk1 : 1 ≤ (kids p (a : Int)).length) (hb1 : ns.length + 3 * cKs p f (kids p (a : Int)) ≤ 397) (hb2 : fs.length + 5 * cKs p f (kids p (a : Int)) ≤ 395) : DC Try.prog 100 [.op (mrow p ns fs), .osl 1 ((kids p (a : Int)).map I1)] (.tup [.int .i64 (seqN (gstep p f) ns.length (kids p (a : Int)) ((kids p (a : Int)).length - 1)).en, .int .i64 (seqN (gstep p f) ns.length (kids p (a : Int)) ((kids p (a : Int)).length - 1)).lv]) [(0, .op (mrow p (ns ++ (seqN (gstep p f) ns.length (kids p (a : Int)) ((kids p (a : Int)).length - 1)).ns) (fs ++ (seqN (gstep p f) ns.length (kids p (a : Int)) ((kids p (a : Int)).length - 1)).fs)))] := by
 have hkl := kids_len p (a : Int)
 have hp := hP.len.2
 have hfw : ∀ k2 ∈ (kids p (a : Int)), Few p f (gstep p f) k2 := fun k2 h9 => by obtain ⟨m, rfl, h1, h2, _, _⟩ := hP.kid h9; exact gstep_few hP f m h2
 have hne : (kids p (a : Int)) ≠ [] := List.ne_nil_of_length_pos (by omega)
 obtain ⟨u0, hu0⟩ := at_some (l := (kids p (a : Int))) (i := 0) (by omega)
 have hu03 := gel hu0
 obtain ⟨um0, hum0, hw1, hw2, hw4, hw5⟩ := hP.kid (List.mem_of_getElem? hu0)
 have hd0 : headI (kids p (a : Int)) = u0 := by unfold headI; rw [List.getD_eq_getElem?_getD, hu0]; rfl
 have hc00 : cKs p f (List.take 1 (kids p (a : Int))) = cKs p f (List.take 0 (kids p (a : Int))) + cK p f u0 := cKs_snoc hu0
 have hcl0 := cKs_le p f (kids p (a : Int)) 1
 have hce0 : cKs p f (List.take 0 (kids p (a : Int))) = 0 := rfl
 have hcall0 := hS u0 ns fs (by omega) (by omega) (by omega) (by omega) (by omega)
 obtain ⟨R0, hR0⟩ : ∃ R, seqN (gstep p f) ns.length (kids p (a : Int)) 0 = R := ⟨_, rfl⟩
 have hR1 := hR0
 rw [seq_zero, hd0] at hR1
 rw [hR1] at hcall0
 obtain ⟨N0, hN0⟩ : ∃ N, N = ns ++ R0.ns := ⟨_, rfl⟩
 obtain ⟨F0, hF0⟩ : ∃ N, N = fs ++ R0.fs := ⟨_, rfl⟩
 rw [← hN0, ← hF0] at hcall0
 refine DC.intro tiOk Try.func100 rfl rfl rfl rfl rfl rfl rfl (by simp [noW, noWo]) [] ?_
 refine rgA [0,1] ?_
 refine AW.reg tiOk (fun _ => [0]) [0,1,6,7] ?_
 intro k hk; simp -dsimp (maxSteps := 2000000) [go_sem, -decide_eq_true_eq, -decide_eq_false_iff_not, hu0, hu03]
 repeat' first | apply And.intro | refine hk _ ?_ | intro hg | (refine CallK.intro (hcall0) ?_; simp -dsimp (maxSteps := 2000000) [go_sem, -decide_eq_true_eq, -decide_eq_false_iff_not, hu0, hu03]) | omega | exact True.intro
 all_goals clear hk k
 refine AW.seq ?_
 have hlt0 : (1 : Int) ≤ ((kids p (a : Int)).length : Nat) := by omega
 refine rg [0,6,7,21,22,23] ?_
 intro k hk; simp -dsimp [go_sem, -decide_eq_true_eq, -decide_eq_false_iff_not, hk1, hlt0]
 repeat' first | apply And.intro | refine hk _ ?_ | intro hg | omega | exact True.intro
 all_goals clear hk k
 refine AW.block ?_
 refine AW.loopI (fun q : Nat × List TGNode × List TFlow => ⟨41, [(0, .ptr 1900 3 0 0), (6, .int .i64 (seqN (gstep p f) ns.length (kids p (a : Int)) q.1).en), (7, .int .i64 (seqN (gstep p f) ns.length (kids p (a : Int)) q.1).lv), (21, .sl 1901 1 1 ((kids p (a : Int)).length - 1)), (22, .int .i64 (((kids p (a : Int)).length - 1 : Nat) : Int)), (23, .int .i64 (q.1 : Nat))], [(1901, some ⟨1, (kids p (a : Int)).map I1⟩), (1900, some ⟨3, [mrow p q.2.1 q.2.2]⟩)]⟩) (fun q => q.1 ≤ (kids p (a : Int)).length - 1 ∧ q.2.1 = ns ++ (seqN (gstep p f) ns.length (kids p (a : Int)) q.1).ns ∧ q.2.2 = fs ++ (seqN (gstep p f) ns.length (kids p (a : Int)) q.1).fs) (fun q => (kids p (a : Int)).length - 1 - q.1) ((0, N0, F0)) (⟨Nat.zero_le _, by simp only; rw [hR0]; exact hN0, by simp only; rw [hR0]; exact hF0⟩) (Less.of rfl (by simp [go_sem, hR0]) (by simp [go_sem, hR0])) ?_
 rintro ⟨i, N1, F1⟩ ⟨hi, hN1, hF1⟩
 simp only at hi hN1 hF1
 refine rgA [0,6,7,21,22,23,24] ?_
 refine AW.seq ?_
 refine AW.cond rfl ?_ ?_
 ·intro hc; try simp at hc
  all_goals (
   have hlt : i < (kids p (a : Int)).length - 1 := by first | assumption | omega
   obtain ⟨u, hu⟩ := at_some (l := (kids p (a : Int))) (i := i + 1) (by omega)
   have hu3 := gel hu
   obtain ⟨um, hum, hu1, hu2, hu4, hu5⟩ := hP.kid (List.mem_of_getElem? hu)
   have hf1 := seq_few (n := ns.length) hne hfw i (by omega)
   have hc1 := cKs_snoc (p := p) (f := f) hu
   have hc2 := cKs_le p f (kids p (a : Int)) (i + 1 + 1)
   have hpz := cK_pos p f u
   have hNl : N1.length = ns.length + (seqN (gstep p f) ns.length (kids p (a : Int)) i).ns.length := by rw [hN1, List.length_append]
   have hFl : F1.length = fs.length + (seqN (gstep p f) ns.length (kids p (a : Int)) i).fs.length := by rw [hF1, List.length_append]
   have hcall := hS u N1 F1 (by omega) (by omega) (by omega) (by omega) (by omega)
   have hsq := seq_succ (g := gstep p f) (n := ns.length) hu
   rw [hNl] at hcall
   obtain ⟨R, hR⟩ : ∃ R, gstep p f u.toNat (ns.length + (seqN (gstep p f) ns.length (kids p (a : Int)) i).ns.length) = R := ⟨_, rfl⟩
   have hfR := hfw u (List.mem_of_getElem? hu) (ns.length + (seqN (gstep p f) ns.length (kids p (a : Int)) i).ns.length)
   unfold seqF at hsq
   rw [hR] at hcall hsq hfR
   obtain ⟨N2, hN2⟩ : ∃ N, N = N1 ++ R.ns := ⟨_, rfl⟩
   obtain ⟨F2, hF2⟩ : ∃ N, N = F1 ++ R.fs := ⟨_, rfl⟩
   rw [← hN2, ← hF2] at hcall
   refine AW.skipN (fun _ h => h) ?_
   refine AW.seq ?_
   refine AW.block ?_
   refine rg [0,6,7,9,21,22,23] ?_
   intro k hk; simp -dsimp [go_sem, -decide_eq_true_eq, -decide_eq_false_iff_not, hu, hu3, hu0, hu03, Nat.add_comm 1 i]
   repeat' first | apply And.intro | refine hk _ ?_ | intro hg | omega | exact True.intro
   all_goals clear hk k
   refine AW.reg tiOk (fun _ => [0]) [0,6,7,10,11,21,22,23] ?_
   intro k hk; simp -dsimp (maxSteps := 2000000) [go_sem, -decide_eq_true_eq, -decide_eq_false_iff_not, hu, hu3, hu0, hu03, Nat.add_comm 1 i]
   repeat' first | apply And.intro | refine hk _ ?_ | intro hg | (refine CallK.intro (hcall) ?_; simp -dsimp (maxSteps := 2000000) [go_sem, -decide_eq_true_eq, -decide_eq_false_iff_not, hu, hu3, hu0, hu03, Nat.add_comm 1 i]) | omega | exact True.intro
   all_goals clear hk k
   refine AW.reg tiOk (fun _ => [0]) [0,6,11,21,22,23] ?_
   intro k hk; simp -dsimp (maxSteps := 2000000) [go_sem, -decide_eq_true_eq, -decide_eq_false_iff_not, hu, hu3, hu0, hu03, Nat.add_comm 1 i]
   repeat' first | apply And.intro | refine hk _ ?_ | intro hg | (refine CallK.intro ((dc_impl_graphMaker_flow_n p N2 F2 (seqN (gstep p f) ns.length (kids p (a : Int)) i).lv R.en (by rw [hF2, hF1, List.length_append, List.length_append]; omega))) ?_; simp -dsimp (maxSteps := 2000000) [go_sem, -decide_eq_true_eq, -decide_eq_false_iff_not, hu, hu3, hu0, hu03, Nat.add_comm 1 i]) | omega | exact True.intro
   all_goals clear hk k
   refine rgN [0,6,7,21,22,23] (fun _ h => h) ?_
   intro k hk; simp -dsimp [go_sem, -decide_eq_true_eq, -decide_eq_false_iff_not, hu, hu3, hu0, hu03, Nat.add_comm 1 i]
   repeat' first | apply And.intro | refine hk _ ?_ | intro hg | omega | exact True.intro
   all_goals clear hk k
   refine rgK ?_
   intro k hk; simp -dsimp [go_sem, -decide_eq_true_eq, -decide_eq_false_iff_not, hu, hu3, hu0, hu03, Nat.add_comm 1 i]
   repeat' first | apply And.intro | refine hk _ ?_ | intro hg | omega | exact True.intro
   all_goals clear hk k
   show ∃ _, _
   have hww : IntKind.wrap .i64 ((i : Int) + 1) = (i : Int) + 1 := wrap64 (by omega) (by omega)
   refine ⟨(i + 1, N2, F2 ++ [⟨(seqN (gstep p f) ns.length (kids p (a : Int)) i).lv, R.en, []⟩]), ⟨by simp only; omega, by simp only; rw [hsq, hN2, hN1]; simp, by simp only; rw [hsq, hF2, hF1]; simp⟩, by simp only; omega, Less.of rfl (by simp [go_sem, hww, hsq]) (by simp [go_sem, hsq])⟩)
 ·intro hc; try simp at hc
  all_goals (
   refine AW.exitN (fun _ h => h) ?_
   refine rgA [0,4,5] ?_
   refine rt ?_
   obtain rfl : i = (kids p (a : Int)).length - 1 := (by omega)
   subst hN1 hF1
   simp [go_sem, Try.results100])

end Go.AM
namespace Go.AM
open Go.Proofs

set_option maxHeartbeats 8000000 in
/-- (*impl.graphMaker).sides -/
theorem dc_impl_graphMaker_sides (p : List TStep) (hP : ProcOk p) (f : Nat) (hS : ∀ (k : Int) (ns : List TGNode) (fs : List TFlow), 0 ≤ k → k.toNat < p.length → p.length ≤ k.toNat + f → ns.length + 3 * cK p f k ≤ 400 → fs.length + 5 * cK p f k ≤ 400 → DC Try.prog 66 [.op (mrow p ns fs), .int .i64 k] (.tup [.int .i64 (gstep p f k.toNat ns.length).en, .int .i64 (gstep p f k.toNat ns.length).lv]) [(0, .op (mrow p (ns ++ (gstep p f k.toNat ns.length).ns) (fs ++ (gstep p f k.toNat ns.length).fs)))]) (ns : List TGNode) (fs : List TFlow) (a : Nat) (ha : a < p.length) (hf : p.length ≤ a + f + 1) (ok ck : Int) (hb1 : ns.length + 3 * cKs p f (kids p (a : Int)) ≤ 397) (hb2 : fs.length + 5 * cKs p f (kids p (a : Int)) ≤ 395) : DC Try.prog 102 [.op (mrow p ns fs), .int .i64 (a : Nat), .int .i64 ok, .int .i64 ck] (.tup [.int .i64 (sidesG (gstep p f) (cdS p) (⟨ok, a, [], 0, []⟩ : TGNode) (⟨ck, a, [], 0, []⟩ : TGNode) (kids p (a : Int)) ns.length).en, .int .i64 (sidesG (gstep p f) (cdS p) (⟨ok, a, [], 0, []⟩ : TGNode) (⟨ck, a, [], 0, []⟩ : TGNode) (kids p (a : Int)) ns.length).lv]) [(0, .op (mrow p (ns ++ (sidesG (gstep p f) (cdS p) (⟨ok, a, [], 0, []⟩ : TGNode) (⟨ck, a, [], 0, []⟩ : TGNode) (kids p (a : Int)) ns.length).ns) (fs ++ (sidesG (gstep p f) (cdS p) (⟨ok, a, [], 0, []⟩ : TGNode) (⟨ck, a, [], 0, []⟩ : TGNode) (kids p (a : Int)) ns.length).fs)))] := by
 have hkl := kids_len p (a : Int)
 have hp := hP.len.2
 have hfw : ∀ k2 ∈ (kids p (a : Int)), Few p f (gstep p f) k2 := fun k2 h9 => by obtain ⟨m, rfl, h1, h2, _, _⟩ := hP.kid h9; exact gstep_few hP f m h2
 have hnd0 := dc_impl_graphMaker_node_z p ns fs ok (a : Int) 0 0 0 [] (by omega)
 obtain ⟨N0, hN0⟩ : ∃ N, N = ns ++ [(⟨ok, a, [], 0, []⟩ : TGNode)] := ⟨_, rfl⟩
 rw [← hN0] at hnd0
 refine DC.intro tiOk Try.func102 rfl rfl rfl rfl rfl rfl rfl (by simp [noW, noWo]) [] ?_
 refine rgA [0,1,2,3] ?_
 refine AW.reg tiOk (fun i => if i = 4 then [0] else []) [0,1,3,10,11] ?_
 intro k hk; simp -dsimp (maxSteps := 2000000) [go_sem, -decide_eq_true_eq, -decide_eq_false_iff_not]
 repeat' first | apply And.intro | refine hk _ ?_ | intro hg | (refine CallK.intro (hnd0) ?_; simp -dsimp (maxSteps := 2000000) [go_sem, -decide_eq_true_eq, -decide_eq_false_iff_not]) | omega | exact True.intro
 all_goals clear hk k
 refine AW.seq ?_
 refine rg [0,1,3,10,11,30,31,32] ?_
 intro k hk; simp -dsimp (maxSteps := 2000000) [go_sem, -decide_eq_true_eq, -decide_eq_false_iff_not]
 repeat' first | apply And.intro | refine hk _ ?_ | intro hg | (refine CallK.intro (dc_impl_kids p (a : Int) hp) ?_; simp -dsimp (maxSteps := 2000000) [go_sem, -decide_eq_true_eq, -decide_eq_false_iff_not]) | omega | exact True.intro
 all_goals clear hk k
 refine AW.block ?_
 refine AW.rename (nd := ?nd_1) 24 57 ?h1_1 ?h2_1 ?h4_1 ?kk_1
 (case h1_1 => exact rfl)
 (case h2_1 => simp [go_sem])
 (case h4_1 => simp [go_sem])
 refine AW.loopI (fun q : Nat × List TGNode × List TFlow => ⟨77, [(0, .ptr 1900 3 0 0), (1, .int .i64 (a : Nat)), (3, .int .i64 ck), (10, .int .i64 (ns.length : Nat)), (11, .sl 57 1 0 q.1), (30, .sl 1030 1 0 (kids p (a : Int)).length), (31, .int .i64 (kids p (a : Int)).length), (32, .int .i64 (q.1 : Nat))], [(57, some ⟨1, (sdN (gstep p f) (cdS p) ns.length (⟨ok, a, [], 0, []⟩ : TGNode) (kids p (a : Int)) q.1).os.map I1⟩), (1030, some ⟨1, (kids p (a : Int)).map I1⟩), (1900, some ⟨3, [mrow p q.2.1 q.2.2]⟩)]⟩) (fun q => q.1 ≤ (kids p (a : Int)).length ∧ q.2.1 = ns ++ (sdN (gstep p f) (cdS p) ns.length (⟨ok, a, [], 0, []⟩ : TGNode) (kids p (a : Int)) q.1).ns ∧ q.2.2 = fs ++ (sdN (gstep p f) (cdS p) ns.length (⟨ok, a, [], 0, []⟩ : TGNode) (kids p (a : Int)) q.1).fs) (fun q => (kids p (a : Int)).length - q.1) ((0, N0, fs)) (⟨Nat.zero_le _, hN0, by simp only; rw [sd_zero]; simp⟩) (Less.of rfl (by simp [go_sem, sd_zero]) (by simp [go_sem, sd_zero])) ?_
 rintro ⟨i, N1, F1⟩ ⟨hi, hN1, hF1⟩
 refine AW.rename (nd := ?nd_2) 57 24 ?h1_2 ?h2_2 ?h4_2 ?kk_2
 (case h1_2 => exact rfl)
 (case h2_2 => simp [go_sem])
 (case h4_2 => simp [go_sem])
 simp only at hi hN1 hF1
 have hf1 := sd_few (cd := cdS p) (n := ns.length) (op := (⟨ok, a, [], 0, []⟩ : TGNode)) hfw i hi
 have hc2 := cKs_le p f (kids p (a : Int)) i
 have hNl : N1.length = ns.length + (sdN (gstep p f) (cdS p) ns.length (⟨ok, a, [], 0, []⟩ : TGNode) (kids p (a : Int)) i).ns.length := by rw [hN1, List.length_append]
 have hFl : F1.length = fs.length + (sdN (gstep p f) (cdS p) ns.length (⟨ok, a, [], 0, []⟩ : TGNode) (kids p (a : Int)) i).fs.length := by rw [hF1, List.length_append]
 have hol : (sdN (gstep p f) (cdS p) ns.length (⟨ok, a, [], 0, []⟩ : TGNode) (kids p (a : Int)) i).os.length = i := hf1.2.2
 refine rgA [0,1,3,10,11,30,31,32,33] ?_
 refine AW.seq ?_
 refine AW.cond rfl ?_ ?_
 ·intro hc; try simp at hc
  all_goals (
   have hlt : i < (kids p (a : Int)).length := by first | assumption | omega
   obtain ⟨u, hu⟩ := at_some (l := (kids p (a : Int))) (i := i) hlt
   have hu3 := gel hu
   obtain ⟨um, hum, hu1, hu2, hu4, hu5⟩ := hP.kid (List.mem_of_getElem? hu)
   have hc1 := cKs_snoc (p := p) (f := f) hu
   have hc3 := cKs_le p f (kids p (a : Int)) (i + 1)
   have hpz := cK_pos p f u
   have hcall := hS u N1 F1 (by omega) (by omega) (by omega) (by omega) (by omega)
   have hsd := sd_succ (g := gstep p f) (cd := cdS p) (n := ns.length) (op := (⟨ok, a, [], 0, []⟩ : TGNode)) hu
   rw [hNl] at hcall
   obtain ⟨R, hR⟩ : ∃ R, gstep p f u.toNat (ns.length + (sdN (gstep p f) (cdS p) ns.length (⟨ok, a, [], 0, []⟩ : TGNode) (kids p (a : Int)) i).ns.length) = R := ⟨_, rfl⟩
   have hfR := hfw u (List.mem_of_getElem? hu) (ns.length + (sdN (gstep p f) (cdS p) ns.length (⟨ok, a, [], 0, []⟩ : TGNode) (kids p (a : Int)) i).ns.length)
   unfold sdF at hsd
   rw [hR] at hcall hsd hfR
   obtain ⟨N2, hN2⟩ : ∃ N, N = N1 ++ R.ns := ⟨_, rfl⟩
   obtain ⟨F2, hF2⟩ : ∃ N, N = F1 ++ R.fs := ⟨_, rfl⟩
   rw [← hN2, ← hF2] at hcall
   have hum2 : u.toNat = um := by omega
   obtain ⟨x, hx⟩ := at_some hu2
   have hx3 := gel hx
   have hcd : cdS p um = x.cond := by unfold cdS; rw [nS_at hx]
   rw [hum2, hcd] at hsd
   have hxs := hP.sml x (List.mem_of_getElem? hx)
   have hfl := dc_impl_graphMaker_flow_c p N2 F2 (ns.length : Int) R.en x.cond (by have := hxs.2.1; omega) (by rw [hF2, List.length_append]; omega)
   have htk : ((sdN (gstep p f) (cdS p) ns.length (⟨ok, a, [], 0, []⟩ : TGNode) (kids p (a : Int)) i).os.map I1).take i = (sdN (gstep p f) (cdS p) ns.length (⟨ok, a, [], 0, []⟩ : TGNode) (kids p (a : Int)) i).os.map I1 := List.take_of_length_le (by rw [List.length_map]; omega)
   have hu0b : (0 : Int) ≤ u := by omega
   have hult : u < (p.length : Nat) := by omega
   refine AW.skipN (fun _ h => h) ?_
   refine AW.seq ?_
   refine AW.block ?_
   refine rg [0,1,3,10,11,13,30,31,32] ?_
   intro k hk; simp -dsimp [go_sem, -decide_eq_true_eq, -decide_eq_false_iff_not, hu, hu3]
   repeat' first | apply And.intro | refine hk _ ?_ | intro hg | omega | exact True.intro
   all_goals clear hk k
   refine AW.reg tiOk (fun _ => [0]) [0,1,3,10,11,13,14,15,30,31,32] ?_
   intro k hk; simp -dsimp (maxSteps := 2000000) [go_sem, -decide_eq_true_eq, -decide_eq_false_iff_not, hu, hu3]
   repeat' first | apply And.intro | refine hk _ ?_ | intro hg | (refine CallK.intro (hcall) ?_; simp -dsimp (maxSteps := 2000000) [go_sem, -decide_eq_true_eq, -decide_eq_false_iff_not, hu, hu3]) | omega | exact True.intro
   all_goals clear hk k
   refine AW.reg tiOk (fun _ => [0]) [0,1,3,10,11,15,30,31,32] ?_
   intro k hk; simp -dsimp (maxSteps := 2000000) [go_sem, -decide_eq_true_eq, -decide_eq_false_iff_not, hx, hx3, hum2]
   repeat' first | apply And.intro | refine hk _ ?_ | intro hg | (refine CallK.intro (hfl) ?_; simp -dsimp (maxSteps := 2000000) [go_sem, -decide_eq_true_eq, -decide_eq_false_iff_not, hx, hx3, hum2]) | omega | exact True.intro
   all_goals clear hk k
   refine rgN [0,1,3,10,11,30,31,32] (fun _ h => h) ?_
   intro k hk; simp -dsimp [go_sem, -decide_eq_true_eq, -decide_eq_false_iff_not, htk, hol]
   repeat' first | apply And.intro | refine hk _ ?_ | intro hg | omega | exact True.intro
   all_goals clear hk k
   refine rgKA ?_
   show ∃ _, _
   have hww : IntKind.wrap .i64 ((i : Int) + 1) = (i : Int) + 1 := wrap64 (by omega) (by omega)
   refine ⟨(i + 1, N2, F2 ++ [⟨(ns.length : Int), R.en, x.cond⟩]), ⟨by simp only; omega, by simp only; rw [hsd, hN2, hN1]; simp, by simp only; rw [hsd, hF2, hF1]; simp⟩, by simp only; omega, Less.of rfl (by simp [go_sem, hww, hsd, hol]) (by simp [go_sem, hsd])⟩)
 ·intro hc; try simp at hc
  all_goals (
   refine AW.exitN (fun _ h => h) ?_
   obtain rfl : i = (kids p (a : Int)).length := by first | omega | (simp at hc; omega)
   have hnd9 := dc_impl_graphMaker_node_z p N1 F1 ck (a : Int) 0 0 0 [] (by omega)
   obtain ⟨N3, hN3⟩ : ∃ N, N = N1 ++ [(⟨ck, a, [], 0, []⟩ : TGNode)] := ⟨_, rfl⟩
   rw [← hN3] at hnd9
   obtain ⟨OS, hOS⟩ : ∃ O, (sdN (gstep p f) (cdS p) ns.length (⟨ok, a, [], 0, []⟩ : TGNode) (kids p (a : Int)) (kids p (a : Int)).length).os = O := ⟨_, rfl⟩
   rw [hOS] at hol ⊢
   refine AW.reg tiOk (fun _ => [0]) [0,10,11,16] ?_
   intro k hk; simp -dsimp (maxSteps := 2000000) [go_sem, -decide_eq_true_eq, -decide_eq_false_iff_not]
   repeat' first | apply And.intro | refine hk _ ?_ | intro hg | (refine CallK.intro (hnd9) ?_; simp -dsimp (maxSteps := 2000000) [go_sem, -decide_eq_true_eq, -decide_eq_false_iff_not]) | omega | exact True.intro
   all_goals clear hk k
   refine AW.seq ?_
   refine rg [0,10,16,64,65,66] ?_
   intro k hk; simp -dsimp [go_sem, -decide_eq_true_eq, -decide_eq_false_iff_not, hol]
   repeat' first | apply And.intro | refine hk _ ?_ | intro hg | omega | exact True.intro
   all_goals clear hk k
   refine AW.block ?_
   refine AW.loopI (fun q : Nat × List TFlow => ⟨77, [(0, .ptr 1900 3 0 0), (10, .int .i64 (ns.length : Nat)), (16, .int .i64 (N1.length : Nat)), (64, .sl 24 1 0 (kids p (a : Int)).length), (65, .int .i64 (kids p (a : Int)).length), (66, .int .i64 (q.1 : Nat))], [(24, some ⟨1, OS.map I1⟩), (1900, some ⟨3, [mrow p N3 q.2]⟩)]⟩) (fun q => q.1 ≤ (kids p (a : Int)).length ∧ q.2 = F1 ++ (OS.take q.1).map fun o => (⟨o, (N1.length : Nat), []⟩ : TFlow)) (fun q => (kids p (a : Int)).length - q.1) ((0, F1)) (⟨Nat.zero_le _, by simp⟩) (Less.of rfl (by simp [go_sem]) (by simp [go_sem])) ?_
   rintro ⟨j, F4⟩ ⟨hj, hF4⟩
   simp only at hj hF4
   refine rgA [0,10,16,64,65,66,67] ?_
   refine AW.seq ?_
   refine AW.cond rfl ?_ ?_
   ·intro hc; try simp at hc
    all_goals (
     have hlt : j < (kids p (a : Int)).length := by first | assumption | omega
     obtain ⟨o, ho⟩ := at_some (l := OS) (i := j) (by omega)
     have ho3 := gel ho
     have hos := take_snoc ho
     have hF4l : F4.length = F1.length + j := by rw [hF4, List.length_append, List.length_map, List.length_take]; omega
     have hfn := dc_impl_graphMaker_flow_n p N3 F4 o (N1.length : Int) (by omega)
     refine AW.skipN (fun _ h => h) ?_
     refine AW.seq ?_
     refine AW.block ?_
     refine rg [0,10,16,18,64,65,66] ?_
     intro k hk; simp -dsimp [go_sem, -decide_eq_true_eq, -decide_eq_false_iff_not, ho, ho3, hol]
     repeat' first | apply And.intro | refine hk _ ?_ | intro hg | omega | exact True.intro
     all_goals clear hk k
     refine AW.regN tiOk (fun _ => [0]) [0,10,16,64,65,66] (fun _ h => h) ?_
     intro k hk; simp -dsimp (maxSteps := 2000000) [go_sem, -decide_eq_true_eq, -decide_eq_false_iff_not, ho, ho3, hol]
     repeat' first | apply And.intro | refine hk _ ?_ | intro hg | (refine CallK.intro (hfn) ?_; simp -dsimp (maxSteps := 2000000) [go_sem, -decide_eq_true_eq, -decide_eq_false_iff_not, ho, ho3, hol]) | omega | exact True.intro
     all_goals clear hk k
     refine rgK ?_
     intro k hk; simp -dsimp [go_sem, -decide_eq_true_eq, -decide_eq_false_iff_not, ho, ho3, hol]
     repeat' first | apply And.intro | refine hk _ ?_ | intro hg | omega | exact True.intro
     all_goals clear hk k
     show ∃ _, _
     have hww : IntKind.wrap .i64 ((j : Int) + 1) = (j : Int) + 1 := wrap64 (by omega) (by omega)
     refine ⟨(j + 1, F4 ++ [⟨o, (N1.length : Nat), []⟩]), ⟨by simp only; omega, by simp only; rw [hos, hF4]; simp⟩, by simp only; omega, Less.of rfl (by simp [go_sem, hww]) (by simp [go_sem])⟩)
   ·intro hc; try simp at hc
    all_goals (
     refine AW.exitN (fun _ h => h) ?_
     refine rgA [0,8,9] ?_
     refine rt ?_
     obtain rfl : j = (kids p (a : Int)).length := by first | omega | (simp at hc; omega)
     have hfi : sidesG (gstep p f) (cdS p) (⟨ok, a, [], 0, []⟩ : TGNode) (⟨ck, a, [], 0, []⟩ : TGNode) (kids p (a : Int)) ns.length = ⟨(sdN (gstep p f) (cdS p) ns.length (⟨ok, a, [], 0, []⟩ : TGNode) (kids p (a : Int)) (kids p (a : Int)).length).ns ++ [(⟨ck, a, [], 0, []⟩ : TGNode)], (sdN (gstep p f) (cdS p) ns.length (⟨ok, a, [], 0, []⟩ : TGNode) (kids p (a : Int)) (kids p (a : Int)).length).fs ++ OS.map fun o => (⟨o, (N1.length : Nat), []⟩ : TFlow), (ns.length : Nat), (N1.length : Nat)⟩ := by simp only [sidesG, hOS, hNl]
     rw [hfi]
     rw [List.take_of_length_le (by omega)] at hF4
     rw [hN3, hF4, hF1]
     rw [hN1] at hNl ⊢
     simp [go_sem, Try.results102]))

end Go.AM
namespace Go.AM
open Go.Proofs

set_option maxHeartbeats 8000000 in
/-- (*impl.graphMaker).guard -/
theorem dc_impl_graphMaker_guard (p : List TStep) (hP : ProcOk p) (f : Nat) (hS : ∀ (k : Int) (ns : List TGNode) (fs : List TFlow), 0 ≤ k → k.toNat < p.length → p.length ≤ k.toNat + f → ns.length + 3 * cK p f k ≤ 400 → fs.length + 5 * cK p f k ≤ 400 → DC Try.prog 66 [.op (mrow p ns fs), .int .i64 k] (.tup [.int .i64 (gstep p f k.toNat ns.length).en, .int .i64 (gstep p f k.toNat ns.length).lv]) [(0, .op (mrow p (ns ++ (gstep p f k.toNat ns.length).ns) (fs ++ (gstep p f k.toNat ns.length).fs)))]) (ns : List TGNode) (fs : List TFlow) (a : Nat) (ha : a < p.length) (hf : p.length ≤ a + f + 1) (hk2 : (kids p (a : Int)).length = 2) (hb1 : ns.length + 3 * cKs p f (kids p (a : Int)) ≤ 397) (hb2 : fs.length + 5 * cKs p f (kids p (a : Int)) ≤ 395) : DC Try.prog 101 [.op (mrow p ns fs), .int .i64 (a : Nat)] (.tup [.int .i64 (guardG (gstep p f) ⟨11, a, [], (nS p a).arg, []⟩ ⟨12, a, [], 0, []⟩ ⟨13, a, [], 0, []⟩ (gI (kids p (a : Int)) 0) (gI (kids p (a : Int)) 1) ns.length).en, .int .i64 (guardG (gstep p f) ⟨11, a, [], (nS p a).arg, []⟩ ⟨12, a, [], 0, []⟩ ⟨13, a, [], 0, []⟩ (gI (kids p (a : Int)) 0) (gI (kids p (a : Int)) 1) ns.length).lv]) [(0, .op (mrow p (ns ++ (guardG (gstep p f) ⟨11, a, [], (nS p a).arg, []⟩ ⟨12, a, [], 0, []⟩ ⟨13, a, [], 0, []⟩ (gI (kids p (a : Int)) 0) (gI (kids p (a : Int)) 1) ns.length).ns) (fs ++ (guardG (gstep p f) ⟨11, a, [], (nS p a).arg, []⟩ ⟨12, a, [], 0, []⟩ ⟨13, a, [], 0, []⟩ (gI (kids p (a : Int)) 0) (gI (kids p (a : Int)) 1) ns.length).fs)))] := by
 have hkl := kids_len p (a : Int)
 have hp := hP.len.2
 have hfw : ∀ k2 ∈ (kids p (a : Int)), Few p f (gstep p f) k2 := fun k2 h9 => by obtain ⟨m, rfl, h1, h2, _, _⟩ := hP.kid h9; exact gstep_few hP f m h2
 obtain ⟨x, hx⟩ := at_some ha
 have hx3 := gel hx
 have hxn := nS_at hx
 obtain ⟨u0, hu0⟩ := at_some (l := (kids p (a : Int))) (i := 0) (by omega)
 obtain ⟨u1, hu1⟩ := at_some (l := (kids p (a : Int))) (i := 1) (by omega)
 have hu03 := gel hu0
 have hu13 := gel hu1
 obtain ⟨um0, hum0, v1, v2, v4, v5⟩ := hP.kid (List.mem_of_getElem? hu0)
 obtain ⟨um1, hum1, w1, w2, w4, w5⟩ := hP.kid (List.mem_of_getElem? hu1)
 have hc0 : cKs p f (List.take 1 (kids p (a : Int))) = cKs p f (List.take 0 (kids p (a : Int))) + cK p f u0 := cKs_snoc hu0
 have hc1 : cKs p f (List.take 2 (kids p (a : Int))) = cKs p f (List.take 1 (kids p (a : Int))) + cK p f u1 := cKs_snoc hu1
 have hce : cKs p f (List.take 0 (kids p (a : Int))) = 0 := rfl
 have hcl := cKs_le p f (kids p (a : Int)) 2
 have hg0 : gI (kids p (a : Int)) 0 = u0 := by unfold gI; rw [List.getD_eq_getElem?_getD]; simp [hu0]
 have hg1 : gI (kids p (a : Int)) 1 = u1 := by unfold gI; rw [List.getD_eq_getElem?_getD]; simp [hu1]
 have hn0 := dc_impl_graphMaker_node_z p ns fs 11 (a : Int) 0 0 x.arg [] (by omega)
 obtain ⟨N0, hN0⟩ : ∃ N, N = ns ++ [(⟨11, a, [], x.arg, []⟩ : TGNode)] := ⟨_, rfl⟩
 rw [← hN0] at hn0
 have l0 : N0.length = ns.length + 1 := by rw [hN0]; simp
 have hs0 := hS u0 N0 fs (by omega) (by omega) (by omega) (by omega) (by omega)
 rw [l0] at hs0
 obtain ⟨R0, hR0⟩ : ∃ N, N = gstep p f u0.toNat (ns.length + 1) := ⟨_, rfl⟩
 have hf0 := hfw u0 (List.mem_of_getElem? hu0) (ns.length + 1)
 rw [← hR0] at hs0 hf0
 obtain ⟨N1, hN1⟩ : ∃ N, N = N0 ++ R0.ns := ⟨_, rfl⟩
 obtain ⟨F1, hF1⟩ : ∃ N, N = fs ++ R0.fs := ⟨_, rfl⟩
 rw [← hN1, ← hF1] at hs0
 have l1 : N1.length = ns.length + 1 + R0.ns.length := by rw [hN1, List.length_append, l0]
 have m1 : F1.length = fs.length + R0.fs.length := by rw [hF1, List.length_append]
 have hn1 := dc_impl_graphMaker_node_z p N1 F1 12 (a : Int) 0 0 0 [] (by omega)
 obtain ⟨N2, hN2⟩ : ∃ N, N = N1 ++ [(⟨12, a, [], 0, []⟩ : TGNode)] := ⟨_, rfl⟩
 rw [← hN2] at hn1
 have l2 : N2.length = ns.length + 1 + R0.ns.length + 1 := by rw [hN2, List.length_append, l1]; rfl
 have hs1 := hS u1 N2 F1 (by omega) (by omega) (by omega) (by omega) (by omega)
 rw [l2] at hs1
 obtain ⟨R1, hR1⟩ : ∃ N, N = gstep p f u1.toNat (ns.length + 1 + R0.ns.length + 1) := ⟨_, rfl⟩
 have hf1 := hfw u1 (List.mem_of_getElem? hu1) (ns.length + 1 + R0.ns.length + 1)
 rw [← hR1] at hs1 hf1
 obtain ⟨N3, hN3⟩ : ∃ N, N = N2 ++ R1.ns := ⟨_, rfl⟩
 obtain ⟨F2, hF2⟩ : ∃ N, N = F1 ++ R1.fs := ⟨_, rfl⟩
 rw [← hN3, ← hF2] at hs1
 have l3 : N3.length = ns.length + 1 + R0.ns.length + 1 + R1.ns.length := by rw [hN3, List.length_append, l2]
 have m2 : F2.length = F1.length + R1.fs.length := by rw [hF2, List.length_append]
 have hn3 := dc_impl_graphMaker_node_z p N3 F2 13 (a : Int) 0 0 0 [] (by omega)
 obtain ⟨N4, hN4⟩ : ∃ N, N = N3 ++ [(⟨13, a, [], 0, []⟩ : TGNode)] := ⟨_, rfl⟩
 rw [← hN4] at hn3
 have hq0 := dc_impl_graphMaker_flow_n p N4 F2 (ns.length : Nat) R0.en (by omega)
 obtain ⟨F3, hF3⟩ : ∃ N, N = F2 ++ [(⟨(ns.length : Nat), R0.en, []⟩ : TFlow)] := ⟨_, rfl⟩
 rw [← hF3] at hq0
 have m3 : F3.length = F2.length + 1 := by rw [hF3, List.length_append]; rfl
 have hq1 := dc_impl_graphMaker_flow_n p N4 F3 (ns.length : Nat) R1.en (by omega)
 obtain ⟨F4, hF4⟩ : ∃ N, N = F3 ++ [(⟨(ns.length : Nat), R1.en, []⟩ : TFlow)] := ⟨_, rfl⟩
 rw [← hF4] at hq1
 have m4 : F4.length = F3.length + 1 := by rw [hF4, List.length_append]; rfl
 have hq2 := dc_impl_graphMaker_flow_n p N4 F4 R0.lv (N1.length : Nat) (by omega)
 obtain ⟨F5, hF5⟩ : ∃ N, N = F4 ++ [(⟨R0.lv, (N1.length : Nat), []⟩ : TFlow)] := ⟨_, rfl⟩
 rw [← hF5] at hq2
 have m5 : F5.length = F4.length + 1 := by rw [hF5, List.length_append]; rfl
 have hq3 := dc_impl_graphMaker_flow_n p N4 F5 (N1.length : Nat) (N3.length : Nat) (by omega)
 obtain ⟨F6, hF6⟩ : ∃ N, N = F5 ++ [(⟨(N1.length : Nat), (N3.length : Nat), []⟩ : TFlow)] := ⟨_, rfl⟩
 rw [← hF6] at hq3
 have m6 : F6.length = F5.length + 1 := by rw [hF6, List.length_append]; rfl
 have hq4 := dc_impl_graphMaker_flow_n p N4 F6 R1.lv (N3.length : Nat) (by omega)
 obtain ⟨F7, hF7⟩ : ∃ N, N = F6 ++ [(⟨R1.lv, (N3.length : Nat), []⟩ : TFlow)] := ⟨_, rfl⟩
 rw [← hF7] at hq4
 have m7 : F7.length = F6.length + 1 := by rw [hF7, List.length_append]; rfl
 refine DC.intro tiOk Try.func101 rfl rfl rfl rfl rfl rfl rfl (by simp [noW, noWo]) [] ?_
 refine rgA [0,1] ?_
 refine rg [0,1,6] ?_
 intro k hk; simp -dsimp (maxSteps := 2000000) [go_sem, -decide_eq_true_eq, -decide_eq_false_iff_not]
 repeat' first | apply And.intro | refine hk _ ?_ | intro hg | (refine CallK.intro (dc_impl_kids p (a : Int) hp) ?_; simp -dsimp (maxSteps := 2000000) [go_sem, -decide_eq_true_eq, -decide_eq_false_iff_not]) | omega | exact True.intro
 all_goals clear hk k
 refine AW.reg tiOk (fun i => if i = 11 then [0] else []) [0,1,6,7] ?_
 intro k hk; simp -dsimp (maxSteps := 2000000) [go_sem, -decide_eq_true_eq, -decide_eq_false_iff_not, hx, hx3]
 repeat' first | apply And.intro | refine hk _ ?_ | intro hg | (refine CallK.intro (hn0) ?_; simp -dsimp (maxSteps := 2000000) [go_sem, -decide_eq_true_eq, -decide_eq_false_iff_not, hx, hx3]) | omega | exact True.intro
 all_goals clear hk k
 refine AW.reg tiOk (fun _ => [0]) [0,1,6,7,8,9] ?_
 intro k hk; simp -dsimp (maxSteps := 2000000) [go_sem, -decide_eq_true_eq, -decide_eq_false_iff_not, hu0, hu03, hk2]
 repeat' first | apply And.intro | refine hk _ ?_ | intro hg | (refine CallK.intro (hs0) ?_; simp -dsimp (maxSteps := 2000000) [go_sem, -decide_eq_true_eq, -decide_eq_false_iff_not, hu0, hu03, hk2]) | omega | exact True.intro
 all_goals clear hk k
 refine AW.reg tiOk (fun _ => [0]) [0,1,6,7,8,9,10] ?_
 intro k hk; simp -dsimp (maxSteps := 2000000) [go_sem, -decide_eq_true_eq, -decide_eq_false_iff_not]
 repeat' first | apply And.intro | refine hk _ ?_ | intro hg | (refine CallK.intro (hn1) ?_; simp -dsimp (maxSteps := 2000000) [go_sem, -decide_eq_true_eq, -decide_eq_false_iff_not]) | omega | exact True.intro
 all_goals clear hk k
 refine AW.reg tiOk (fun _ => [0]) [0,1,7,8,9,10,11,12] ?_
 intro k hk; simp -dsimp (maxSteps := 2000000) [go_sem, -decide_eq_true_eq, -decide_eq_false_iff_not, hu1, hu13, hk2]
 repeat' first | apply And.intro | refine hk _ ?_ | intro hg | (refine CallK.intro (hs1) ?_; simp -dsimp (maxSteps := 2000000) [go_sem, -decide_eq_true_eq, -decide_eq_false_iff_not, hu1, hu13, hk2]) | omega | exact True.intro
 all_goals clear hk k
 refine AW.reg tiOk (fun _ => [0]) [0,7,8,9,10,11,12,13] ?_
 intro k hk; simp -dsimp (maxSteps := 2000000) [go_sem, -decide_eq_true_eq, -decide_eq_false_iff_not]
 repeat' first | apply And.intro | refine hk _ ?_ | intro hg | (refine CallK.intro (hn3) ?_; simp -dsimp (maxSteps := 2000000) [go_sem, -decide_eq_true_eq, -decide_eq_false_iff_not]) | omega | exact True.intro
 all_goals clear hk k
 refine AW.reg tiOk (fun _ => [0]) [0,7,9,10,11,12,13] ?_
 intro k hk; simp -dsimp (maxSteps := 2000000) [go_sem, -decide_eq_true_eq, -decide_eq_false_iff_not]
 repeat' first | apply And.intro | refine hk _ ?_ | intro hg | (refine CallK.intro (hq0) ?_; simp -dsimp (maxSteps := 2000000) [go_sem, -decide_eq_true_eq, -decide_eq_false_iff_not]) | omega | exact True.intro
 all_goals clear hk k
 refine AW.reg tiOk (fun _ => [0]) [0,7,9,10,12,13] ?_
 intro k hk; simp -dsimp (maxSteps := 2000000) [go_sem, -decide_eq_true_eq, -decide_eq_false_iff_not]
 repeat' first | apply And.intro | refine hk _ ?_ | intro hg | (refine CallK.intro (hq1) ?_; simp -dsimp (maxSteps := 2000000) [go_sem, -decide_eq_true_eq, -decide_eq_false_iff_not]) | omega | exact True.intro
 all_goals clear hk k
 refine AW.reg tiOk (fun _ => [0]) [0,7,10,12,13] ?_
 intro k hk; simp -dsimp (maxSteps := 2000000) [go_sem, -decide_eq_true_eq, -decide_eq_false_iff_not]
 repeat' first | apply And.intro | refine hk _ ?_ | intro hg | (refine CallK.intro (hq2) ?_; simp -dsimp (maxSteps := 2000000) [go_sem, -decide_eq_true_eq, -decide_eq_false_iff_not]) | omega | exact True.intro
 all_goals clear hk k
 refine AW.reg tiOk (fun _ => [0]) [0,7,12,13] ?_
 intro k hk; simp -dsimp (maxSteps := 2000000) [go_sem, -decide_eq_true_eq, -decide_eq_false_iff_not]
 repeat' first | apply And.intro | refine hk _ ?_ | intro hg | (refine CallK.intro (hq3) ?_; simp -dsimp (maxSteps := 2000000) [go_sem, -decide_eq_true_eq, -decide_eq_false_iff_not]) | omega | exact True.intro
 all_goals clear hk k
 refine AW.reg tiOk (fun _ => [0]) [0,7,13] ?_
 intro k hk; simp -dsimp (maxSteps := 2000000) [go_sem, -decide_eq_true_eq, -decide_eq_false_iff_not]
 repeat' first | apply And.intro | refine hk _ ?_ | intro hg | (refine CallK.intro (hq4) ?_; simp -dsimp (maxSteps := 2000000) [go_sem, -decide_eq_true_eq, -decide_eq_false_iff_not]) | omega | exact True.intro
 all_goals clear hk k
 refine rgA [0,4,5] ?_
 refine rt ?_
 have hfi : (guardG (gstep p f) ⟨11, a, [], (nS p a).arg, []⟩ ⟨12, a, [], 0, []⟩ ⟨13, a, [], 0, []⟩ (gI (kids p (a : Int)) 0) (gI (kids p (a : Int)) 1) ns.length) = ⟨[(⟨11, a, [], x.arg, []⟩ : TGNode)] ++ R0.ns ++ [(⟨12, a, [], 0, []⟩ : TGNode)] ++ R1.ns ++ [(⟨13, a, [], 0, []⟩ : TGNode)], R0.fs ++ R1.fs ++ [⟨(ns.length : Nat), R0.en, []⟩, ⟨(ns.length : Nat), R1.en, []⟩, ⟨R0.lv, (N1.length : Nat), []⟩, ⟨(N1.length : Nat), (N3.length : Nat), []⟩, ⟨R1.lv, (N3.length : Nat), []⟩], (ns.length : Nat), (N3.length : Nat)⟩ := by simp only [guardG, hg0, hg1, hxn, ← hR0, ← hR1, l1, l3]
 rw [hfi]
 simp only [hN4, hN3, hN2, hN1, hN0, hF7, hF6, hF5, hF4, hF3, hF2, hF1]
 simp [go_sem, Try.results101]

end Go.AM
namespace Go.AM
open Go.Proofs

set_option maxHeartbeats 8000000 in
/-- (*impl.graphMaker).step -/
theorem dc_impl_graphMaker_step (p : List TStep) (hP : ProcOk p) (f : Nat) (hS : ∀ (k : Int) (ns : List TGNode) (fs : List TFlow), 0 ≤ k → k.toNat < p.length → p.length ≤ k.toNat + f → ns.length + 3 * cK p f k ≤ 400 → fs.length + 5 * cK p f k ≤ 400 → DC Try.prog 66 [.op (mrow p ns fs), .int .i64 k] (.tup [.int .i64 (gstep p f k.toNat ns.length).en, .int .i64 (gstep p f k.toNat ns.length).lv]) [(0, .op (mrow p (ns ++ (gstep p f k.toNat ns.length).ns) (fs ++ (gstep p f k.toNat ns.length).fs)))]) (ns : List TGNode) (fs : List TFlow) (a : Nat) (ha : a < p.length) (hf : p.length ≤ a + f + 1) (hb1 : ns.length + 3 * cK p (f + 1) (a : Int) ≤ 400) (hb2 : fs.length + 5 * cK p (f + 1) (a : Int) ≤ 400) : DC Try.prog 66 [.op (mrow p ns fs), .int .i64 (a : Nat)] (.tup [.int .i64 (gstep p (f + 1) a ns.length).en, .int .i64 (gstep p (f + 1) a ns.length).lv]) [(0, .op (mrow p (ns ++ (gstep p (f + 1) a ns.length).ns) (fs ++ (gstep p (f + 1) a ns.length).fs)))] := by
 have hkl := kids_len p (a : Int)
 have hp := hP.len.2
 obtain ⟨x, hx⟩ := at_some ha
 have hx3 := gel hx
 have hxn := nS_at hx
 have hck := cK_succ p f a
 have hmn := hP.many ha
 rw [hxn] at hmn
 have hxs := hP.sml x (List.mem_of_getElem? hx)
 refine DC.intro tiOk Try.func66 rfl rfl rfl rfl rfl rfl rfl (by simp [noW, noWo]) [] ?_
 refine rgA [0,1] ?_
 refine rg [0,1,6] ?_
 intro k hk; simp -dsimp (maxSteps := 2000000) [go_sem, -decide_eq_true_eq, -decide_eq_false_iff_not, hx, hx3]
 repeat' first | apply And.intro | refine hk _ ?_ | intro hg | omega | exact True.intro
 all_goals clear hk k
 refine AW.seq ?_
 refine rgA [0,1,6,19] ?_
 refine AW.block ?_
 refine rgA [0,1,6,19,20] ?_
 refine AW.cond rfl ?_ ?_
 ·intro hc; try simp at hc
  all_goals try (exfalso; first | omega | contradiction; done)
  all_goals (
   have hk2 : x.kind = 2 := by first | assumption | simpa using hc
   have hg : (gstep p (f + 1) a ns.length) = leafG (⟨3, a, x.name, 0, []⟩ : TGNode) ns.length := by unfold gstep; rw [hxn, if_pos hk2]
   refine AW.reg tiOk (fun i => if i = 5 then [0] else []) [0,7] ?_
   intro k hk; simp -dsimp (maxSteps := 2000000) [go_sem, -decide_eq_true_eq, -decide_eq_false_iff_not]
   repeat' first | apply And.intro | refine hk _ ?_ | intro hg | (refine CallK.intro ((dc_impl_graphMaker_node_z p ns fs 3 (a : Int) 0 0 0 x.name (by omega))) ?_; simp -dsimp (maxSteps := 2000000) [go_sem, -decide_eq_true_eq, -decide_eq_false_iff_not]) | omega | exact True.intro
   all_goals clear hk k
   refine rgA [0,4,5] ?_
   refine rt ?_
   first | (rw [hg]; simp [go_sem, Try.results66, leafG]; done) | (rw [hg]; simp [go_sem, Try.results66, leafG, hoc]; done) | (have hg : (gstep p (f + 1) a ns.length) = leafG (⟨5, a, [], x.arg, []⟩ : TGNode) ns.length := (by unfold gstep; rw [hxn, if_neg (by omega), if_neg (by omega), if_pos (by assumption)]); rw [hg]; simp [go_sem, Try.results66, leafG]; done) | (have hg : (gstep p (f + 1) a ns.length) = leafG (⟨4, a, [], x.arg, []⟩ : TGNode) ns.length := (by unfold gstep; rw [hxn, if_neg (by omega), if_pos (by first | assumption | omega)]); rw [hg]; simp [go_sem, Try.results66, leafG]; done))
 ·intro hc; try simp at hc
  all_goals try (exfalso; first | omega | contradiction; done)
  all_goals (
   refine AW.seq ?_
   refine rgA [0,1,6,19,30] ?_
   refine AW.cond rfl ?_ ?_
   ·intro hc; try simp at hc
    all_goals try (exfalso; first | omega | contradiction; done)
    all_goals (
     refine AW.skipN (fun _ h => h) ?_
     refine AW.cond rfl ?_ ?_
     ·intro hc; try simp at hc
      all_goals try (exfalso; first | omega | contradiction; done)
      all_goals (
       refine rgA [0,1,6,8] ?_
       refine AW.seq ?_
       refine rgA [0,1,6,8,35] ?_
       refine AW.cond rfl ?_ ?_
       ·intro hc; try simp at hc
        all_goals try (exfalso; first | omega | contradiction; done)
        all_goals (
         refine rgNA [0,1,6,8] (fun _ h => h) ?_
         first | (have hk6 : x.kind = 6 := by first | assumption | (simpa using hc)) | (have hk5 : x.kind = 5 := by first | assumption | omega | grind)
         refine AW.reg tiOk (fun i => if i = 6 then [0] else []) [0,9] ?_
         intro k hk; simp -dsimp (maxSteps := 2000000) [go_sem, -decide_eq_true_eq, -decide_eq_false_iff_not]
         repeat' first | apply And.intro | refine hk _ ?_ | intro hg | ((first | refine CallK.intro ((dc_impl_graphMaker_node_z p ns fs 4 (a : Int) 0 0 x.arg [] (by omega))) ?_ | refine CallK.intro ((dc_impl_graphMaker_node_z p ns fs 5 (a : Int) 0 0 x.arg [] (by omega))) ?_); simp -dsimp (maxSteps := 2000000) [go_sem, -decide_eq_true_eq, -decide_eq_false_iff_not]) | omega | exact True.intro
         all_goals clear hk k
         refine rgA [0,4,5] ?_
         refine rt ?_
         first | (rw [hg]; simp [go_sem, Try.results66, leafG]; done) | (rw [hg]; simp [go_sem, Try.results66, leafG, hoc]; done) | (have hg : (gstep p (f + 1) a ns.length) = leafG (⟨5, a, [], x.arg, []⟩ : TGNode) ns.length := (by unfold gstep; rw [hxn, if_neg (by omega), if_neg (by omega), if_pos (by assumption)]); rw [hg]; simp [go_sem, Try.results66, leafG]; done) | (have hg : (gstep p (f + 1) a ns.length) = leafG (⟨4, a, [], x.arg, []⟩ : TGNode) ns.length := (by unfold gstep; rw [hxn, if_neg (by omega), if_pos (by first | assumption | omega)]); rw [hg]; simp [go_sem, Try.results66, leafG]; done))
       ·intro hc; try simp at hc
        all_goals try (exfalso; first | omega | contradiction; done)
        all_goals (
         refine AW.skipN (fun _ h => h) ?_
         first | (have hk6 : x.kind = 6 := by first | assumption | (simpa using hc)) | (have hk5 : x.kind = 5 := by first | assumption | omega | grind)
         refine AW.reg tiOk (fun i => if i = 6 then [0] else []) [0,9] ?_
         intro k hk; simp -dsimp (maxSteps := 2000000) [go_sem, -decide_eq_true_eq, -decide_eq_false_iff_not]
         repeat' first | apply And.intro | refine hk _ ?_ | intro hg | ((first | refine CallK.intro ((dc_impl_graphMaker_node_z p ns fs 4 (a : Int) 0 0 x.arg [] (by omega))) ?_ | refine CallK.intro ((dc_impl_graphMaker_node_z p ns fs 5 (a : Int) 0 0 x.arg [] (by omega))) ?_); simp -dsimp (maxSteps := 2000000) [go_sem, -decide_eq_true_eq, -decide_eq_false_iff_not]) | omega | exact True.intro
         all_goals clear hk k
         refine rgA [0,4,5] ?_
         refine rt ?_
         first | (rw [hg]; simp [go_sem, Try.results66, leafG]; done) | (rw [hg]; simp [go_sem, Try.results66, leafG, hoc]; done) | (have hg : (gstep p (f + 1) a ns.length) = leafG (⟨5, a, [], x.arg, []⟩ : TGNode) ns.length := (by unfold gstep; rw [hxn, if_neg (by omega), if_neg (by omega), if_pos (by assumption)]); rw [hg]; simp [go_sem, Try.results66, leafG]; done) | (have hg : (gstep p (f + 1) a ns.length) = leafG (⟨4, a, [], x.arg, []⟩ : TGNode) ns.length := (by unfold gstep; rw [hxn, if_neg (by omega), if_pos (by first | assumption | omega)]); rw [hg]; simp [go_sem, Try.results66, leafG]; done)))
     ·intro hc; try simp at hc
      all_goals try (exfalso; first | omega | contradiction; done)
      all_goals (
       refine rgA [0,1,6,19,45] ?_
       refine AW.cond rfl ?_ ?_
       ·intro hc; try simp at hc
        all_goals try (exfalso; first | omega | contradiction; done)
        all_goals (
         have hk7 : x.kind = 7 := by first | assumption | simpa using hc
         have heg := hP.expr ha (by rw [hxn]; exact hk7)
         rw [hxn] at heg
         have hen : x.expr ≠ [] := List.ne_nil_of_length_pos (by have := heg.len; omega)
         have hoc : owc 4 (x.expr.map TNode.ro) = .osl 4 (x.expr.map TNode.ro) := owc_ne (by simpa using hen)
         have hg : (gstep p (f + 1) a ns.length) = leafG (⟨6, a, [], x.arg, x.expr⟩ : TGNode) ns.length := by unfold gstep; rw [hxn, if_neg (by omega), if_neg (by omega), if_neg (by omega), if_pos hk7]
         refine AW.reg tiOk (fun i => if i = 8 then [0, 3] else []) [0,10] ?_
         intro k hk; simp -dsimp (maxSteps := 2000000) [go_sem, -decide_eq_true_eq, -decide_eq_false_iff_not, hoc]
         repeat' first | ((refine Chk.keys ?_); simp only [go_sem, List.map_cons, List.map_nil, List.flatMap_cons, List.flatMap_nil, List.flatMap_append, List.append_nil, List.nil_append, List.cons_append]; decide +kernel) | apply And.intro | refine hk _ ?_ | intro hg | ((first | refine CallK.intro (dc_CloneN x.expr (by have := hxs.2.2; omega)) ?_ | refine CallK.intro ((dc_impl_graphMaker_node_o p ns fs 6 (a : Int) 0 0 x.arg [] x.expr hen (by omega))) ?_); simp -dsimp (maxSteps := 2000000) [go_sem, -decide_eq_true_eq, -decide_eq_false_iff_not, hoc]) | omega | exact True.intro
         all_goals clear hk k
         refine rgA [0,4,5] ?_
         refine rt ?_
         first | (rw [hg]; simp [go_sem, Try.results66, leafG]; done) | (rw [hg]; simp [go_sem, Try.results66, leafG, hoc]; done) | (have hg : (gstep p (f + 1) a ns.length) = leafG (⟨5, a, [], x.arg, []⟩ : TGNode) ns.length := (by unfold gstep; rw [hxn, if_neg (by omega), if_neg (by omega), if_pos (by assumption)]); rw [hg]; simp [go_sem, Try.results66, leafG]; done) | (have hg : (gstep p (f + 1) a ns.length) = leafG (⟨4, a, [], x.arg, []⟩ : TGNode) ns.length := (by unfold gstep; rw [hxn, if_neg (by omega), if_pos (by first | assumption | omega)]); rw [hg]; simp [go_sem, Try.results66, leafG]; done))
       ·intro hc; try simp at hc
        all_goals try (exfalso; first | omega | contradiction; done)
        all_goals (
         refine rgA [0,1,19,58] ?_
         refine AW.cond rfl ?_ ?_
         ·intro hc; try simp at hc
          all_goals try (exfalso; first | omega | contradiction; done)
          all_goals (
           have hk1x : x.kind = 1 := by first | assumption | simpa using hc
           have hk1 : 1 ≤ (kids p (a : Int)).length := by rw [hk1x] at hmn; exact kid_one hmn
           have hg : (gstep p (f + 1) a ns.length) = seqN (gstep p f) ns.length (kids p (a : Int)) ((kids p (a : Int)).length - 1) := by unfold gstep; rw [hxn, if_neg (by omega), if_neg (by omega), if_neg (by omega), if_neg (by omega), if_pos hk1x]
           refine AW.reg tiOk (fun i => if i = 7 then [0, 1] else []) [0,4,5] ?_
           intro k hk; simp -dsimp (maxSteps := 2000000) [go_sem, -decide_eq_true_eq, -decide_eq_false_iff_not]
           repeat' first | apply And.intro | refine hk _ ?_ | intro hg | ((first | refine CallK.intro (dc_impl_kids p (a : Int) hp) ?_ | refine CallK.intro ((dc_impl_graphMaker_sequence p hP f hS ns fs a ha hf hk1 (by omega) (by omega))) ?_); simp -dsimp (maxSteps := 2000000) [go_sem, -decide_eq_true_eq, -decide_eq_false_iff_not]) | omega | exact True.intro
           all_goals clear hk k
           refine rt ?_
           first | (rw [hg]; simp [go_sem, Try.results66, leafG]; done) | (rw [hg]; simp [go_sem, Try.results66, leafG, hoc]; done) | (have hg : (gstep p (f + 1) a ns.length) = leafG (⟨5, a, [], x.arg, []⟩ : TGNode) ns.length := (by unfold gstep; rw [hxn, if_neg (by omega), if_neg (by omega), if_pos (by assumption)]); rw [hg]; simp [go_sem, Try.results66, leafG]; done) | (have hg : (gstep p (f + 1) a ns.length) = leafG (⟨4, a, [], x.arg, []⟩ : TGNode) ns.length := (by unfold gstep; rw [hxn, if_neg (by omega), if_pos (by first | assumption | omega)]); rw [hg]; simp [go_sem, Try.results66, leafG]; done))
         ·intro hc; try simp at hc
          all_goals try (exfalso; first | omega | contradiction; done)
          all_goals (
           refine rgA [0,1,19,70] ?_
           refine AW.cond rfl ?_ ?_
           ·intro hc; try simp at hc
            all_goals try (exfalso; first | omega | contradiction; done)
            all_goals (
             have hk8x : x.kind = 8 := by first | assumption | simpa using hc
             have hk8 : (kids p (a : Int)).length = 2 := by rw [hk8x] at hmn; exact kid_two hmn
             have hg : (gstep p (f + 1) a ns.length) = (guardG (gstep p f) ⟨11, a, [], (nS p a).arg, []⟩ ⟨12, a, [], 0, []⟩ ⟨13, a, [], 0, []⟩ (gI (kids p (a : Int)) 0) (gI (kids p (a : Int)) 1) ns.length) := by unfold gstep; rw [hxn, if_neg (by omega), if_neg (by omega), if_neg (by omega), if_neg (by omega), if_neg (by omega), if_pos hk8x]
             refine AW.reg tiOk (fun _ => [0]) [0,4,5] ?_
             intro k hk; simp -dsimp (maxSteps := 2000000) [go_sem, -decide_eq_true_eq, -decide_eq_false_iff_not]
             repeat' first | apply And.intro | refine hk _ ?_ | intro hg | (refine CallK.intro ((dc_impl_graphMaker_guard p hP f hS ns fs a ha hf hk8 (by omega) (by omega))) ?_; simp -dsimp (maxSteps := 2000000) [go_sem, -decide_eq_true_eq, -decide_eq_false_iff_not]) | omega | exact True.intro
             all_goals clear hk k
             refine rt ?_
             first | (rw [hg]; simp [go_sem, Try.results66, leafG]; done) | (rw [hg]; simp [go_sem, Try.results66, leafG, hoc]; done) | (have hg : (gstep p (f + 1) a ns.length) = leafG (⟨5, a, [], x.arg, []⟩ : TGNode) ns.length := (by unfold gstep; rw [hxn, if_neg (by omega), if_neg (by omega), if_pos (by assumption)]); rw [hg]; simp [go_sem, Try.results66, leafG]; done) | (have hg : (gstep p (f + 1) a ns.length) = leafG (⟨4, a, [], x.arg, []⟩ : TGNode) ns.length := (by unfold gstep; rw [hxn, if_neg (by omega), if_pos (by first | assumption | omega)]); rw [hg]; simp [go_sem, Try.results66, leafG]; done))
           ·intro hc; try simp at hc
            all_goals try (exfalso; first | omega | contradiction; done)
            all_goals (
             refine rgA [0,1,77] ?_
             refine AW.cond rfl ?_ ?_
             ·intro hc; try simp at hc
              all_goals try (exfalso; first | omega | contradiction; done)
              all_goals (
               have hk3 : x.kind = 3 := by first | assumption | simpa using hc
               have hg : (gstep p (f + 1) a ns.length) = sidesG (gstep p f) (cdS p) (⟨7, a, [], 0, []⟩ : TGNode) ⟨8, a, [], 0, []⟩ (kids p (a : Int)) ns.length := by unfold gstep; rw [hxn, if_neg (by omega), if_neg (by omega), if_neg (by omega), if_neg (by omega), if_neg (by omega), if_neg (by omega), if_pos hk3]
               refine AW.reg tiOk (fun _ => [0]) [0,4,5] ?_
               intro k hk; simp -dsimp (maxSteps := 2000000) [go_sem, -decide_eq_true_eq, -decide_eq_false_iff_not]
               repeat' first | apply And.intro | refine hk _ ?_ | intro hg | (refine CallK.intro ((dc_impl_graphMaker_sides p hP f hS ns fs a ha hf 7 8 (by omega) (by omega))) ?_; simp -dsimp (maxSteps := 2000000) [go_sem, -decide_eq_true_eq, -decide_eq_false_iff_not]) | omega | exact True.intro
               all_goals clear hk k
               refine rt ?_
               first | (rw [hg]; simp [go_sem, Try.results66, leafG]; done) | (rw [hg]; simp [go_sem, Try.results66, leafG, hoc]; done) | (have hg : (gstep p (f + 1) a ns.length) = leafG (⟨5, a, [], x.arg, []⟩ : TGNode) ns.length := (by unfold gstep; rw [hxn, if_neg (by omega), if_neg (by omega), if_pos (by assumption)]); rw [hg]; simp [go_sem, Try.results66, leafG]; done) | (have hg : (gstep p (f + 1) a ns.length) = leafG (⟨4, a, [], x.arg, []⟩ : TGNode) ns.length := (by unfold gstep; rw [hxn, if_neg (by omega), if_pos (by first | assumption | omega)]); rw [hg]; simp [go_sem, Try.results66, leafG]; done))
             ·intro hc; try simp at hc
              all_goals try (exfalso; first | omega | contradiction; done)
              all_goals (
               refine AW.skipN (fun _ h => h) ?_
               have hg : (gstep p (f + 1) a ns.length) = sidesG (gstep p f) (cdS p) (⟨9, a, [], 0, []⟩ : TGNode) ⟨10, a, [], 0, []⟩ (kids p (a : Int)) ns.length := by unfold gstep; rw [hxn, if_neg (by assumption), if_neg (by assumption), if_neg (by assumption), if_neg (by assumption), if_neg (by assumption), if_neg (by assumption), if_neg (by assumption)]
               refine AW.reg tiOk (fun _ => [0]) [0,4,5] ?_
               intro k hk; simp -dsimp (maxSteps := 2000000) [go_sem, -decide_eq_true_eq, -decide_eq_false_iff_not]
               repeat' first | apply And.intro | refine hk _ ?_ | intro hg | (refine CallK.intro ((dc_impl_graphMaker_sides p hP f hS ns fs a ha hf 9 10 (by omega) (by omega))) ?_; simp -dsimp (maxSteps := 2000000) [go_sem, -decide_eq_true_eq, -decide_eq_false_iff_not]) | omega | exact True.intro
               all_goals clear hk k
               refine rt ?_
               first | (rw [hg]; simp [go_sem, Try.results66, leafG]; done) | (rw [hg]; simp [go_sem, Try.results66, leafG, hoc]; done) | (have hg : (gstep p (f + 1) a ns.length) = leafG (⟨5, a, [], x.arg, []⟩ : TGNode) ns.length := (by unfold gstep; rw [hxn, if_neg (by omega), if_neg (by omega), if_pos (by assumption)]); rw [hg]; simp [go_sem, Try.results66, leafG]; done) | (have hg : (gstep p (f + 1) a ns.length) = leafG (⟨4, a, [], x.arg, []⟩ : TGNode) ns.length := (by unfold gstep; rw [hxn, if_neg (by omega), if_pos (by first | assumption | omega)]); rw [hg]; simp [go_sem, Try.results66, leafG]; done)))))))
   ·intro hc; try simp at hc
    all_goals try (exfalso; first | omega | contradiction; done)
    all_goals (
     refine rgNA [0,1,6,19,30] (fun _ h => h) ?_
     refine AW.cond rfl ?_ ?_
     ·intro hc; try simp at hc
      all_goals try (exfalso; first | omega | contradiction; done)
      all_goals (
       refine rgA [0,1,6,8] ?_
       refine AW.seq ?_
       refine rgA [0,1,6,8,35] ?_
       refine AW.cond rfl ?_ ?_
       ·intro hc; try simp at hc
        all_goals try (exfalso; first | omega | contradiction; done)
        all_goals (
         refine rgNA [0,1,6,8] (fun _ h => h) ?_
         first | (have hk6 : x.kind = 6 := by first | assumption | (simpa using hc)) | (have hk5 : x.kind = 5 := by first | assumption | omega | grind)
         refine AW.reg tiOk (fun i => if i = 6 then [0] else []) [0,9] ?_
         intro k hk; simp -dsimp (maxSteps := 2000000) [go_sem, -decide_eq_true_eq, -decide_eq_false_iff_not]
         repeat' first | apply And.intro | refine hk _ ?_ | intro hg | ((first | refine CallK.intro ((dc_impl_graphMaker_node_z p ns fs 4 (a : Int) 0 0 x.arg [] (by omega))) ?_ | refine CallK.intro ((dc_impl_graphMaker_node_z p ns fs 5 (a : Int) 0 0 x.arg [] (by omega))) ?_); simp -dsimp (maxSteps := 2000000) [go_sem, -decide_eq_true_eq, -decide_eq_false_iff_not]) | omega | exact True.intro
         all_goals clear hk k
         refine rgA [0,4,5] ?_
         refine rt ?_
         first | (rw [hg]; simp [go_sem, Try.results66, leafG]; done) | (rw [hg]; simp [go_sem, Try.results66, leafG, hoc]; done) | (have hg : (gstep p (f + 1) a ns.length) = leafG (⟨5, a, [], x.arg, []⟩ : TGNode) ns.length := (by unfold gstep; rw [hxn, if_neg (by omega), if_neg (by omega), if_pos (by assumption)]); rw [hg]; simp [go_sem, Try.results66, leafG]; done) | (have hg : (gstep p (f + 1) a ns.length) = leafG (⟨4, a, [], x.arg, []⟩ : TGNode) ns.length := (by unfold gstep; rw [hxn, if_neg (by omega), if_pos (by first | assumption | omega)]); rw [hg]; simp [go_sem, Try.results66, leafG]; done))
       ·intro hc; try simp at hc
        all_goals try (exfalso; first | omega | contradiction; done)
        all_goals (
         refine AW.skipN (fun _ h => h) ?_
         first | (have hk6 : x.kind = 6 := by first | assumption | (simpa using hc)) | (have hk5 : x.kind = 5 := by first | assumption | omega | grind)
         refine AW.reg tiOk (fun i => if i = 6 then [0] else []) [0,9] ?_
         intro k hk; simp -dsimp (maxSteps := 2000000) [go_sem, -decide_eq_true_eq, -decide_eq_false_iff_not]
         repeat' first | apply And.intro | refine hk _ ?_ | intro hg | ((first | refine CallK.intro ((dc_impl_graphMaker_node_z p ns fs 4 (a : Int) 0 0 x.arg [] (by omega))) ?_ | refine CallK.intro ((dc_impl_graphMaker_node_z p ns fs 5 (a : Int) 0 0 x.arg [] (by omega))) ?_); simp -dsimp (maxSteps := 2000000) [go_sem, -decide_eq_true_eq, -decide_eq_false_iff_not]) | omega | exact True.intro
         all_goals clear hk k
         refine rgA [0,4,5] ?_
         refine rt ?_
         first | (rw [hg]; simp [go_sem, Try.results66, leafG]; done) | (rw [hg]; simp [go_sem, Try.results66, leafG, hoc]; done) | (have hg : (gstep p (f + 1) a ns.length) = leafG (⟨5, a, [], x.arg, []⟩ : TGNode) ns.length := (by unfold gstep; rw [hxn, if_neg (by omega), if_neg (by omega), if_pos (by assumption)]); rw [hg]; simp [go_sem, Try.results66, leafG]; done) | (have hg : (gstep p (f + 1) a ns.length) = leafG (⟨4, a, [], x.arg, []⟩ : TGNode) ns.length := (by unfold gstep; rw [hxn, if_neg (by omega), if_pos (by first | assumption | omega)]); rw [hg]; simp [go_sem, Try.results66, leafG]; done)))
     ·intro hc; try simp at hc
      all_goals try (exfalso; first | omega | contradiction; done)
      all_goals (
       refine rgA [0,1,6,19,45] ?_
       refine AW.cond rfl ?_ ?_
       ·intro hc; try simp at hc
        all_goals try (exfalso; first | omega | contradiction; done)
        all_goals (
         have hk7 : x.kind = 7 := by first | assumption | simpa using hc
         have heg := hP.expr ha (by rw [hxn]; exact hk7)
         rw [hxn] at heg
         have hen : x.expr ≠ [] := List.ne_nil_of_length_pos (by have := heg.len; omega)
         have hoc : owc 4 (x.expr.map TNode.ro) = .osl 4 (x.expr.map TNode.ro) := owc_ne (by simpa using hen)
         have hg : (gstep p (f + 1) a ns.length) = leafG (⟨6, a, [], x.arg, x.expr⟩ : TGNode) ns.length := by unfold gstep; rw [hxn, if_neg (by omega), if_neg (by omega), if_neg (by omega), if_pos hk7]
         refine AW.reg tiOk (fun i => if i = 8 then [0, 3] else []) [0,10] ?_
         intro k hk; simp -dsimp (maxSteps := 2000000) [go_sem, -decide_eq_true_eq, -decide_eq_false_iff_not, hoc]
         repeat' first | ((refine Chk.keys ?_); simp only [go_sem, List.map_cons, List.map_nil, List.flatMap_cons, List.flatMap_nil, List.flatMap_append, List.append_nil, List.nil_append, List.cons_append]; decide +kernel) | apply And.intro | refine hk _ ?_ | intro hg | ((first | refine CallK.intro (dc_CloneN x.expr (by have := hxs.2.2; omega)) ?_ | refine CallK.intro ((dc_impl_graphMaker_node_o p ns fs 6 (a : Int) 0 0 x.arg [] x.expr hen (by omega))) ?_); simp -dsimp (maxSteps := 2000000) [go_sem, -decide_eq_true_eq, -decide_eq_false_iff_not, hoc]) | omega | exact True.intro
         all_goals clear hk k
         refine rgA [0,4,5] ?_
         refine rt ?_
         first | (rw [hg]; simp [go_sem, Try.results66, leafG]; done) | (rw [hg]; simp [go_sem, Try.results66, leafG, hoc]; done) | (have hg : (gstep p (f + 1) a ns.length) = leafG (⟨5, a, [], x.arg, []⟩ : TGNode) ns.length := (by unfold gstep; rw [hxn, if_neg (by omega), if_neg (by omega), if_pos (by assumption)]); rw [hg]; simp [go_sem, Try.results66, leafG]; done) | (have hg : (gstep p (f + 1) a ns.length) = leafG (⟨4, a, [], x.arg, []⟩ : TGNode) ns.length := (by unfold gstep; rw [hxn, if_neg (by omega), if_pos (by first | assumption | omega)]); rw [hg]; simp [go_sem, Try.results66, leafG]; done))
       ·intro hc; try simp at hc
        all_goals try (exfalso; first | omega | contradiction; done)
        all_goals (
         refine rgA [0,1,19,58] ?_
         refine AW.cond rfl ?_ ?_
         ·intro hc; try simp at hc
          all_goals try (exfalso; first | omega | contradiction; done)
          all_goals (
           have hk1x : x.kind = 1 := by first | assumption | simpa using hc
           have hk1 : 1 ≤ (kids p (a : Int)).length := by rw [hk1x] at hmn; exact kid_one hmn
           have hg : (gstep p (f + 1) a ns.length) = seqN (gstep p f) ns.length (kids p (a : Int)) ((kids p (a : Int)).length - 1) := by unfold gstep; rw [hxn, if_neg (by omega), if_neg (by omega), if_neg (by omega), if_neg (by omega), if_pos hk1x]
           refine AW.reg tiOk (fun i => if i = 7 then [0, 1] else []) [0,4,5] ?_
           intro k hk; simp -dsimp (maxSteps := 2000000) [go_sem, -decide_eq_true_eq, -decide_eq_false_iff_not]
           repeat' first | apply And.intro | refine hk _ ?_ | intro hg | ((first | refine CallK.intro (dc_impl_kids p (a : Int) hp) ?_ | refine CallK.intro ((dc_impl_graphMaker_sequence p hP f hS ns fs a ha hf hk1 (by omega) (by omega))) ?_); simp -dsimp (maxSteps := 2000000) [go_sem, -decide_eq_true_eq, -decide_eq_false_iff_not]) | omega | exact True.intro
           all_goals clear hk k
           refine rt ?_
           first | (rw [hg]; simp [go_sem, Try.results66, leafG]; done) | (rw [hg]; simp [go_sem, Try.results66, leafG, hoc]; done) | (have hg : (gstep p (f + 1) a ns.length) = leafG (⟨5, a, [], x.arg, []⟩ : TGNode) ns.length := (by unfold gstep; rw [hxn, if_neg (by omega), if_neg (by omega), if_pos (by assumption)]); rw [hg]; simp [go_sem, Try.results66, leafG]; done) | (have hg : (gstep p (f + 1) a ns.length) = leafG (⟨4, a, [], x.arg, []⟩ : TGNode) ns.length := (by unfold gstep; rw [hxn, if_neg (by omega), if_pos (by first | assumption | omega)]); rw [hg]; simp [go_sem, Try.results66, leafG]; done))
         ·intro hc; try simp at hc
          all_goals try (exfalso; first | omega | contradiction; done)
          all_goals (
           refine rgA [0,1,19,70] ?_
           refine AW.cond rfl ?_ ?_
           ·intro hc; try simp at hc
            all_goals try (exfalso; first | omega | contradiction; done)
            all_goals (
             have hk8x : x.kind = 8 := by first | assumption | simpa using hc
             have hk8 : (kids p (a : Int)).length = 2 := by rw [hk8x] at hmn; exact kid_two hmn
             have hg : (gstep p (f + 1) a ns.length) = (guardG (gstep p f) ⟨11, a, [], (nS p a).arg, []⟩ ⟨12, a, [], 0, []⟩ ⟨13, a, [], 0, []⟩ (gI (kids p (a : Int)) 0) (gI (kids p (a : Int)) 1) ns.length) := by unfold gstep; rw [hxn, if_neg (by omega), if_neg (by omega), if_neg (by omega), if_neg (by omega), if_neg (by omega), if_pos hk8x]
             refine AW.reg tiOk (fun _ => [0]) [0,4,5] ?_
             intro k hk; simp -dsimp (maxSteps := 2000000) [go_sem, -decide_eq_true_eq, -decide_eq_false_iff_not]
             repeat' first | apply And.intro | refine hk _ ?_ | intro hg | (refine CallK.intro ((dc_impl_graphMaker_guard p hP f hS ns fs a ha hf hk8 (by omega) (by omega))) ?_; simp -dsimp (maxSteps := 2000000) [go_sem, -decide_eq_true_eq, -decide_eq_false_iff_not]) | omega | exact True.intro
             all_goals clear hk k
             refine rt ?_
             first | (rw [hg]; simp [go_sem, Try.results66, leafG]; done) | (rw [hg]; simp [go_sem, Try.results66, leafG, hoc]; done) | (have hg : (gstep p (f + 1) a ns.length) = leafG (⟨5, a, [], x.arg, []⟩ : TGNode) ns.length := (by unfold gstep; rw [hxn, if_neg (by omega), if_neg (by omega), if_pos (by assumption)]); rw [hg]; simp [go_sem, Try.results66, leafG]; done) | (have hg : (gstep p (f + 1) a ns.length) = leafG (⟨4, a, [], x.arg, []⟩ : TGNode) ns.length := (by unfold gstep; rw [hxn, if_neg (by omega), if_pos (by first | assumption | omega)]); rw [hg]; simp [go_sem, Try.results66, leafG]; done))
           ·intro hc; try simp at hc
            all_goals try (exfalso; first | omega | contradiction; done)
            all_goals (
             refine rgA [0,1,77] ?_
             refine AW.cond rfl ?_ ?_
             ·intro hc; try simp at hc
              all_goals try (exfalso; first | omega | contradiction; done)
              all_goals (
               have hk3 : x.kind = 3 := by first | assumption | simpa using hc
               have hg : (gstep p (f + 1) a ns.length) = sidesG (gstep p f) (cdS p) (⟨7, a, [], 0, []⟩ : TGNode) ⟨8, a, [], 0, []⟩ (kids p (a : Int)) ns.length := by unfold gstep; rw [hxn, if_neg (by omega), if_neg (by omega), if_neg (by omega), if_neg (by omega), if_neg (by omega), if_neg (by omega), if_pos hk3]
               refine AW.reg tiOk (fun _ => [0]) [0,4,5] ?_
               intro k hk; simp -dsimp (maxSteps := 2000000) [go_sem, -decide_eq_true_eq, -decide_eq_false_iff_not]
               repeat' first | apply And.intro | refine hk _ ?_ | intro hg | (refine CallK.intro ((dc_impl_graphMaker_sides p hP f hS ns fs a ha hf 7 8 (by omega) (by omega))) ?_; simp -dsimp (maxSteps := 2000000) [go_sem, -decide_eq_true_eq, -decide_eq_false_iff_not]) | omega | exact True.intro
               all_goals clear hk k
               refine rt ?_
               first | (rw [hg]; simp [go_sem, Try.results66, leafG]; done) | (rw [hg]; simp [go_sem, Try.results66, leafG, hoc]; done) | (have hg : (gstep p (f + 1) a ns.length) = leafG (⟨5, a, [], x.arg, []⟩ : TGNode) ns.length := (by unfold gstep; rw [hxn, if_neg (by omega), if_neg (by omega), if_pos (by assumption)]); rw [hg]; simp [go_sem, Try.results66, leafG]; done) | (have hg : (gstep p (f + 1) a ns.length) = leafG (⟨4, a, [], x.arg, []⟩ : TGNode) ns.length := (by unfold gstep; rw [hxn, if_neg (by omega), if_pos (by first | assumption | omega)]); rw [hg]; simp [go_sem, Try.results66, leafG]; done))
             ·intro hc; try simp at hc
              all_goals try (exfalso; first | omega | contradiction; done)
              all_goals (
               refine AW.skipN (fun _ h => h) ?_
               have hg : (gstep p (f + 1) a ns.length) = sidesG (gstep p f) (cdS p) (⟨9, a, [], 0, []⟩ : TGNode) ⟨10, a, [], 0, []⟩ (kids p (a : Int)) ns.length := by unfold gstep; rw [hxn, if_neg (by assumption), if_neg (by assumption), if_neg (by assumption), if_neg (by assumption), if_neg (by assumption), if_neg (by assumption), if_neg (by assumption)]
               refine AW.reg tiOk (fun _ => [0]) [0,4,5] ?_
               intro k hk; simp -dsimp (maxSteps := 2000000) [go_sem, -decide_eq_true_eq, -decide_eq_false_iff_not]
               repeat' first | apply And.intro | refine hk _ ?_ | intro hg | (refine CallK.intro ((dc_impl_graphMaker_sides p hP f hS ns fs a ha hf 9 10 (by omega) (by omega))) ?_; simp -dsimp (maxSteps := 2000000) [go_sem, -decide_eq_true_eq, -decide_eq_false_iff_not]) | omega | exact True.intro
               all_goals clear hk k
               refine rt ?_
               first | (rw [hg]; simp [go_sem, Try.results66, leafG]; done) | (rw [hg]; simp [go_sem, Try.results66, leafG, hoc]; done) | (have hg : (gstep p (f + 1) a ns.length) = leafG (⟨5, a, [], x.arg, []⟩ : TGNode) ns.length := (by unfold gstep; rw [hxn, if_neg (by omega), if_neg (by omega), if_pos (by assumption)]); rw [hg]; simp [go_sem, Try.results66, leafG]; done) | (have hg : (gstep p (f + 1) a ns.length) = leafG (⟨4, a, [], x.arg, []⟩ : TGNode) ns.length := (by unfold gstep; rw [hxn, if_neg (by omega), if_pos (by first | assumption | omega)]); rw [hg]; simp [go_sem, Try.results66, leafG]; done))))))))

theorem dc_gstep_impl (p : List TStep) (hP : ProcOk p) : ∀ f : Nat, ∀ (k : Int) (ns : List TGNode) (fs : List TFlow), 0 ≤ k → k.toNat < p.length → p.length ≤ k.toNat + f → ns.length + 3 * cK p f k ≤ 400 → fs.length + 5 * cK p f k ≤ 400 → DC Try.prog 66 [.op (mrow p ns fs), .int .i64 k] (.tup [.int .i64 (gstep p f k.toNat ns.length).en, .int .i64 (gstep p f k.toNat ns.length).lv]) [(0, .op (mrow p (ns ++ (gstep p f k.toNat ns.length).ns) (fs ++ (gstep p f k.toNat ns.length).fs)))] := by
 intro f
 induction f with
 | zero => intro k ns fs h0 h1 h2; omega
 | succ f ih =>
  intro k ns fs h0 h1 h2 h3 h4
  obtain ⟨a, rfl⟩ : ∃ a : Nat, k = a := ⟨_, (Int.toNat_of_nonneg h0).symm⟩
  rw [Int.toNat_natCast] at h1 h2 ⊢
  exact dc_impl_graphMaker_step p hP f ih ns fs a h1 (by omega) h3 h4

end Go.AM
namespace Go.AM
open Go.Proofs

/-- cmp.isNaN[int64] -/
theorem dc_cmp_isNaN_int64 (n : Int) : DC Try.prog 104 [.int .i64 n] (.bool false) [] := by
 refine DC.intro tiOk Try.func104 rfl rfl rfl rfl rfl rfl rfl rfl [] ?_
 refine rgA [0] ?_
 refine rgA [2] ?_
 refine rt ?_
 simp [go_sem, Try.results104]

/-- cmp.Compare[int64] -/
theorem dc_cmp_Compare_int64 (a b : Int) : DC Try.prog 70 [.int .i64 a, .int .i64 b] (.int .i64 (cmpI a b)) [] := by
 refine DC.intro tiOk Try.func70 rfl rfl rfl rfl rfl rfl rfl rfl [] ?_
 refine rgA [0,1] ?_
 refine rg [0,1,5] ?_
 intro k hk; simp -dsimp (maxSteps := 2000000) [go_sem, -decide_eq_true_eq, -decide_eq_false_iff_not]
 repeat' first | apply And.intro | refine hk _ ?_ | intro hg | (refine CallK.intro (dc_cmp_isNaN_int64 _) ?_; simp -dsimp (maxSteps := 2000000) [go_sem, -decide_eq_true_eq, -decide_eq_false_iff_not]) | omega | exact True.intro
 all_goals clear hk k
 refine rg [0,1,5,6] ?_
 intro k hk; simp -dsimp (maxSteps := 2000000) [go_sem, -decide_eq_true_eq, -decide_eq_false_iff_not]
 repeat' first | apply And.intro | refine hk _ ?_ | intro hg | (refine CallK.intro (dc_cmp_isNaN_int64 _) ?_; simp -dsimp (maxSteps := 2000000) [go_sem, -decide_eq_true_eq, -decide_eq_false_iff_not]) | omega | exact True.intro
 all_goals clear hk k
 refine AW.seq ?_
 refine rgA [0,1,6,11] ?_
 refine AW.cond rfl ?_ ?_
 ·intro hc; try simp at hc
  all_goals try (exfalso; first | omega | (simp at hc; done); done)
  all_goals (
   refine AW.seq ?_
   refine rgA [12] ?_
   refine AW.cond rfl ?_ ?_
   ·intro hc; try simp at hc
    all_goals try (exfalso; first | omega | (simp at hc; done); done)
    all_goals (
     refine rgA [4] ?_
     refine rt ?_
     simp [go_sem, Try.results70, cmpI] <;> grind)
   ·intro hc; try simp at hc
    all_goals try (exfalso; first | omega | (simp at hc; done); done)
    all_goals (
     refine AW.skipN (fun _ h => h) ?_
     refine rgA [4] ?_
     refine rt ?_
     simp [go_sem, Try.results70, cmpI] <;> grind))
 ·intro hc; try simp at hc
  all_goals try (exfalso; first | omega | (simp at hc; done); done)
  all_goals (
   refine AW.skipN (fun _ h => h) ?_
   refine AW.seq ?_
   refine rgA [0,1,13] ?_
   refine AW.cond rfl ?_ ?_
   ·intro hc; try simp at hc
    all_goals try (exfalso; first | omega | (simp at hc; done); done)
    all_goals (
     refine rgA [4] ?_
     refine rt ?_
     simp [go_sem, Try.results70, cmpI] <;> grind)
   ·intro hc; try simp at hc
    all_goals try (exfalso; first | omega | (simp at hc; done); done)
    all_goals (
     refine AW.skipN (fun _ h => h) ?_
     refine AW.seq ?_
     refine rgA [0,1,16] ?_
     refine AW.cond rfl ?_ ?_
     ·intro hc; try simp at hc
      all_goals try (exfalso; first | omega | (simp at hc; done); done)
      all_goals (
       refine rgA [4] ?_
       refine rt ?_
       simp [go_sem, Try.results70, cmpI] <;> grind)
     ·intro hc; try simp at hc
      all_goals try (exfalso; first | omega | (simp at hc; done); done)
      all_goals (
       refine AW.skipN (fun _ h => h) ?_
       refine AW.seq ?_
       refine rgA [19] ?_
       refine AW.cond rfl ?_ ?_
       ·intro hc; try simp at hc
        all_goals try (exfalso; first | omega | (simp at hc; done); done)
        all_goals (
         refine rgA [4] ?_
         refine rt ?_
         simp [go_sem, Try.results70, cmpI] <;> grind)
       ·intro hc; try simp at hc
        all_goals try (exfalso; first | omega | (simp at hc; done); done)
        all_goals (
         refine AW.skipN (fun _ h => h) ?_
         refine rgA [4] ?_
         refine rt ?_
         simp [go_sem, Try.results70, cmpI] <;> grind))))

/-- impl.graphOf$1 -/
theorem dc_impl_graphOf_1 (x y : VF) : DC Try.prog 69 [.agg x.row, .agg y.row] (.int .i64 (cmpI x.src y.src)) [] := by
 refine DC.intro tiOk Try.func69 rfl rfl rfl rfl rfl rfl rfl rfl [] ?_
 refine rgA [2,3] ?_
 refine rg [4] ?_
 intro k hk; simp -dsimp (maxSteps := 2000000) [go_sem, -decide_eq_true_eq, -decide_eq_false_iff_not]
 repeat' first | apply And.intro | refine hk _ ?_ | intro hg | (refine CallK.intro (dc_cmp_Compare_int64 _ _) ?_; simp -dsimp (maxSteps := 2000000) [go_sem, -decide_eq_true_eq, -decide_eq_false_iff_not]) | omega | exact True.intro
 all_goals clear hk k
 refine rt ?_
 simp [go_sem, Try.results69]

/-- slices.swapRangeCmpFunc[impl.Flow] -/
theorem dc_swapRange (L M P X Y Z Q : List VF) (a b n : Nat) (hL : L = P ++ X ++ Y ++ Z ++ Q) (hM : M = P ++ Z ++ Y ++ X ++ Q) (hz : Z.length = X.length) (ha : a = P.length) (hb : b = P.length + X.length + Y.length) (hx0 : n = X.length) (hn : L.length ≤ 1048576) : DC Try.prog 121 [.osl 3 (L.map VF.row), .int .i64 (a : Nat), .int .i64 (b : Nat), .int .i64 (n : Nat), .fn 69 []] (.tup []) [(0, .osl 3 (M.map VF.row))] := by
 have hll : L.length = P.length + X.length + Y.length + X.length + Q.length := by rw [hL]; simp; omega
 refine DC.intro tiOk Try.func121 rfl rfl rfl rfl rfl rfl rfl (by simp [noW, noWo]) [] ?_
 refine rgA [0,1,2,3,10] ?_
 refine AW.block ?_
 refine AW.loopI (fun i : Nat => ⟨38, [(0, .sl 1900 3 0 L.length), (1, .int .i64 (a : Nat)), (2, .int .i64 (b : Nat)), (3, .int .i64 (n : Nat)), (10, .int .i64 (i : Nat))], [(1900, some ⟨3, (swR P X Y Z Q i).map VF.row⟩)]⟩) (fun i => i ≤ n) (fun i => n - i) (0) (Nat.zero_le _) (Less.of rfl (by simp [go_sem]) (by rw [swR_zero, ← hL]; simp [go_sem])) ?_
 rintro i hi
 refine AW.seq ?_
 refine rgA [0,1,2,3,10,13] ?_
 refine AW.cond rfl ?_ ?_
 ·intro hc; try simp at hc
  all_goals (
   have hlt : i < n := by first | assumption | omega
   obtain ⟨x, hx⟩ := at_some (l := X) (i := i) (by omega)
   obtain ⟨z, hzz⟩ := at_some (l := Z) (i := i) (by omega)
   obtain ⟨s, hs⟩ : ∃ s : Nat, s = a + i := ⟨_, rfl⟩
   obtain ⟨t, ht⟩ : ∃ t : Nat, t = b + i := ⟨_, rfl⟩
   obtain ⟨g1, g2, g3⟩ := swR_step (P := P) (Y := Y) (Q := Q) hx hzz (s := s) (t := t) (by omega) (by omega)
   have g3 := sw_rows g3
   have g4 := gel g1
   have g5 := gel g2
   have hsl := swR_len P X Y Z Q i hz (by omega)
   have hw1 : IntKind.wrap .i64 ((a : Int) + (i : Int)) = ((s : Nat) : Int) := by rw [wrap64 (by omega) (by omega)]; omega
   have hw2 : IntKind.wrap .i64 ((b : Int) + (i : Int)) = ((t : Nat) : Int) := by rw [wrap64 (by omega) (by omega)]; omega
   have hs2 : s < (swR P X Y Z Q i).length := at_lt g1
   have ht2 : t < (swR P X Y Z Q i).length := at_lt g2
   have hs3 : s < L.length := by omega
   have ht3 : t < L.length := by omega
   have hne : s ≠ t := by omega
   refine AW.skipN (fun _ h => h) ?_
   refine AW.seq ?_
   refine AW.block ?_
   refine rgN [0,1,2,3,10] (fun _ h => h) ?_
   intro k hk; simp -dsimp (maxSteps := 2000000) [go_sem, -decide_eq_true_eq, -decide_eq_false_iff_not, hw1, hw2, g1, g2, g4, g5, hs2, ht2, hs3, ht3, hne]
   repeat' first | ((refine Chk.keys ?_); simp only [go_sem, List.map_cons, List.map_nil, List.flatMap_cons, List.flatMap_nil, List.flatMap_append, List.append_nil, List.nil_append, List.cons_append]; decide +kernel) | apply And.intro | refine hk _ ?_ | intro hg | omega | exact True.intro
   all_goals clear hk k
   refine rgK ?_
   intro k hk; simp -dsimp [go_sem, -decide_eq_true_eq, -decide_eq_false_iff_not, hw1, hw2, g1, g2, g4, g5, hs2, ht2, hs3, ht3, hne]
   repeat' first | apply And.intro | refine hk _ ?_ | intro hg | omega | exact True.intro
   all_goals clear hk k
   show ∃ _, _
   have hww := wrapi hlt (by omega)
   refine ⟨i + 1, by omega, by omega, Less.of rfl (by simp [go_sem, hww]) (by simp only [g3]; simp [go_sem, g3])⟩)
 ·intro hc; try simp at hc
  all_goals (
   refine AW.exit ?_
   refine And.intro (.inl rfl) ?_
   obtain rfl : i = n := (by first | omega | (simp at hc; omega))
   subst hx0
   have hMl : M.length = L.length := by rw [hM, hL]; simp; omega
   rw [swR_end P X Y Z Q hz, ← hM]
   simp [go_sem, Try.results121, hMl])

end Go.AM
namespace Go.AM
theorem ord_take {l : List VF} (h : Ord VF.src l) {n : Nat} {z : VF} (hz : l[n]? = some z) : ∀ y ∈ l.take (n + 1), y.src ≤ z.src := by
  have e : l.take (n + 1) = l.take n ++ [z] := by rw [List.take_add_one, hz]; rfl
  have h2 : Ord VF.src (l.take n ++ [z]) := by
    rw [← e]; exact h.sublist (List.take_sublist _ _)
  rw [e]; exact ord_last h2
theorem ord_drop {l : List VF} (h : Ord VF.src l) {n : Nat} {z : VF} (hz : l[n]? = some z) : ∀ y ∈ l.drop n, z.src ≤ y.src := by
  obtain ⟨h1, e1⟩ := List.getElem?_eq_some_iff.1 hz
  have e : l.drop n = z :: l.drop (n + 1) := by rw [List.drop_eq_getElem_cons h1, e1]
  have h2 : Ord VF.src (z :: l.drop (n + 1)) := by rw [← e]; exact h.sublist (List.drop_sublist _ _)
  rw [e]
  intro y hy
  rcases List.mem_cons.1 hy with rfl | hy
  · exact Int.le_refl _
  · exact (List.pairwise_cons.1 h2).1 y hy
theorem at_two {P A B Q : List VF} {n : Nat} {z : VF} (h : B[n]? = some z) {s : Nat} (hs : s = P.length + A.length + n) : (P ++ A ++ B ++ Q)[s]? = some z := by
  have := at_lt h
  rw [List.append_assoc (P ++ A), List.getElem?_append_right (by simp; omega), List.getElem?_append_left (by simp; omega), ← h]
  congr 1; simp; omega
theorem at_one {P A B Q : List VF} {n : Nat} {z : VF} (h : A[n]? = some z) {s : Nat} (hs : s = P.length + n) : (P ++ A ++ B ++ Q)[s]? = some z := by
  have := at_lt h
  rw [List.append_assoc, List.append_assoc P, List.getElem?_append_right (by omega), List.getElem?_append_left (by omega), ← h]
  congr 1; omega
/-- one element on its way to the right, and to the left -/
def mvR (P B Q : List VF) (x : VF) (n : Nat) : List VF := P ++ B.take n ++ x :: (B.drop n ++ Q)
theorem mv_len (P B Q : List VF) (x : VF) (n : Nat) : (mvR P B Q x n).length = P.length + B.length + 1 + Q.length := by
  unfold mvR; simp; omega
theorem mv_step {P B Q : List VF} {x y : VF} {n : Nat} (hy : B[n]? = some y) {s t : Nat} (hs : s = P.length + n) (ht : t = s + 1) :
    (mvR P B Q x n)[s]? = some x ∧ (mvR P B Q x n)[t]? = some y ∧ ((mvR P B Q x n).set s y).set t x = mvR P B Q x (n + 1) := by
  obtain ⟨h1, e1⟩ := List.getElem?_eq_some_iff.1 hy
  have e : mvR P B Q x n = (P ++ B.take n) ++ x :: y :: (B.drop (n + 1) ++ Q) := by unfold mvR; rw [List.drop_eq_getElem_cons h1, e1]; simp
  have e2 : mvR P B Q x (n + 1) = (P ++ B.take n) ++ y :: x :: (B.drop (n + 1) ++ Q) := by
    unfold mvR
    have : B.take (n + 1) = B.take n ++ [y] := by rw [List.take_add_one, hy]; rfl
    rw [this]; simp
  obtain ⟨g1, g2, _, g4⟩ := adj_step e (s := s) (t := t) (by rw [List.length_append, List.length_take]; omega) (by rw [List.length_append, List.length_take]; omega)
  exact ⟨g1, g2, by rw [g4, e2]⟩
theorem mv_back {P B Q : List VF} {x y : VF} {n : Nat} (hy : B[n]? = some y) {s t : Nat} (hs : s = P.length + n) (ht : t = s + 1) :
    (mvR P B Q x (n + 1))[s]? = some y ∧ (mvR P B Q x (n + 1))[t]? = some x ∧ ((mvR P B Q x (n + 1)).set t y).set s x = mvR P B Q x n := by
  obtain ⟨h1, e1⟩ := List.getElem?_eq_some_iff.1 hy
  have e : mvR P B Q x n = (P ++ B.take n) ++ x :: y :: (B.drop (n + 1) ++ Q) := by unfold mvR; rw [List.drop_eq_getElem_cons h1, e1]; simp
  have e2 : mvR P B Q x (n + 1) = (P ++ B.take n) ++ y :: x :: (B.drop (n + 1) ++ Q) := by
    unfold mvR
    have : B.take (n + 1) = B.take n ++ [y] := by rw [List.take_add_one, hy]; rfl
    rw [this]; simp
  obtain ⟨g1, g2, g3, _⟩ := adj_step e2 (s := s) (t := t) (by rw [List.length_append, List.length_take]; omega) (by rw [List.length_append, List.length_take]; omega)
  exact ⟨g1, g2, by rw [g3, e]⟩
theorem mv_srt {P B Q : List VF} {x : VF} {n : Nat} (hB : Ord VF.src B) (h1 : ∀ y ∈ B.take n, y.src < x.src) (h2 : ∀ y ∈ B.drop n, x.src ≤ y.src) : mvR P B Q x n = P ++ srt VF.src ([x] ++ B) ++ Q := by
  have := srt_head (key := VF.src) (B1 := B.take n) (B2 := B.drop n) (x := x) (by rw [List.take_append_drop]; exact hB) h1 h2
  rw [List.take_append_drop] at this
  rw [this]; unfold mvR; simp
theorem mv_srt2 {P A Q : List VF} {y : VF} {n : Nat} (hA : Ord VF.src A) (h1 : ∀ x ∈ A.take n, x.src ≤ y.src) (h2 : ∀ x ∈ A.drop n, y.src < x.src) : mvR P A Q y n = P ++ srt VF.src (A ++ [y]) ++ Q := by
  have := srt_tail (key := VF.src) (A1 := A.take n) (A2 := A.drop n) (y := y) (by rw [List.take_append_drop]; exact hA) h1 h2
  rw [List.take_append_drop] at this
  rw [this]; unfold mvR; simp
/-- where two ordered blocks are cut -/
theorem sym_end {A B : List VF} (hA : Ord VF.src A) (hB : Ord VF.src B) {s h : Nat} (h1 : s ≤ A.length) (h2 : s ≤ h) (h3 : h - s ≤ B.length)
    (c1 : s = 0 ∨ h - s = B.length ∨ ∃ u v, A[s - 1]? = some u ∧ B[h - s]? = some v ∧ u.src ≤ v.src)
    (c2 : s = A.length ∨ s = h ∨ ∃ u v, A[s]? = some u ∧ B[h - 1 - s]? = some v ∧ v.src < u.src) :
    ∃ A1 A2 B1 B2, A = A1 ++ A2 ∧ B = B1 ++ B2 ∧ A1.length = s ∧ B1.length = h - s ∧ (∀ x ∈ A1, ∀ y ∈ B2, x.src ≤ y.src) ∧ (∀ x ∈ A2, ∀ y ∈ B1, y.src < x.src) := by
  refine ⟨A.take s, A.drop s, B.take (h - s), B.drop (h - s), (List.take_append_drop _ _).symm, (List.take_append_drop _ _).symm, by simp; omega, by simp; omega, ?_, ?_⟩
  · intro x hx y hy
    rcases c1 with c | c | ⟨u, v, hu, hv, huv⟩
    · subst c; simp at hx
    · rw [List.drop_of_length_le (by omega)] at hy; cases hy
    · have hs0 : 0 < s := by
        rcases Nat.eq_zero_or_pos s with e | e
        · subst e; simp at hx
        · exact e
      have g1 := ord_take hA hu x (by rw [Nat.sub_add_cancel hs0]; exact hx)
      have g2 := ord_drop hB hv y hy
      omega
  · intro x hx y hy
    rcases c2 with c | c | ⟨u, v, hu, hv, huv⟩
    · rw [List.drop_of_length_le (by omega)] at hx; cases hx
    · subst c; simp at hy
    · have hs0 : 0 < h - s := by
        rcases Nat.eq_zero_or_pos (h - s) with e | e
        · rw [e] at hy; simp at hy
        · exact e
      have e2 : h - 1 - s + 1 = h - s := by rw [Nat.sub_right_comm, Nat.sub_add_cancel hs0]
      have g1 := ord_take hB hv y (by rw [e2]; exact hy)
      have g2 := ord_drop hA hu x hx
      omega
def leQ (A B : List VF) (i j : Nat) : Prop := ∃ u v, A[i]? = some u ∧ B[j]? = some v ∧ u.src ≤ v.src
def ltQ (A B : List VF) (i j : Nat) : Prop := ∃ u v, A[i]? = some u ∧ B[j]? = some v ∧ v.src < u.src
theorem leQ_mk {A B : List VF} {i j i' j' : Nat} {u v : VF} (h1 : A[i]? = some u) (h2 : B[j]? = some v) (h3 : u.src ≤ v.src) (e1 : i' = i) (e2 : j' = j) : leQ A B i' j' := ⟨u, v, by rw [e1]; exact h1, by rw [e2]; exact h2, h3⟩
theorem ltQ_mk {A B : List VF} {i j : Nat} {u v : VF} (h1 : A[i]? = some u) (h2 : B[j]? = some v) (h3 : v.src < u.src) : ltQ A B i j := ⟨u, v, h1, h2, h3⟩
theorem sym_end2 {A B : List VF} (hA : Ord VF.src A) (hB : Ord VF.src B) {a d st lo0 hi0 n2 m b : Nat} (h0 : a ≤ st) (h1 : st ≤ m) (h2 : st ≤ d) (h3 : n2 ≤ st + b) (hm : m = a + A.length) (hb : b = m + B.length) (hn : n2 = d + m)
    (k6 : lo0 = a ∨ lo0 + b = n2) (k7 : hi0 = m ∨ hi0 = d) (q4 : st = lo0 ∨ leQ A B (st - a - 1) (d - st)) (q5 : st = hi0 ∨ ltQ A B (st - a) (d - 1 - st)) :
    ∃ A1 A2 B1 B2, A = A1 ++ A2 ∧ B = B1 ++ B2 ∧ A1.length = st - a ∧ B1.length = d - st ∧ (∀ x ∈ A1, ∀ y ∈ B2, x.src ≤ y.src) ∧ (∀ x ∈ A2, ∀ y ∈ B1, y.src < x.src) := by
  have e1 : d - a - (st - a) = d - st := by omega
  have e2 : d - a - 1 - (st - a) = d - 1 - st := by omega
  have h := sym_end hA hB (s := st - a) (h := d - a) (by omega) (by omega) (by omega) (by
    rcases q4 with q | q
    · rcases k6 with e | e
      · exact Or.inl (by omega)
      · exact Or.inr (Or.inl (by omega))
    · exact Or.inr (Or.inr (by rw [e1]; exact q))) (by
    rcases q5 with q | q
    · rcases k7 with e | e
      · exact Or.inl (by omega)
      · exact Or.inr (Or.inl (by omega))
    · exact Or.inr (Or.inr (by rw [e2]; exact q)))
  rw [e1] at h
  exact h
theorem sym_c1 {L D P Q A1 A2 B1 B2 : List VF} {s1 m en : Nat} (hL : L = P ++ (A1 ++ A2) ++ (B1 ++ B2) ++ Q) (hD : D = P ++ A1 ++ B1 ++ (A2 ++ B2 ++ Q)) (h1 : A2.length = m - s1) (h2 : B1.length = en - m) :
    (s1 < m ∧ m < en ∧ A2 ≠ [] ∧ B1 ≠ [] ∧ True) ∨ (¬ s1 < m ∧ True ∧ True ∧ True ∧ L.map VF.row = D.map VF.row) ∨ (s1 < m ∧ ¬ m < en ∧ True ∧ True ∧ L.map VF.row = D.map VF.row) := by
  by_cases h8 : s1 < m
  · by_cases h7 : m < en
    · exact Or.inl ⟨h8, h7, List.ne_nil_of_length_pos (by omega), List.ne_nil_of_length_pos (by omega), True.intro⟩
    · refine Or.inr (Or.inr ⟨h8, h7, True.intro, True.intro, ?_⟩)
      obtain rfl := List.eq_nil_of_length_eq_zero (show B1.length = 0 by omega)
      rw [hL, hD]; simp
  · refine Or.inr (Or.inl ⟨h8, True.intro, True.intro, True.intro, ?_⟩)
    obtain rfl := List.eq_nil_of_length_eq_zero (show A2.length = 0 by omega)
    rw [hL, hD]; simp
theorem sym_c2 {D E P R A1 B1 : List VF} {a s1 d : Nat} (hD : D = P ++ A1 ++ B1 ++ R) (hE : E = P ++ srt VF.src (A1 ++ B1) ++ R) (oA : Ord VF.src A1) (oB : Ord VF.src B1) (h1 : A1.length = s1 - a) (h2 : B1.length = d - s1) :
    (a < s1 ∧ s1 < d ∧ A1 ≠ [] ∧ B1 ≠ [] ∧ True) ∨ (¬ a < s1 ∧ True ∧ True ∧ True ∧ D.map VF.row = E.map VF.row) ∨ (a < s1 ∧ ¬ s1 < d ∧ True ∧ True ∧ D.map VF.row = E.map VF.row) := by
  by_cases h8 : a < s1
  · by_cases h7 : s1 < d
    · exact Or.inl ⟨h8, h7, List.ne_nil_of_length_pos (by omega), List.ne_nil_of_length_pos (by omega), True.intro⟩
    · refine Or.inr (Or.inr ⟨h8, h7, True.intro, True.intro, ?_⟩)
      obtain rfl := List.eq_nil_of_length_eq_zero (show B1.length = 0 by omega)
      rw [hD, hE, List.append_nil, List.append_nil, srt_self oA]
  · refine Or.inr (Or.inl ⟨h8, True.intro, True.intro, True.intro, ?_⟩)
    obtain rfl := List.eq_nil_of_length_eq_zero (show A1.length = 0 by omega)
    rw [hD, hE, List.nil_append, List.append_nil, srt_self oB]
end Go.AM
namespace Go.AM
open Go.Proofs

set_option maxHeartbeats 4000000 in
/-- slices.symMergeCmpFunc[impl.Flow] -/
theorem dc_symMerge_a (L M P A B Q : List VF) (a m b : Nat) (hL : L = P ++ A ++ B ++ Q) (hM : M = P ++ srt VF.src (A ++ B) ++ Q) (hA : Ord VF.src A) (hB : Ord VF.src B) (hA0 : A ≠ []) (hB0 : B ≠ []) (ha : a = P.length) (hm : m = a + A.length) (hb : b = m + B.length) (hn : L.length ≤ 1048576) (hAx : A.length = 1) : DC Try.prog 118 [.osl 3 (L.map VF.row), .int .i64 (a : Nat), .int .i64 (m : Nat), .int .i64 (b : Nat), .fn 69 []] (.tup []) [(0, .osl 3 (M.map VF.row))] := by
 have hA1 := List.length_pos_iff.2 hA0
 have hB1 := List.length_pos_iff.2 hB0
 have hll : L.length = P.length + A.length + B.length + Q.length := by rw [hL]; simp; omega
 have hMl : M.length = L.length := by rw [hM, hL]; simp [srt_len]; omega
 have hwA : IntKind.wrap .i64 ((m : Int) - (a : Int)) = ((A.length : Nat) : Int) := by rw [wrap64 (by omega) (by omega)]; omega
 have hwB : IntKind.wrap .i64 ((b : Int) - (m : Int)) = ((B.length : Nat) : Int) := by rw [wrap64 (by omega) (by omega)]; omega
 obtain ⟨x, rfl⟩ : ∃ x, A = [x] := List.length_eq_one_iff.1 hAx
 refine DC.intro tiOk Try.func118 rfl rfl rfl rfl rfl rfl rfl (by simp [noW, noWo]) [] ?_
 refine AW.seq ?_
 refine rg [0,1,2,3,4,28] ?_
 intro k hk; simp -dsimp [go_sem, -decide_eq_true_eq, -decide_eq_false_iff_not, hwA, hAx]
 repeat' first | apply And.intro | refine hk _ ?_ | intro hg | omega | exact True.intro
 all_goals clear hk k
 refine AW.cond rfl ?_ ?_
 ·intro hc; try simp at hc
  all_goals try (exfalso; omega; done)
  all_goals (
   refine rgA [0,1,3,4,10] ?_
   refine rgA [0,1,4,10,11] ?_
   refine AW.seq ?_
   refine AW.block ?_
   refine AW.loopI (fun q : Nat × Nat => ⟨220, [(0, .sl 1900 3 0 L.length), (1, .int .i64 (a : Nat)), (4, .fn 69 []), (10, .int .i64 (q.1 : Nat)), (11, .int .i64 (q.2 : Nat))], [(1900, some ⟨3, L.map VF.row⟩)]⟩) (fun q => m ≤ q.1 ∧ q.1 ≤ q.2 ∧ q.2 ≤ b ∧ (∀ y ∈ B.take (q.1 - m), y.src < x.src) ∧ (∀ y ∈ B.drop (q.2 - m), x.src ≤ y.src)) (fun q => q.2 - q.1) ((m, b)) (⟨Nat.le_refl _, by simp only; omega, Nat.le_refl _, by simp, by simp only; rw [List.drop_of_length_le (by omega)]; simp⟩) (Less.of rfl (by simp [go_sem]) (by simp [go_sem])) ?_
   rintro ⟨lo, hi⟩ ⟨q1, q2, q3, q4, q5⟩
   simp only at q1 q2 q3 q4 q5
   refine AW.seq ?_
   refine rgA [0,1,4,10,11,33] ?_
   refine AW.cond rfl ?_ ?_
   ·intro hc; try simp at hc
    all_goals try (exfalso; omega; done)
    all_goals (
     have hlt : lo < hi := by first | assumption | omega
     obtain ⟨c, hc⟩ : ∃ c : Nat, c = (lo + hi) / 2 := ⟨_, rfl⟩
     have hw1 : IntKind.wrap .i64 ((lo : Int) + (hi : Int)) = (lo : Int) + (hi : Int) := wrap64 (by omega) (by omega)
     have hw2 : IntKind.wrap .u64 ((lo : Int) + (hi : Int)) = (lo : Int) + (hi : Int) := by simp [IntKind.wrap, IntKind.bits, IntKind.signed]; omega
     have hfd : ((lo : Int) + (hi : Int)).fdiv 2 = ((c : Nat) : Int) := by rw [Int.fdiv_eq_ediv_of_nonneg _ (by omega)]; omega
     have hw3 : IntKind.wrap .i64 ((c : Nat) : Int) = ((c : Nat) : Int) := wrap64 (by omega) (by omega)
     obtain ⟨z, hz⟩ := at_some (l := B) (i := c - m) (by omega)
     have g1 : L[c]? = some z := by rw [hL]; exact at_two hz (by simp; simp at hm; omega)
     have g2 : L[a]? = some x := by rw [hL]; exact at_one (n := 0) rfl (by omega)
     have g3 := gel g1
     have g4 := gel g2
     have g5 := at_lt g1
     have g6 := at_lt g2
     have g7 := True.intro
     have g8 := True.intro
     obtain ⟨c1, hc1⟩ : ∃ c1 : Nat, c1 = c + 1 := ⟨_, rfl⟩
     have hw4 : IntKind.wrap .i64 ((c : Int) + 1) = ((c1 : Nat) : Int) := by rw [wrap64 (by omega) (by omega)]; omega
     refine AW.skipN (fun _ h => h) ?_
     refine AW.block ?_
     refine rg [0,1,4,10,11,12] ?_
     intro k hk; simp -dsimp (maxSteps := 2000000) [go_sem, -decide_eq_true_eq, -decide_eq_false_iff_not, hw1, hw2, hfd, hw3]
     repeat' first | apply And.intro | refine hk _ ?_ | intro hg | omega | exact True.intro
     all_goals clear hk k
     refine rg [0,1,4,10,11,12,50] ?_
     intro k hk; simp -dsimp (maxSteps := 2000000) [go_sem, -decide_eq_true_eq, -decide_eq_false_iff_not, g1, g2, g3, g4, g5, g6, g7, g8, cmpI_neg]
     repeat' first | ((refine Chk.keys ?_); simp only [go_sem, List.map_cons, List.map_nil, List.flatMap_cons, List.flatMap_nil, List.flatMap_append, List.append_nil, List.nil_append, List.cons_append]; decide +kernel) | apply And.intro | refine hk _ ?_ | intro hg | (refine CallK.intro (dc_impl_graphOf_1 z x) ?_; simp -dsimp (maxSteps := 2000000) [go_sem, -decide_eq_true_eq, -decide_eq_false_iff_not, g1, g2, g3, g4, g5, g6, g7, g8, cmpI_neg]) | omega | exact True.intro
     all_goals clear hk k
     refine AW.cond rfl ?_ ?_
     ·intro hc; try simp at hc
      all_goals try (exfalso; omega; done)
      all_goals (
       refine rgK ?_
       intro k hk; simp -dsimp [go_sem, -decide_eq_true_eq, -decide_eq_false_iff_not, hw4]
       repeat' first | apply And.intro | refine hk _ ?_ | intro hg | omega | exact True.intro
       all_goals clear hk k
       show ∃ _, _
       first | (have hzx : z.src < x.src := (by first | assumption | (simp at hc; omega)); refine ⟨(c1, hi), ⟨by simp only; omega, by simp only; omega, q3, ?_, q5⟩, by simp only; omega, Less.of rfl (by simp [go_sem]) (by simp [go_sem])⟩; intro y hy; have h8 := ord_take hB hz y (by rw [show c - m + 1 = c1 - m from by omega]; exact hy); omega) | (have hzx : x.src ≤ z.src := (by first | assumption | omega | (simp at hc; omega)); refine ⟨(lo, c), ⟨q1, by simp only; omega, by simp only; omega, q4, ?_⟩, by simp only; omega, Less.of rfl (by simp [go_sem]) (by simp [go_sem])⟩; intro y hy; have h8 := ord_drop hB hz y hy; omega))
     ·intro hc; try simp at hc
      all_goals try (exfalso; omega; done)
      all_goals (
       refine rgKA ?_
       show ∃ _, _
       first | (have hzx : z.src < x.src := (by first | assumption | (simp at hc; omega)); refine ⟨(c1, hi), ⟨by simp only; omega, by simp only; omega, q3, ?_, q5⟩, by simp only; omega, Less.of rfl (by simp [go_sem]) (by simp [go_sem])⟩; intro y hy; have h8 := ord_take hB hz y (by rw [show c - m + 1 = c1 - m from by omega]; exact hy); omega) | (have hzx : x.src ≤ z.src := (by first | assumption | omega | (simp at hc; omega)); refine ⟨(lo, c), ⟨q1, by simp only; omega, by simp only; omega, q4, ?_⟩, by simp only; omega, Less.of rfl (by simp [go_sem]) (by simp [go_sem])⟩; intro y hy; have h8 := ord_drop hB hz y hy; omega)))
   ·intro hc; try simp at hc
    all_goals try (exfalso; omega; done)
    all_goals (
     refine AW.exitN (fun _ h => h) ?_
     refine AW.seq ?_
     obtain rfl : lo = hi := (by omega)
     refine rgA [0,10,13] ?_
     refine AW.block ?_
     refine AW.loopI (fun q : Nat × Nat => ⟨220, [(0, .sl 1900 3 0 L.length), (10, .int .i64 (lo : Nat)), (13, .int .i64 (q.2 : Nat))], [(1900, some ⟨3, (mvR P B Q x q.1).map VF.row⟩)]⟩) (fun q => q.1 ≤ lo - m ∧ q.2 = a + q.1) (fun q => lo - m - q.1) ((0, a)) (⟨Nat.zero_le _, rfl⟩) (Less.of rfl (by simp [go_sem]) (by simp [go_sem, mvR, hL])) ?_
     rintro ⟨n, s⟩ ⟨hni, hs⟩
     simp only at hni hs
     obtain ⟨lo1, hlo1⟩ : ∃ lo1 : Nat, lo1 = lo - 1 := ⟨_, rfl⟩
     have hw5 : IntKind.wrap .i64 ((lo : Int) - 1) = ((lo1 : Nat) : Int) := by rw [wrap64 (by omega) (by omega)]; omega
     obtain ⟨t, ht⟩ : ∃ t : Nat, t = s + 1 := ⟨_, rfl⟩
     have hml := mv_len P B Q x n
     refine AW.seq ?_
     refine rg [0,10,13,58] ?_
     intro k hk; simp -dsimp [go_sem, -decide_eq_true_eq, -decide_eq_false_iff_not, hw5]
     repeat' first | apply And.intro | refine hk _ ?_ | intro hg | omega | exact True.intro
     all_goals clear hk k
     refine AW.cond rfl ?_ ?_
     ·intro hc; try simp at hc
      all_goals try (exfalso; omega; done)
      all_goals (
       have hlt : n < lo - m := by first | omega | (simp at hc; omega)
       obtain ⟨y, hy⟩ := at_some (l := B) (i := n) (by omega)
       obtain ⟨g1, g2, gs⟩ := mv_step (P := P) (Q := Q) (x := x) hy (s := s) (t := t) (by omega) ht
       have g3 := gel g1
       have g4 := gel g2
       have g5 := at_lt g1
       have g6 := at_lt g2
       have g7 : s < L.length := by simp at hll; omega
       have g8 : t < L.length := by simp at hll; omega
       have g9 : s ≠ t := by omega
       have hw6 : IntKind.wrap .i64 ((s : Int) + 1) = ((t : Nat) : Int) := by rw [wrap64 (by omega) (by omega)]; omega
       refine AW.skipN (fun _ h => h) ?_
       refine AW.seq ?_
       refine AW.block ?_
       refine rgN [0,10,13] (fun _ h => h) ?_
       intro k hk; simp -dsimp (maxSteps := 2000000) [go_sem, -decide_eq_true_eq, -decide_eq_false_iff_not, hw6, g1, g2, g3, g4, g5, g6, g7, g8, g9]
       repeat' first | ((refine Chk.keys ?_); simp only [go_sem, List.map_cons, List.map_nil, List.flatMap_cons, List.flatMap_nil, List.flatMap_append, List.append_nil, List.nil_append, List.cons_append]; decide +kernel) | apply And.intro | refine hk _ ?_ | intro hg | omega | exact True.intro
       all_goals clear hk k
       refine rgK ?_
       intro k hk; simp -dsimp [go_sem, -decide_eq_true_eq, -decide_eq_false_iff_not, hw6]
       repeat' first | apply And.intro | refine hk _ ?_ | intro hg | omega | exact True.intro
       all_goals clear hk k
       show ∃ _, _
       refine ⟨(n + 1, t), ⟨by simp only; omega, by simp only; omega⟩, by simp only; omega, Less.of rfl (by simp [go_sem]) (by simp only [sw_rows gs]; simp [go_sem, sw_rows gs])⟩)
     ·intro hc; try simp at hc
      all_goals try (exfalso; omega; done)
      all_goals (
       refine AW.exitN (fun _ h => h) ?_
       refine rt ?_
       obtain rfl : n = lo - m := by first | omega | (simp at hc; omega)
       rw [mv_srt hB q4 q5, ← hM]
       simp [go_sem, Try.results118, hMl])))
 ·intro hc; try simp at hc
  all_goals try (exfalso; omega; done)
  all_goals (
   refine AW.skipN (fun _ h => h) ?_
   refine AW.seq ?_
   skip)

end Go.AM
namespace Go.AM
open Go.Proofs

set_option maxHeartbeats 4000000 in
/-- slices.symMergeCmpFunc[impl.Flow] -/
theorem dc_symMerge_b (L M P A B Q : List VF) (a m b : Nat) (hL : L = P ++ A ++ B ++ Q) (hM : M = P ++ srt VF.src (A ++ B) ++ Q) (hA : Ord VF.src A) (hB : Ord VF.src B) (hA0 : A ≠ []) (hB0 : B ≠ []) (ha : a = P.length) (hm : m = a + A.length) (hb : b = m + B.length) (hn : L.length ≤ 1048576) (hAx : A.length ≠ 1) (hBx : B.length = 1) : DC Try.prog 118 [.osl 3 (L.map VF.row), .int .i64 (a : Nat), .int .i64 (m : Nat), .int .i64 (b : Nat), .fn 69 []] (.tup []) [(0, .osl 3 (M.map VF.row))] := by
 have hA1 := List.length_pos_iff.2 hA0
 have hB1 := List.length_pos_iff.2 hB0
 have hll : L.length = P.length + A.length + B.length + Q.length := by rw [hL]; simp; omega
 have hMl : M.length = L.length := by rw [hM, hL]; simp [srt_len]; omega
 have hwA : IntKind.wrap .i64 ((m : Int) - (a : Int)) = ((A.length : Nat) : Int) := by rw [wrap64 (by omega) (by omega)]; omega
 have hwB : IntKind.wrap .i64 ((b : Int) - (m : Int)) = ((B.length : Nat) : Int) := by rw [wrap64 (by omega) (by omega)]; omega
 obtain ⟨y, rfl⟩ : ∃ y, B = [y] := List.length_eq_one_iff.1 hBx
 refine DC.intro tiOk Try.func118 rfl rfl rfl rfl rfl rfl rfl (by simp [noW, noWo]) [] ?_
 refine AW.seq ?_
 refine rg [0,1,2,3,4,28] ?_
 intro k hk; simp -dsimp [go_sem, -decide_eq_true_eq, -decide_eq_false_iff_not, hwA, hAx]
 repeat' first | apply And.intro | refine hk _ ?_ | intro hg | omega | exact True.intro
 all_goals clear hk k
 refine AW.cond rfl ?_ ?_
 ·intro hc; try simp at hc
  all_goals try (exfalso; omega; done)
  all_goals (
   skip)
 ·intro hc; try simp at hc
  all_goals try (exfalso; omega; done)
  all_goals (
   refine AW.skipN (fun _ h => h) ?_
   refine AW.seq ?_
   refine rg [0,1,2,3,4,80] ?_
   intro k hk; simp -dsimp [go_sem, -decide_eq_true_eq, -decide_eq_false_iff_not, hwB]
   repeat' first | apply And.intro | refine hk _ ?_ | intro hg | omega | exact True.intro
   all_goals clear hk k
   refine AW.cond rfl ?_ ?_
   ·intro hc; try simp at hc
    all_goals try (exfalso; omega; done)
    all_goals (
     refine rgA [0,2,4,14] ?_
     refine rgA [0,2,4,14,15] ?_
     refine AW.seq ?_
     refine AW.block ?_
     refine AW.loopI (fun q : Nat × Nat => ⟨220, [(0, .sl 1900 3 0 L.length), (2, .int .i64 (m : Nat)), (4, .fn 69 []), (14, .int .i64 (q.1 : Nat)), (15, .int .i64 (q.2 : Nat))], [(1900, some ⟨3, L.map VF.row⟩)]⟩) (fun q => a ≤ q.1 ∧ q.1 ≤ q.2 ∧ q.2 ≤ m ∧ (∀ z ∈ A.take (q.1 - a), z.src ≤ y.src) ∧ (∀ z ∈ A.drop (q.2 - a), y.src < z.src)) (fun q => q.2 - q.1) ((a, m)) (⟨Nat.le_refl _, by simp only; omega, Nat.le_refl _, by simp, by simp only; rw [List.drop_of_length_le (by omega)]; simp⟩) (Less.of rfl (by simp [go_sem]) (by simp [go_sem])) ?_
     rintro ⟨lo, hi⟩ ⟨q1, q2, q3, q4, q5⟩
     simp only at q1 q2 q3 q4 q5
     refine AW.seq ?_
     refine rgA [0,2,4,14,15,85] ?_
     refine AW.cond rfl ?_ ?_
     ·intro hc; try simp at hc
      all_goals try (exfalso; omega; done)
      all_goals (
       have hlt : lo < hi := by first | assumption | omega
       obtain ⟨c, hc⟩ : ∃ c : Nat, c = (lo + hi) / 2 := ⟨_, rfl⟩
       have hw1 : IntKind.wrap .i64 ((lo : Int) + (hi : Int)) = (lo : Int) + (hi : Int) := wrap64 (by omega) (by omega)
       have hw2 : IntKind.wrap .u64 ((lo : Int) + (hi : Int)) = (lo : Int) + (hi : Int) := by simp [IntKind.wrap, IntKind.bits, IntKind.signed]; omega
       have hfd : ((lo : Int) + (hi : Int)).fdiv 2 = ((c : Nat) : Int) := by rw [Int.fdiv_eq_ediv_of_nonneg _ (by omega)]; omega
       have hw3 : IntKind.wrap .i64 ((c : Nat) : Int) = ((c : Nat) : Int) := wrap64 (by omega) (by omega)
       obtain ⟨z, hz⟩ := at_some (l := A) (i := c - a) (by omega)
       have g1 : L[m]? = some y := by rw [hL]; exact at_two (n := 0) rfl (by omega)
       have g2 : L[c]? = some z := by rw [hL]; exact at_one hz (by omega)
       have g3 := gel g1
       have g4 := gel g2
       have g5 := at_lt g1
       have g6 := at_lt g2
       obtain ⟨c1, hc1⟩ : ∃ c1 : Nat, c1 = c + 1 := ⟨_, rfl⟩
       have hw4 : IntKind.wrap .i64 ((c : Int) + 1) = ((c1 : Nat) : Int) := by rw [wrap64 (by omega) (by omega)]; omega
       refine AW.skipN (fun _ h => h) ?_
       refine AW.block ?_
       refine rg [0,2,4,14,15,16] ?_
       intro k hk; simp -dsimp (maxSteps := 2000000) [go_sem, -decide_eq_true_eq, -decide_eq_false_iff_not, hw1, hw2, hfd, hw3]
       repeat' first | apply And.intro | refine hk _ ?_ | intro hg | omega | exact True.intro
       all_goals clear hk k
       refine rg [0,2,4,14,15,16,103] ?_
       intro k hk; simp -dsimp (maxSteps := 2000000) [go_sem, -decide_eq_true_eq, -decide_eq_false_iff_not, g1, g2, g3, g4, g5, g6, cmpI_neg]
       repeat' first | ((refine Chk.keys ?_); simp only [go_sem, List.map_cons, List.map_nil, List.flatMap_cons, List.flatMap_nil, List.flatMap_append, List.append_nil, List.nil_append, List.cons_append]; decide +kernel) | apply And.intro | refine hk _ ?_ | intro hg | (refine CallK.intro (dc_impl_graphOf_1 y z) ?_; simp -dsimp (maxSteps := 2000000) [go_sem, -decide_eq_true_eq, -decide_eq_false_iff_not, g1, g2, g3, g4, g5, g6, cmpI_neg]) | omega | exact True.intro
       all_goals clear hk k
       refine AW.cond rfl ?_ ?_
       ·intro hc; try simp at hc
        all_goals try (exfalso; omega; done)
        all_goals (
         refine rgK ?_
         intro k hk; simp -dsimp [go_sem, -decide_eq_true_eq, -decide_eq_false_iff_not, hw4]
         repeat' first | apply And.intro | refine hk _ ?_ | intro hg | omega | exact True.intro
         all_goals clear hk k
         show ∃ _, _
         first | (have hzx : z.src ≤ y.src := (by first | assumption | omega | (simp at hc; omega)); refine ⟨(c1, hi), ⟨by simp only; omega, by simp only; omega, q3, ?_, q5⟩, by simp only; omega, Less.of rfl (by simp [go_sem]) (by simp [go_sem])⟩; intro u hu; have h8 := ord_take hA hz u (by rw [show c - a + 1 = c1 - a from by omega]; exact hu); omega) | (have hzx : y.src < z.src := (by first | assumption | omega | (simp at hc; omega)); refine ⟨(lo, c), ⟨q1, by simp only; omega, by simp only; omega, q4, ?_⟩, by simp only; omega, Less.of rfl (by simp [go_sem]) (by simp [go_sem])⟩; intro u hu; have h8 := ord_drop hA hz u hu; omega))
       ·intro hc; try simp at hc
        all_goals try (exfalso; omega; done)
        all_goals (
         refine rgKA ?_
         show ∃ _, _
         first | (have hzx : z.src ≤ y.src := (by first | assumption | omega | (simp at hc; omega)); refine ⟨(c1, hi), ⟨by simp only; omega, by simp only; omega, q3, ?_, q5⟩, by simp only; omega, Less.of rfl (by simp [go_sem]) (by simp [go_sem])⟩; intro u hu; have h8 := ord_take hA hz u (by rw [show c - a + 1 = c1 - a from by omega]; exact hu); omega) | (have hzx : y.src < z.src := (by first | assumption | omega | (simp at hc; omega)); refine ⟨(lo, c), ⟨q1, by simp only; omega, by simp only; omega, q4, ?_⟩, by simp only; omega, Less.of rfl (by simp [go_sem]) (by simp [go_sem])⟩; intro u hu; have h8 := ord_drop hA hz u hu; omega)))
     ·intro hc; try simp at hc
      all_goals try (exfalso; omega; done)
      all_goals (
       refine AW.exitN (fun _ h => h) ?_
       refine AW.seq ?_
       obtain rfl : lo = hi := (by omega)
       refine rgA [0,14,17] ?_
       refine AW.block ?_
       refine AW.loopI (fun q : Nat × Nat => ⟨220, [(0, .sl 1900 3 0 L.length), (14, .int .i64 (lo : Nat)), (17, .int .i64 (q.2 : Nat))], [(1900, some ⟨3, (mvR P A Q y q.1).map VF.row⟩)]⟩) (fun q => lo - a ≤ q.1 ∧ q.1 ≤ A.length ∧ q.2 = a + q.1) (fun q => q.1) ((A.length, m)) (⟨by simp only; omega, Nat.le_refl _, hm⟩) (Less.of rfl (by simp [go_sem]) (by simp [go_sem, mvR, hL])) ?_
       rintro ⟨n, t⟩ ⟨hni, hnA, ht⟩
       simp only at hni hnA ht
       have hml := mv_len P A Q y n
       refine AW.seq ?_
       refine rgA [0,14,17,110] ?_
       refine AW.cond rfl ?_ ?_
       ·intro hc; try simp at hc
        all_goals try (exfalso; omega; done)
        all_goals (
         have hlt : lo - a < n := by first | omega | (simp at hc; omega)
         obtain ⟨n1, rfl⟩ : ∃ n1, n = n1 + 1 := ⟨n - 1, by omega⟩
         obtain ⟨z, hz⟩ := at_some (l := A) (i := n1) (by omega)
         obtain ⟨s, hs⟩ : ∃ s : Nat, s = a + n1 := ⟨_, rfl⟩
         obtain ⟨g1, g2, gs⟩ := mv_back (P := P) (Q := Q) (x := y) hz (s := s) (t := t) (by omega) (by omega)
         have g3 := gel g1
         have g4 := gel g2
         have g5 := at_lt g1
         have g6 := at_lt g2
         have g7 : s < L.length := by simp at hll; omega
         have g8 : t < L.length := by simp at hll; omega
         have g9 : t ≠ s := by omega
         have hw6 : IntKind.wrap .i64 ((t : Int) - 1) = ((s : Nat) : Int) := by rw [wrap64 (by omega) (by omega)]; omega
         refine AW.skipN (fun _ h => h) ?_
         refine AW.seq ?_
         refine AW.block ?_
         refine rgN [0,14,17] (fun _ h => h) ?_
         intro k hk; simp -dsimp (maxSteps := 2000000) [go_sem, -decide_eq_true_eq, -decide_eq_false_iff_not, hw6, g1, g2, g3, g4, g5, g6, g7, g8, g9]
         repeat' first | ((refine Chk.keys ?_); simp only [go_sem, List.map_cons, List.map_nil, List.flatMap_cons, List.flatMap_nil, List.flatMap_append, List.append_nil, List.nil_append, List.cons_append]; decide +kernel) | apply And.intro | refine hk _ ?_ | intro hg | omega | exact True.intro
         all_goals clear hk k
         refine rgK ?_
         intro k hk; simp -dsimp [go_sem, -decide_eq_true_eq, -decide_eq_false_iff_not, hw6]
         repeat' first | apply And.intro | refine hk _ ?_ | intro hg | omega | exact True.intro
         all_goals clear hk k
         show ∃ _, _
         refine ⟨(n1, s), ⟨by simp only; omega, by simp only; omega, by simp only; omega⟩, by simp only; omega, Less.of rfl (by simp [go_sem]) (by simp only [sw_rows gs]; simp [go_sem, sw_rows gs])⟩)
       ·intro hc; try simp at hc
        all_goals try (exfalso; omega; done)
        all_goals (
         refine AW.exitN (fun _ h => h) ?_
         refine rt ?_
         obtain rfl : n = lo - a := by first | omega | (simp at hc; omega)
         rw [mv_srt2 hA q4 q5, ← hM]
         simp [go_sem, Try.results118, hMl])))
   ·intro hc; try simp at hc
    all_goals try (exfalso; omega; done)
    all_goals (
     refine AW.skipN (fun _ h => h) ?_
     skip))

end Go.AM
namespace Go.AM
open Go.Proofs

/-- slices.rotateCmpFunc[impl.Flow] -/
theorem dc_rotate (L M P X Y Q : List VF) (a m b : Nat) (hL : L = P ++ X ++ Y ++ Q) (hM : M = P ++ Y ++ X ++ Q) (hX : X ≠ []) (hY : Y ≠ []) (ha : a = P.length) (hm : m = a + X.length) (hb : b = m + Y.length) (hn : L.length ≤ 1048576) : DC Try.prog 120 [.osl 3 (L.map VF.row), .int .i64 (a : Nat), .int .i64 (m : Nat), .int .i64 (b : Nat), .fn 69 []] (.tup []) [(0, .osl 3 (M.map VF.row))] := by
 have hll : L.length = P.length + X.length + Y.length + Q.length := by rw [hL]; simp; omega
 have hMl : M.length = L.length := by rw [hM, hL]; simp; omega
 have hw0 : IntKind.wrap .i64 ((m : Int) - (a : Int)) = ((X.length : Nat) : Int) := by rw [wrap64 (by omega) (by omega)]; omega
 have hw00 : IntKind.wrap .i64 ((b : Int) - (m : Int)) = ((Y.length : Nat) : Int) := by rw [wrap64 (by omega) (by omega)]; omega
 refine DC.intro tiOk Try.func120 rfl rfl rfl rfl rfl rfl rfl (by simp [noW, noWo]) [] ?_
 refine rg [0,2,3,4,10] ?_
 intro k hk; simp -dsimp [go_sem, -decide_eq_true_eq, -decide_eq_false_iff_not, hw0]
 repeat' first | apply And.intro | refine hk _ ?_ | intro hg | omega | exact True.intro
 all_goals clear hk k
 refine rg [0,2,4,10,11] ?_
 intro k hk; simp -dsimp [go_sem, -decide_eq_true_eq, -decide_eq_false_iff_not, hw00]
 repeat' first | apply And.intro | refine hk _ ?_ | intro hg | omega | exact True.intro
 all_goals clear hk k
 refine AW.seq ?_
 refine AW.block ?_
 refine AW.loopI (fun q : List VF × List VF × List VF × List VF × List VF => ⟨58, [(0, .sl 1900 3 0 L.length), (2, .int .i64 (m : Nat)), (4, .fn 69 []), (10, .int .i64 (q.2.2.1.length : Nat)), (11, .int .i64 (q.2.2.2.1.length : Nat))], [(1900, some ⟨3, q.1.map VF.row⟩)]⟩) (fun q => q.1 = q.2.1 ++ q.2.2.1 ++ q.2.2.2.1 ++ q.2.2.2.2 ∧ M = q.2.1 ++ q.2.2.2.1 ++ q.2.2.1 ++ q.2.2.2.2 ∧ q.2.2.1 ≠ [] ∧ q.2.2.2.1 ≠ [] ∧ m = q.2.1.length + q.2.2.1.length) (fun q => q.2.2.1.length + q.2.2.2.1.length) ((L, P, X, Y, Q)) (⟨hL, hM, hX, hY, by simp only; omega⟩) (Less.of rfl (by simp [go_sem]) (by simp [go_sem])) ?_
 rintro ⟨C, P1, X1, Y1, Q1⟩ ⟨hC, hM1, hX1, hY1, hm1⟩
 simp only at hC hM1 hX1 hY1 hm1
 have hX2 := List.length_pos_iff.2 hX1
 have hY2 := List.length_pos_iff.2 hY1
 have hCl : C.length = L.length := by rw [← hMl, hM1, hC]; simp; omega
 have hC2 : C.length = P1.length + X1.length + Y1.length + Q1.length := by rw [hC]; simp; omega
 obtain ⟨s, hs⟩ : ∃ s : Nat, s = P1.length := ⟨_, rfl⟩
 have hw1 : IntKind.wrap .i64 ((m : Int) - (X1.length : Int)) = ((s : Nat) : Int) := by rw [wrap64 (by omega) (by omega)]; omega
 refine AW.seq ?_
 refine rgA [0,2,4,10,11,20] ?_
 refine AW.cond rfl ?_ ?_
 ·intro hc; try simp at hc
  all_goals (
   refine AW.skipN (fun _ h => h) ?_
   refine AW.block ?_
   refine rgA [0,2,4,10,11,23] ?_
   refine AW.cond rfl ?_ ?_
   ·intro hc; try simp at hc
    all_goals (
     obtain ⟨X2, X3, hX3, hx1, hx2⟩ : ∃ X2 X3, X1 = X2 ++ X3 ∧ X2.length = Y1.length ∧ X3.length = X1.length - Y1.length := ⟨X1.take Y1.length, X1.drop Y1.length, (List.take_append_drop _ _).symm, by simp; omega, by simp⟩
     obtain ⟨D, hD⟩ : ∃ D, D = P1 ++ Y1 ++ X3 ++ X2 ++ Q1 := ⟨_, rfl⟩
     have hcall := dc_swapRange C D P1 X2 X3 Y1 Q1 s m Y1.length (by rw [hC, hX3]; simp) hD (by omega) hs (by omega) (by omega) (by omega)
     have hDl : D.length = L.length := by rw [hD, ← hCl, hC2]; simp; omega
     obtain ⟨P2, X4, Y4, Q2, n1, n2, n3, n4, n5, n6, n7, n8⟩ : ∃ P2 X4 Y4 Q2 : List VF, D = P2 ++ X4 ++ Y4 ++ Q2 ∧ M = P2 ++ Y4 ++ X4 ++ Q2 ∧ X4 ≠ [] ∧ Y4 ≠ [] ∧ m = P2.length + X4.length ∧ X4.length + Y4.length < X1.length + Y1.length ∧ X4.length = X1.length - Y1.length ∧ Y4.length = Y1.length := ⟨P1 ++ Y1, X3, X2, Q1, hD, by rw [hM1, hX3]; simp, List.ne_nil_of_length_pos (by omega), List.ne_nil_of_length_pos (by omega), by rw [List.length_append]; omega, by omega, by omega, by omega⟩
     have hw2 : IntKind.wrap .i64 ((X1.length : Int) - (Y1.length : Int)) = ((X4.length : Nat) : Int) := by rw [wrap64 (by omega) (by omega)]; omega
     have hw4 := hw2
     refine AW.reg tiOk (fun _ => [0]) [0,2,4,10,11] ?_
     intro k hk; simp -dsimp (maxSteps := 2000000) [go_sem, -decide_eq_true_eq, -decide_eq_false_iff_not, hw1]
     repeat' first | apply And.intro | refine hk _ ?_ | intro hg | (refine CallK.intro (hcall) ?_; simp -dsimp (maxSteps := 2000000) [go_sem, -decide_eq_true_eq, -decide_eq_false_iff_not, hw1]) | omega | exact True.intro
     all_goals clear hk k
     refine rgK ?_
     intro k hk; simp -dsimp [go_sem, -decide_eq_true_eq, -decide_eq_false_iff_not, hw2]
     repeat' first | apply And.intro | refine hk _ ?_ | intro hg | omega | exact True.intro
     all_goals clear hk k
     show ∃ _, _
     exact ⟨(D, P2, X4, Y4, Q2), ⟨n1, n2, n3, n4, n5⟩, n6, Less.of rfl (by simp [go_sem, hw2, hw4, n7, n8, hDl]) (by simp [go_sem])⟩)
   ·intro hc; try simp at hc
    all_goals (
     obtain ⟨Y2, Y3, hY3, hy1, hy2⟩ : ∃ Y2 Y3, Y1 = Y2 ++ Y3 ∧ Y3.length = X1.length ∧ Y2.length = Y1.length - X1.length := ⟨Y1.take (Y1.length - X1.length), Y1.drop (Y1.length - X1.length), (List.take_append_drop _ _).symm, by simp; omega, by simp⟩
     obtain ⟨D, hD⟩ : ∃ D, D = P1 ++ Y3 ++ Y2 ++ X1 ++ Q1 := ⟨_, rfl⟩
     obtain ⟨u, hu⟩ : ∃ u : Nat, u = m + Y1.length := ⟨_, rfl⟩
     obtain ⟨t, ht⟩ : ∃ t : Nat, t = P1.length + X1.length + Y2.length := ⟨_, rfl⟩
     have hcall := dc_swapRange C D P1 X1 Y2 Y3 Q1 s t X1.length (by rw [hC, hY3]; simp) hD (by omega) hs ht rfl (by omega)
     have hDl : D.length = L.length := by rw [hD, ← hCl, hC2]; simp; omega
     have hw2 : IntKind.wrap .i64 ((m : Int) + (Y1.length : Int)) = ((u : Nat) : Int) := by rw [wrap64 (by omega) (by omega)]; omega
     have hw3 : IntKind.wrap .i64 ((u : Int) - (X1.length : Int)) = ((t : Nat) : Int) := by rw [wrap64 (by omega) (by omega)]; omega
     obtain ⟨P2, X4, Y4, Q2, n1, n2, n3, n4, n5, n6, n7, n8⟩ : ∃ P2 X4 Y4 Q2 : List VF, D = P2 ++ X4 ++ Y4 ++ Q2 ∧ M = P2 ++ Y4 ++ X4 ++ Q2 ∧ X4 ≠ [] ∧ Y4 ≠ [] ∧ m = P2.length + X4.length ∧ X4.length + Y4.length < X1.length + Y1.length ∧ X4.length = X1.length ∧ Y4.length = Y1.length - X1.length := ⟨P1, Y3, Y2, X1 ++ Q1, by rw [hD]; simp, by rw [hM1, hY3]; simp, List.ne_nil_of_length_pos (by omega), List.ne_nil_of_length_pos (by omega), by omega, by omega, by omega, by omega⟩
     have hw4 : IntKind.wrap .i64 ((Y1.length : Int) - (X1.length : Int)) = ((Y4.length : Nat) : Int) := by rw [wrap64 (by omega) (by omega)]; omega
     refine AW.reg tiOk (fun _ => [0]) [0,2,4,10,11] ?_
     intro k hk; simp -dsimp (maxSteps := 2000000) [go_sem, -decide_eq_true_eq, -decide_eq_false_iff_not, hw1, hw2, hw3]
     repeat' first | apply And.intro | refine hk _ ?_ | intro hg | (refine CallK.intro (hcall) ?_; simp -dsimp (maxSteps := 2000000) [go_sem, -decide_eq_true_eq, -decide_eq_false_iff_not, hw1, hw2, hw3]) | omega | exact True.intro
     all_goals clear hk k
     refine rgK ?_
     intro k hk; simp -dsimp [go_sem, -decide_eq_true_eq, -decide_eq_false_iff_not, hw4]
     repeat' first | apply And.intro | refine hk _ ?_ | intro hg | omega | exact True.intro
     all_goals clear hk k
     show ∃ _, _
     exact ⟨(D, P2, X4, Y4, Q2), ⟨n1, n2, n3, n4, n5⟩, n6, Less.of rfl (by simp [go_sem, hw2, hw4, n7, n8, hDl]) (by simp [go_sem])⟩))
 ·intro hc; try simp at hc
  all_goals (
   refine AW.exitN (fun _ h => h) ?_
   have hcall := dc_swapRange C M P1 X1 [] Y1 Q1 s m X1.length (by rw [hC]; simp) (by rw [hM1]; simp) (by omega) hs (by simp; omega) rfl (by omega)
   refine rgE (fun _ => [0]) ?_
   intro k hk; simp -dsimp (maxSteps := 2000000) [go_sem, -decide_eq_true_eq, -decide_eq_false_iff_not, hw1]
   repeat' first | apply And.intro | refine hk _ ?_ | intro hg | (refine CallK.intro (hcall) ?_; simp -dsimp (maxSteps := 2000000) [go_sem, -decide_eq_true_eq, -decide_eq_false_iff_not, hw1]) | omega | exact True.intro
   all_goals clear hk k
   refine ⟨.intro, And.intro (.inl rfl) ?_⟩
   simp [go_sem, Try.results120, hMl])

end Go.AM
