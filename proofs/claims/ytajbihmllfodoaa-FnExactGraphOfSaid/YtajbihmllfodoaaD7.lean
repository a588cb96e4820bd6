/- Joined texts: Sh Sc Psq Si Sj Bg G3 F1 F2 F5 F7 G4 G5 G6 Bp Am32 Bh Bi Bj Bk. -/
import Derived.Test.YtajbihmllfodoaaD1
import Derived.Test.YtajbihmllfodoaaD2
import Derived.Test.YtajbihmllfodoaaD3
import Derived.Test.YtajbihmllfodoaaD4
import Derived.Test.YtajbihmllfodoaaD5
import Derived.Test.YtajbihmllfodoaaD6
set_option linter.unusedVariables false
set_option linter.unusedSimpArgs false
set_option maxHeartbeats 600000
set_option maxRecDepth 100000
namespace Go.AM
open Go.Proofs

theorem dc_symMerge : ∀ (f : Nat) (L M P A B Q : List VF) (a m b : Nat), L = P ++ A ++ B ++ Q → M = P ++ srt VF.src (A ++ B) ++ Q → Ord VF.src A → Ord VF.src B → A ≠ [] → B ≠ [] → a = P.length → m = a + A.length → b = m + B.length → L.length ≤ 1048576 → A.length + B.length ≤ f → DC Try.prog 118 [.osl 3 (L.map VF.row), .int .i64 (a : Nat), .int .i64 (m : Nat), .int .i64 (b : Nat), .fn 69 []] (.tup []) [(0, .osl 3 (M.map VF.row))] := by
 intro f
 induction f with
 | zero =>
  intro L M P A B Q a m b hL hM hA hB hA0 hB0 ha hm hb hn hf
  exact absurd (List.eq_nil_of_length_eq_zero (show A.length = 0 by omega)) hA0
 | succ f ih =>
  intro L M P A B Q a m b hL hM hA hB hA0 hB0 ha hm hb hn hf
  by_cases h1 : A.length = 1
  · exact dc_symMerge_a L M P A B Q a m b hL hM hA hB hA0 hB0 ha hm hb hn h1
  by_cases h2 : B.length = 1
  · exact dc_symMerge_b L M P A B Q a m b hL hM hA hB hA0 hB0 ha hm hb hn h1 h2
  by_cases h3 : (a + b) / 2 < m
  · exact dc_symMerge_c L M P A B Q a m b hL hM hA hB hA0 hB0 ha hm hb hn f ih h1 h2 hf h3
  · exact dc_symMerge_d L M P A B Q a m b hL hM hA hB hA0 hB0 ha hm hb hn f ih h1 h2 hf (by omega)

end Go.AM
namespace Go.AM
open Go.Proofs

/-- slices.insertionSortCmpFunc[impl.Flow] -/
theorem dc_insertion (L M P A Q : List VF) (a b : Nat) (hL : L = P ++ A ++ Q) (hM : M = P ++ srt VF.src A ++ Q) (ha : a = P.length) (hb : b = a + A.length) (hn : L.length ≤ 1048576) : DC Try.prog 117 [.osl 3 (L.map VF.row), .int .i64 (a : Nat), .int .i64 (b : Nat), .fn 69 []] (.tup []) [(0, .osl 3 (M.map VF.row))] := by
 have hll : L.length = P.length + A.length + Q.length := by rw [hL]; simp; omega
 have hMl : M.length = L.length := by rw [hM, hL]; simp [srt_len]
 obtain ⟨e0, he0⟩ : ∃ e0 : Nat, e0 = a + 1 := ⟨_, rfl⟩
 have hw0 : IntKind.wrap .i64 ((a : Int) + 1) = ((e0 : Nat) : Int) := by rw [wrap64 (by omega) (by omega)]; omega
 refine DC.intro tiOk Try.func117 rfl rfl rfl rfl rfl rfl rfl (by simp [noW, noWo]) [] ?_
 refine rg [0,1,2,3,8] ?_
 intro k hk; simp -dsimp [go_sem, -decide_eq_true_eq, -decide_eq_false_iff_not, hw0]
 repeat' first | apply And.intro | refine hk _ ?_ | intro hg | omega | exact True.intro
 all_goals clear hk k
 refine AW.block ?_
 refine AW.loopI (fun q : List VF × Nat => ⟨53, [(0, .sl 1900 3 0 L.length), (1, .int .i64 (a : Nat)), (2, .int .i64 (b : Nat)), (3, .fn 69 []), (8, .int .i64 (q.2 : Nat))], [(1900, some ⟨3, q.1.map VF.row⟩)]⟩) (fun q => q.1 = P ++ (srt VF.src (A.take (q.2 - a)) ++ A.drop (q.2 - a)) ++ Q ∧ a + 1 ≤ q.2 ∧ q.1.length = L.length) (fun q => b - q.2) ((L, e0)) (⟨by simp only; rw [hL, he0, Nat.add_sub_cancel_left, ins_zero], by simp only; omega, rfl⟩) (Less.of rfl (by simp [go_sem, hw0]) (by simp [go_sem])) ?_
 rintro ⟨C, e⟩ ⟨hC, hae, hCl⟩
 simp only at hC hae hCl
 refine AW.seq ?_
 refine rgA [0,1,2,3,8,14] ?_
 refine AW.cond rfl ?_ ?_
 ·intro hc; try simp at hc
  all_goals try (exfalso; omega; done)
  all_goals (
   have hlt : e < b := by first | assumption | omega
   obtain ⟨x, hx⟩ := at_some (l := A) (i := e - a) (by omega)
   obtain ⟨R, hR⟩ : ∃ R, R = A.drop (e - a + 1) ++ Q := ⟨_, rfl⟩
   obtain ⟨S0, hS0⟩ : ∃ S0, S0 = srt VF.src (A.take (e - a)) := ⟨_, rfl⟩
   have hS1 : S0.length = e - a := by rw [hS0, srt_len, List.length_take]; omega
   rw [ins_form hx, ← hR, ← hS0] at hC
   obtain ⟨e1, he1⟩ : ∃ e1 : Nat, e1 = e + 1 := ⟨_, rfl⟩
   have hw9 : IntKind.wrap .i64 ((e : Int) + 1) = ((e1 : Nat) : Int) := by rw [wrap64 (by omega) (by omega)]; omega
   refine AW.skipN (fun _ h => h) ?_
   refine AW.seq ?_
   refine AW.block ?_
   refine rgA [0,1,2,3,8,9] ?_
   refine AW.block ?_
   refine AW.loopI (fun q : List VF × List VF × List VF × Nat => ⟨53, [(0, .sl 1900 3 0 L.length), (1, .int .i64 (a : Nat)), (2, .int .i64 (b : Nat)), (3, .fn 69 []), (8, .int .i64 (e : Nat)), (9, .int .i64 (q.2.2.2 : Nat))], [(1900, some ⟨3, q.1.map VF.row⟩)]⟩) (fun q => q.1 = P ++ q.2.1 ++ x :: (q.2.2.1 ++ R) ∧ S0 = q.2.1 ++ q.2.2.1 ∧ (∀ y ∈ q.2.2.1, x.src < y.src) ∧ q.2.2.2 = P.length + q.2.1.length ∧ q.1.length = L.length) (fun q => q.2.1.length) ((C, S0, [], e)) (⟨hC, by simp, by simp, by simp only; omega, hCl⟩) (Less.of rfl (by simp [go_sem]) (by simp [go_sem])) ?_
   rintro ⟨C2, U, W, j⟩ ⟨hC2, hUW, hW, hj, hC2l⟩
   simp only at hC2 hUW hW hj hC2l
   have hcs := ins_look (a := a) hC2 ha hj (by omega)
   have hSU : S0.length = U.length + W.length := by rw [hUW, List.length_append]
   have hlj : j < L.length := by omega
   refine AW.seq ?_
   rcases hcs with ⟨U', y, i1, hU, h1, h2, g1, g2, g3, hw, g4, g5, g6, g7, g8⟩ | ⟨hU, h1, U', y, i1, h2, g1, g2, g3, hw, g4, g5, g6, g7, g8⟩
   all_goals (
    have hli : i1 < L.length ∨ True := Or.inr True.intro
    refine rg [0,1,2,3,8,9,34] ?_
    intro k hk; simp -dsimp (maxSteps := 2000000) [go_sem, -decide_eq_true_eq, -decide_eq_false_iff_not, h1, hw, g1, g2, g4, g5, g6, g7, g8, cmpI_neg, hlj, hli]
    repeat' first | ((refine Chk.keys ?_); simp only [go_sem, List.map_cons, List.map_nil, List.flatMap_cons, List.flatMap_nil, List.flatMap_append, List.append_nil, List.nil_append, List.cons_append]; decide +kernel) | apply And.intro | refine hk _ ?_ | (intro hg; try simp only [decide_eq_true_eq, decide_eq_false_iff_not] at hg) | (refine CallK.intro (dc_impl_graphOf_1 x y) ?_; simp -dsimp (maxSteps := 2000000) [go_sem, -decide_eq_true_eq, -decide_eq_false_iff_not, h1, hw, g1, g2, g4, g5, g6, g7, g8, cmpI_neg, hlj, hli]) | omega | exact True.intro
    all_goals clear hk k
    all_goals (
     refine AW.cond rfl ?_ ?_
     ·intro hc; try simp at hc
      all_goals try (exfalso; omega; done)
      all_goals (
       refine AW.skipN (fun _ h => h) ?_
       refine AW.seq ?_
       refine AW.block ?_
       refine rgN [0,1,2,3,8,9] (fun _ h => h) ?_
       intro k hk; simp -dsimp (maxSteps := 2000000) [go_sem, -decide_eq_true_eq, -decide_eq_false_iff_not, hw, g1, g2, g4, g5, g6, g7, g8, hlj, hli]
       repeat' first | ((refine Chk.keys ?_); simp only [go_sem, List.map_cons, List.map_nil, List.flatMap_cons, List.flatMap_nil, List.flatMap_append, List.append_nil, List.nil_append, List.cons_append]; decide +kernel) | apply And.intro | refine hk _ ?_ | intro hg | omega | exact True.intro
       all_goals clear hk k
       refine rgK ?_
       intro k hk; simp -dsimp [go_sem, -decide_eq_true_eq, -decide_eq_false_iff_not, hw]
       repeat' first | apply And.intro | refine hk _ ?_ | intro hg | omega | exact True.intro
       all_goals clear hk k
       show ∃ _, _
       refine ⟨(P ++ U' ++ x :: (y :: W ++ R), U', y :: W, i1), ⟨rfl, by simp only; rw [hUW, hU]; simp, ?_, ?_, ?_⟩, ?_, Less.of rfl (by simp [go_sem]) (by simp only [sw_rows g3]; simp [go_sem, sw_rows g3])⟩
       ·intro z hz; rcases List.mem_cons.1 hz with rfl | hz <;> first | assumption | exact hW z hz | (simp at hc; omega)
       ·simp only; rw [hU, List.length_append, List.length_singleton] at hj; omega
       ·simp only; rw [← g3]; simp; omega
       ·simp only; rw [hU, List.length_append, List.length_singleton]; omega)
     ·intro hc; try simp at hc
      all_goals try (exfalso; omega; done)
      all_goals (
       refine AW.exitN (fun _ h => h) ?_
       have hord : Ord VF.src S0 := by rw [hS0]; exact srt_ord _
       have hle : ∀ z ∈ U, z.src ≤ x.src := ins_le (by rw [hUW] at hord; exact (ord_app.1 hord).1) (by intro U2 y2 h9; rw [hU] at h9; first | (have h8 := List.append_inj' h9 rfl; have h7 := List.singleton_inj.1 h8.2; rw [← h7]; first | omega | (simp at hc; omega)) | (simp at h9))
       have hout := ins_out (P := P) (Q := Q) hx (by rw [← hS0]; exact hUW) hle hW
       rw [← hR, ← hC2] at hout
       have h9 : e1 - a = e - a + 1 := by omega
       rw [← h9] at hout
       refine rgK ?_
       intro k hk; simp -dsimp [go_sem, -decide_eq_true_eq, -decide_eq_false_iff_not, hw9]
       repeat' first | apply And.intro | refine hk _ ?_ | intro hg | omega | exact True.intro
       all_goals clear hk k
       show ∃ _, _
       refine ⟨(C2, e1), ⟨hout, by simp only; omega, hC2l⟩, by simp only; omega, Less.of rfl (by simp [go_sem]) (by simp [go_sem])⟩))))
 ·intro hc; try simp at hc
  all_goals try (exfalso; omega; done)
  all_goals (
   refine AW.exit ?_
   refine And.intro (.inl rfl) ?_
   have hfi : C = M := by rw [hC, hM, List.take_of_length_le (by omega), List.drop_of_length_le (by omega)]; simp
   rw [hfi]
   simp [go_sem, Try.results117, hMl])

end Go.AM
namespace Go.AM
def blk (C : List VF) (i n : Nat) : List VF := (C.drop i).take n
theorem blk_left {P A X Q : List VF} {i n : Nat} (h : i + n ≤ P.length) : blk (P ++ X ++ Q) i n = blk (P ++ A ++ Q) i n := by
  have key : ∀ R : List VF, blk (P ++ R) i n = (P.drop i).take n := by
    intro R
    unfold blk
    rw [List.drop_append_of_le_length (by omega), List.take_append_of_le_length (by rw [List.length_drop]; omega)]
  rw [List.append_assoc, List.append_assoc, key, key]
theorem blk_right {P A X Q : List VF} {i n : Nat} (hl : X.length = A.length) (h : P.length + A.length ≤ i) : blk (P ++ X ++ Q) i n = blk (P ++ A ++ Q) i n := by
  have key : ∀ R : List VF, R.length = A.length → blk (P ++ R ++ Q) i n = (Q.drop (i - (P.length + A.length))).take n := by
    intro R hR
    unfold blk
    rw [List.drop_append, List.drop_of_length_le (by rw [List.length_append]; omega), List.nil_append, List.length_append, hR]
  rw [key X hl, key A rfl]
theorem blk_mid {P X Q : List VF} {i n : Nat} (hi : i = P.length) (hn : n = X.length) : blk (P ++ X ++ Q) i n = X := by
  subst hi hn; unfold blk; rw [List.append_assoc, List.drop_left]; simp
theorem blk_end {P X : List VF} {i n : Nat} (hi : i = P.length) (hn : X.length ≤ n) : blk (P ++ X ++ []) i n = X := by
  subst hi; unfold blk; rw [List.append_nil, List.drop_left, List.take_of_length_le hn]
theorem blk_none {C : List VF} {i n : Nat} (h : C.length ≤ i) : blk C i n = [] := by unfold blk; rw [List.drop_of_length_le h]; simp
theorem blk_cut (C : List VF) (a n : Nat) : C = C.take a ++ blk C a n ++ C.drop (a + n) := by
  have h1 := List.take_append_drop a C
  have h2 := List.take_append_drop n (C.drop a)
  rw [List.drop_drop] at h2
  unfold blk
  rw [List.append_assoc, h2, h1]
theorem blk_cut2 (C : List VF) (a n m : Nat) : C = C.take a ++ blk C a n ++ blk C (a + n) m ++ C.drop (a + n + m) := by
  have h1 := blk_cut C a n
  have h2 := List.take_append_drop m (C.drop (a + n))
  rw [List.drop_drop] at h2
  have h3 : C.drop (a + n) = blk C (a + n) m ++ C.drop (a + n + m) := h2.symm
  rw [List.append_assoc _ (blk C (a + n) m), ← h3]; exact h1
theorem blk_len {C : List VF} {i n : Nat} (h : i + n ≤ C.length) : (blk C i n).length = n := by unfold blk; rw [List.length_take, List.length_drop]; omega
theorem blk_len2 {C : List VF} {i n : Nat} (h : C.length ≤ i + n) : (blk C i n).length = C.length - i := by unfold blk; rw [List.length_take, List.length_drop]; omega
theorem same_srt {P A Q : List VF} (k : Int) : ofK VF.src k (P ++ srt VF.src A ++ Q) = ofK VF.src k (P ++ A ++ Q) := by rw [ofK_append, ofK_append, srt_of, ofK_append (l := P ++ A), ofK_append]
theorem ord_blk_nil {C : List VF} {i n : Nat} (h : C.length ≤ i) : Ord VF.src (blk C i n) := by rw [blk_none h]; exact ord_nil

structure SoA (C L : List VF) : Prop where
  len : C.length = L.length
  same : ∀ k, ofK VF.src k C = ofK VF.src k L
theorem SoA.step {P A Q L : List VF} (h : SoA (P ++ A ++ Q) L) : SoA (P ++ srt VF.src A ++ Q) L := ⟨by rw [← h.len]; simp [srt_len], fun k => by rw [same_srt]; exact h.same k⟩
def SoB (C L : List VF) (bs t : Nat) : Prop := SoA C L ∧ ∀ u < t, Ord VF.src (blk C (u * bs) bs)
def SoC (C L : List VF) (bs : Nat) : Prop := SoA C L ∧ ∀ u, Ord VF.src (blk C (u * bs) bs)
def SoD (C L : List VF) (bs t : Nat) : Prop := SoA C L ∧ (∀ u < t, Ord VF.src (blk C (u * (2 * bs)) (2 * bs))) ∧ ∀ i, 2 * t ≤ i → Ord VF.src (blk C (i * bs) bs)
theorem st1 {C L : List VF} {t a b : Nat} (h : SoB C L 20 t) (ha : a = t * 20) (hb : b = a + 20) (hn : b ≤ C.length) :
    ∃ D P A Q, C = P ++ A ++ Q ∧ D = P ++ srt VF.src A ++ Q ∧ a = P.length ∧ b = a + A.length ∧ SoB D L 20 (t + 1) := by
  have hl := blk_len (C := C) (i := a) (n := 20) (by omega)
  have hp : (C.take a).length = a := by rw [List.length_take]; omega
  refine ⟨_, C.take a, blk C a 20, C.drop (a + 20), blk_cut C a 20, rfl, hp.symm, by omega, SoA.step (by rw [← blk_cut]; exact h.1), ?_⟩
  intro u hu
  rcases Nat.lt_or_ge u t with h1 | h1
  · have h2 := h.2 u h1
    rw [blk_cut C a 20] at h2
    rw [blk_left (A := blk C a 20) (by omega)]; exact h2
  · have : u = t := by omega
    subst this
    rw [blk_mid (by omega) (by rw [srt_len]; omega)]; exact srt_ord _
theorem st1_end {C L : List VF} {t a : Nat} (h : SoB C L 20 t) (ha : a = t * 20) (hn : a ≤ C.length) (hn2 : C.length < a + 20) :
    ∃ D P A, C = P ++ A ++ [] ∧ D = P ++ srt VF.src A ++ [] ∧ a = P.length ∧ C.length = a + A.length ∧ SoC D L 20 := by
  have hp : (C.take a).length = a := by rw [List.length_take]; omega
  have e : C = C.take a ++ C.drop a ++ [] := by simp
  have hl : (C.drop a).length = C.length - a := List.length_drop
  refine ⟨_, C.take a, C.drop a, e, rfl, hp.symm, by omega, SoA.step (by rw [← e]; exact h.1), ?_⟩
  intro u
  rcases Nat.lt_or_ge u t with h1 | h1
  · have h2 := h.2 u h1
    rw [e] at h2
    rw [blk_left (A := C.drop a) (by omega)]; exact h2
  · rcases Nat.lt_or_ge t u with h3 | h3
    · exact ord_blk_nil (by simp [srt_len]; omega)
    · have : u = t := by omega
      subst this
      rw [blk_end (by omega) (by rw [srt_len]; omega)]; exact srt_ord _
theorem st3 {C L : List VF} {bs t a m b : Nat} (h : SoD C L bs t) (ha : a = t * (2 * bs)) (hm : m = a + bs) (hb : b = a + 2 * bs) (hn : b ≤ C.length) :
    ∃ D P A B Q, C = P ++ A ++ B ++ Q ∧ D = P ++ srt VF.src (A ++ B) ++ Q ∧ a = P.length ∧ m = a + A.length ∧ b = m + B.length ∧ Ord VF.src A ∧ Ord VF.src B ∧ SoD D L bs (t + 1) := by
  have hl1 := blk_len (C := C) (i := a) (n := bs) (by omega)
  have hl2 := blk_len (C := C) (i := a + bs) (n := bs) (by omega)
  have hp : (C.take a).length = a := by rw [List.length_take]; omega
  have e := blk_cut2 C a bs bs
  have e2 : C = C.take a ++ (blk C a bs ++ blk C (a + bs) bs) ++ C.drop (a + bs + bs) := by rw [← List.append_assoc]; exact e
  have e1 : a = 2 * t * bs := by rw [ha]; rw [Nat.mul_comm 2 t, Nat.mul_assoc]
  have o1 : Ord VF.src (blk C a bs) := by rw [e1]; exact h.2.2 (2 * t) (Nat.le_refl _)
  have o2 : Ord VF.src (blk C (a + bs) bs) := by
    have h9 := h.2.2 (2 * t + 1) (by omega)
    rw [Nat.add_mul, Nat.one_mul, ← e1] at h9; exact h9
  refine ⟨_, C.take a, blk C a bs, blk C (a + bs) bs, C.drop (a + bs + bs), e, rfl, hp.symm, by omega, by omega, o1, o2, SoA.step (by rw [← e2]; exact h.1), ?_, ?_⟩
  · intro u hu
    rcases Nat.lt_or_ge u t with h1 | h1
    · have h2 := h.2.1 u h1
      have h3 : u * (2 * bs) + 2 * bs ≤ a := by
        have := Nat.mul_le_mul_right (2 * bs) (show u + 1 ≤ t by omega)
        rw [Nat.add_mul, Nat.one_mul] at this; omega
      rw [e2] at h2
      rw [blk_left (A := blk C a bs ++ blk C (a + bs) bs) (by omega)]; exact h2
    · have : u = t := by omega
      subst this
      rw [blk_mid (by omega) (by rw [srt_len, List.length_append]; omega)]; exact srt_ord _
  · intro i hi
    have h2 := h.2.2 i (by omega)
    have h3 : a + 2 * bs ≤ i * bs := by
      have := Nat.mul_le_mul_right bs hi
      rw [Nat.mul_add, Nat.add_mul, ← e1] at this; omega
    rw [e2] at h2
    rw [blk_right (A := blk C a bs ++ blk C (a + bs) bs) (srt_len _) (by rw [List.length_append]; omega)]; exact h2
theorem st3_end1 {C L : List VF} {bs t a m : Nat} (h : SoD C L bs t) (ha : a = t * (2 * bs)) (hm : m = a + bs) (hn : m < C.length) (hn2 : C.length < a + 2 * bs) :
    ∃ D P A B, C = P ++ A ++ B ++ [] ∧ D = P ++ srt VF.src (A ++ B) ++ [] ∧ a = P.length ∧ m = a + A.length ∧ C.length = m + B.length ∧ Ord VF.src A ∧ Ord VF.src B ∧ SoC D L (2 * bs) := by
  have hl1 := blk_len (C := C) (i := a) (n := bs) (by omega)
  have hl2 := blk_len2 (C := C) (i := a + bs) (n := bs) (by omega)
  have hp : (C.take a).length = a := by rw [List.length_take]; omega
  have hd : C.drop (a + bs + bs) = [] := List.drop_of_length_le (by omega)
  have e := blk_cut2 C a bs bs
  rw [hd] at e
  have e2 : C = C.take a ++ (blk C a bs ++ blk C (a + bs) bs) ++ [] := by rw [← List.append_assoc]; exact e
  have e1 : a = 2 * t * bs := by rw [ha]; rw [Nat.mul_comm 2 t, Nat.mul_assoc]
  have o1 : Ord VF.src (blk C a bs) := by rw [e1]; exact h.2.2 (2 * t) (Nat.le_refl _)
  have o2 : Ord VF.src (blk C (a + bs) bs) := by
    have h9 := h.2.2 (2 * t + 1) (by omega)
    rw [Nat.add_mul, Nat.one_mul, ← e1] at h9; exact h9
  refine ⟨_, C.take a, blk C a bs, blk C (a + bs) bs, e, rfl, hp.symm, by omega, by omega, o1, o2, SoA.step (by rw [← e2]; exact h.1), ?_⟩
  intro u
  rcases Nat.lt_or_ge u t with h1 | h1
  · have h2 := h.2.1 u h1
    have h3 : u * (2 * bs) + 2 * bs ≤ a := by
      have := Nat.mul_le_mul_right (2 * bs) (show u + 1 ≤ t by omega)
      rw [Nat.add_mul, Nat.one_mul] at this; omega
    rw [e2] at h2
    rw [blk_left (A := blk C a bs ++ blk C (a + bs) bs) (by omega)]; exact h2
  · rcases Nat.lt_or_ge t u with h3 | h3
    · have h4 : a + 2 * bs ≤ u * (2 * bs) := by
        have := Nat.mul_le_mul_right (2 * bs) (show t + 1 ≤ u by omega)
        rw [Nat.add_mul, Nat.one_mul] at this; omega
      refine ord_blk_nil ?_
      simp [srt_len]; omega
    · have : u = t := by omega
      subst this
      rw [blk_end (by omega) (by rw [srt_len, List.length_append]; omega)]; exact srt_ord _
theorem st3_end2 {C L : List VF} {bs t a : Nat} (h : SoD C L bs t) (ha : a = t * (2 * bs)) (hn : C.length ≤ a + bs) : SoC C L (2 * bs) := by
  refine ⟨h.1, fun u => ?_⟩
  rcases Nat.lt_or_ge u t with h1 | h1
  · exact h.2.1 u h1
  · rcases Nat.lt_or_ge t u with h3 | h3
    · have h4 : a + 2 * bs ≤ u * (2 * bs) := by
        have := Nat.mul_le_mul_right (2 * bs) (show t + 1 ≤ u by omega)
        rw [Nat.add_mul, Nat.one_mul] at this; omega
      exact ord_blk_nil (by omega)
    · have : u = t := by omega
      subst this
      have e1 : u * (2 * bs) = 2 * u * bs := by rw [Nat.mul_comm 2 u, Nat.mul_assoc]
      have h5 := h.2.2 (2 * u) (Nat.le_refl _)
      rw [← e1] at h5
      have : blk C (u * (2 * bs)) (2 * bs) = blk C (u * (2 * bs)) bs := by
        unfold blk
        rw [List.take_of_length_le (by rw [List.length_drop]; omega), List.take_of_length_le (by rw [List.length_drop]; omega)]
      rw [this]; exact h5
theorem SoC.s3 {C L : List VF} {bs : Nat} (h : SoC C L bs) : SoD C L bs 0 := ⟨h.1, fun u hu => absurd hu (Nat.not_lt_zero _), fun i _ => h.2 i⟩
theorem SoC.fin {C L : List VF} {bs : Nat} (h : SoC C L bs) (hn : C.length ≤ bs) : C = srt VF.src L := by
  have h1 := h.2 0
  have e : blk C (0 * bs) bs = C := by unfold blk; rw [Nat.zero_mul, List.drop_zero, List.take_of_length_le hn]
  rw [e] at h1
  exact srt_one h1 h.1.same
theorem SoB.zero (L : List VF) (bs : Nat) : SoB L L bs 0 := ⟨⟨rfl, fun _ => rfl⟩, fun u hu => absurd hu (Nat.not_lt_zero _)⟩
end Go.AM
namespace Go.AM
open Go.Proofs

set_option maxHeartbeats 8000000 in
/-- slices.stableCmpFunc[impl.Flow] -/
theorem dc_stable (L : List VF) (hn : L.length ≤ 100000) : DC Try.prog 103 [.osl 3 (L.map VF.row), .int .i64 (L.length : Nat), .fn 69 []] (.tup []) [(0, .osl 3 ((srt VF.src L).map VF.row))] := by
 have hMl : (srt VF.src L).length = L.length := srt_len L
 refine DC.intro tiOk Try.func103 rfl rfl rfl rfl rfl rfl rfl (by simp [noW, noWo]) [] ?_
 refine rgA [0,1,2,6] ?_
 refine rgA [0,1,2,6,7,8] ?_
 refine AW.seq ?_
 refine AW.block ?_
 refine AW.loopI (fun q : List VF × Nat × Nat × Nat => ⟨63, [(0, .sl 1900 3 0 L.length), (1, .int .i64 (L.length : Nat)), (2, .fn 69 []), (6, .int .i64 20), (7, .int .i64 (q.2.2.1 : Nat)), (8, .int .i64 (q.2.2.2 : Nat))], [(1900, some ⟨3, q.1.map VF.row⟩)]⟩) (fun q => SoB q.1 L 20 q.2.1 ∧ q.2.2.1 = q.2.1 * 20 ∧ q.2.2.2 = q.2.2.1 + 20 ∧ q.2.2.1 ≤ L.length) (fun q => L.length - q.2.2.1) ((L, 0, 0, 20)) (⟨SoB.zero L 20, by simp, by simp, by simp⟩) (Less.of rfl (by simp [go_sem]) (by simp [go_sem])) ?_
 rintro ⟨C, t, a, b⟩ ⟨hSB, hat, hb, han⟩
 simp only at hSB hat hb han
 have hCl := hSB.1.len
 refine AW.seq ?_
 refine rgA [0,1,2,6,7,8,13] ?_
 refine AW.cond rfl ?_ ?_
 ·intro hc; try simp at hc
  all_goals try (exfalso; omega; done)
  all_goals (
   have hlt : b ≤ L.length := by first | assumption | omega
   obtain ⟨D, P, A, Q, e1, e2, e3, e4, hD⟩ := st1 hSB hat hb (by omega)
   have hDl := hD.1.len
   obtain ⟨b3, hb3⟩ : ∃ b3 : Nat, b3 = b + 20 := ⟨_, rfl⟩
   have hw : IntKind.wrap .i64 ((b : Int) + 20) = ((b3 : Nat) : Int) := by rw [wrap64 (by omega) (by omega)]; omega
   refine AW.skipN (fun _ h => h) ?_
   refine AW.block ?_
   refine AW.reg tiOk (fun _ => [0]) [0,1,2,6,8] ?_
   intro k hk; simp -dsimp (maxSteps := 2000000) [go_sem, -decide_eq_true_eq, -decide_eq_false_iff_not, hDl, hCl]
   repeat' first | apply And.intro | refine hk _ ?_ | intro hg | (refine CallK.intro ((dc_insertion C D P A Q a b e1 e2 e3 e4 (by omega))) ?_; simp -dsimp (maxSteps := 2000000) [go_sem, -decide_eq_true_eq, -decide_eq_false_iff_not, hDl, hCl]) | omega | exact True.intro
   all_goals clear hk k
   refine rgA [0,1,2,6,7,8] ?_
   refine rgK ?_
   intro k hk; simp -dsimp [go_sem, -decide_eq_true_eq, -decide_eq_false_iff_not, hw]
   repeat' first | apply And.intro | refine hk _ ?_ | intro hg | omega | exact True.intro
   all_goals clear hk k
   show ∃ _, _
   refine ⟨(D, t + 1, b, b3), ⟨hD, by simp only; omega, by simp only; omega, by simp only; omega⟩, by simp only; omega, Less.of rfl (by simp [go_sem]) (by simp [go_sem])⟩)
 ·intro hc; try simp at hc
  all_goals try (exfalso; omega; done)
  all_goals (
   refine AW.exitN (fun _ h => h) ?_
   obtain ⟨D, P, A, e1, e2, e3, e4, hD⟩ := st1_end hSB hat (by omega) (by omega)
   have hDl := hD.1.len
   refine AW.reg tiOk (fun _ => [0]) [0,1,2,6] ?_
   intro k hk; simp -dsimp (maxSteps := 2000000) [go_sem, -decide_eq_true_eq, -decide_eq_false_iff_not, hDl, hCl]
   repeat' first | apply And.intro | refine hk _ ?_ | intro hg | (refine CallK.intro ((dc_insertion C D P A [] a L.length e1 e2 e3 (by omega) (by omega))) ?_; simp -dsimp (maxSteps := 2000000) [go_sem, -decide_eq_true_eq, -decide_eq_false_iff_not, hDl, hCl]) | omega | exact True.intro
   all_goals clear hk k
   refine AW.block ?_
   refine AW.loopI (fun q : List VF × Nat => ⟨63, [(0, .sl 1900 3 0 L.length), (1, .int .i64 (L.length : Nat)), (2, .fn 69 []), (6, .int .i64 (q.2 : Nat))], [(1900, some ⟨3, q.1.map VF.row⟩)]⟩) (fun q => SoC q.1 L q.2 ∧ 1 ≤ q.2 ∧ q.2 ≤ 2 * L.length + 20) (fun q => L.length - q.2) ((D, 20)) (⟨hD, by simp, by simp only; omega⟩) (Less.of rfl (by simp [go_sem]) (by simp [go_sem])) ?_
   rintro ⟨C1, bs⟩ ⟨hSC, hbs, hbn⟩
   simp only at hSC hbs hbn
   have hCl1 := hSC.1.len
   refine AW.seq ?_
   refine rgA [0,1,2,6,30] ?_
   refine AW.cond rfl ?_ ?_
   ·intro hc; try simp at hc
    all_goals try (exfalso; omega; done)
    all_goals (
     have hlt1 : bs < L.length := by first | assumption | omega
     obtain ⟨b0, hb0⟩ : ∃ b0 : Nat, b0 = 2 * bs := ⟨_, rfl⟩
     have hw1 : IntKind.wrap .i64 (2 * (bs : Int)) = ((b0 : Nat) : Int) := by rw [wrap64 (by omega) (by omega)]; omega
     have hw5 : IntKind.wrap .i64 ((bs : Int) * 2) = ((b0 : Nat) : Int) := by rw [wrap64 (by omega) (by omega)]; omega
     refine AW.skipN (fun _ h => h) ?_
     refine AW.block ?_
     refine rg [0,1,2,6,7,8] ?_
     intro k hk; simp -dsimp [go_sem, -decide_eq_true_eq, -decide_eq_false_iff_not, hw1]
     repeat' first | apply And.intro | refine hk _ ?_ | intro hg | omega | exact True.intro
     all_goals clear hk k
     refine AW.seq ?_
     refine AW.block ?_
     refine AW.loopI (fun q : List VF × Nat × Nat × Nat => ⟨63, [(0, .sl 1900 3 0 L.length), (1, .int .i64 (L.length : Nat)), (2, .fn 69 []), (6, .int .i64 (bs : Nat)), (7, .int .i64 (q.2.2.1 : Nat)), (8, .int .i64 (q.2.2.2 : Nat))], [(1900, some ⟨3, q.1.map VF.row⟩)]⟩) (fun q => SoD q.1 L bs q.2.1 ∧ q.2.2.1 = q.2.1 * (2 * bs) ∧ q.2.2.2 = q.2.2.1 + 2 * bs ∧ q.2.2.1 ≤ L.length) (fun q => L.length - q.2.2.1) ((C1, 0, 0, b0)) (⟨hSC.s3, by simp, by simp only; omega, by simp⟩) (Less.of rfl (by simp [go_sem]) (by simp [go_sem])) ?_
     rintro ⟨C2, t2, a2, b2⟩ ⟨hSD, hat2, hb2, han2⟩
     simp only at hSD hat2 hb2 han2
     have hCl2 := hSD.1.len
     obtain ⟨m2, hm2⟩ : ∃ m2 : Nat, m2 = a2 + bs := ⟨_, rfl⟩
     have hw2 : IntKind.wrap .i64 ((a2 : Int) + (bs : Int)) = ((m2 : Nat) : Int) := by rw [wrap64 (by omega) (by omega)]; omega
     refine AW.seq ?_
     refine rgA [0,1,2,6,7,8,35] ?_
     refine AW.cond rfl ?_ ?_
     ·intro hc; try simp at hc
      all_goals try (exfalso; omega; done)
      all_goals (
       have hlt2 : b2 ≤ L.length := by first | assumption | omega
       obtain ⟨D2, P2, A2, B2, Q2, f1, f2, f3, f4, f5, f6, f7, hD2⟩ := st3 hSD hat2 hm2 hb2 (by omega)
       have hDl2 := hD2.1.len
       obtain ⟨b4, hb4⟩ : ∃ b4 : Nat, b4 = b2 + b0 := ⟨_, rfl⟩
       have hw3 : IntKind.wrap .i64 (2 * (bs : Int)) = ((b0 : Nat) : Int) := hw1
       have hw4 : IntKind.wrap .i64 ((b2 : Int) + (b0 : Int)) = ((b4 : Nat) : Int) := by rw [wrap64 (by omega) (by omega)]; omega
       have hta : b2 = (t2 + 1) * (2 * bs) := by rw [Nat.add_mul, Nat.one_mul, ← hat2]; exact hb2
       refine AW.skipN (fun _ h => h) ?_
       refine AW.block ?_
       refine AW.reg tiOk (fun _ => [0]) [0,1,2,6,8] ?_
       intro k hk; simp -dsimp (maxSteps := 2000000) [go_sem, -decide_eq_true_eq, -decide_eq_false_iff_not, hw2, hDl2, hCl2]
       repeat' first | apply And.intro | refine hk _ ?_ | intro hg | (refine CallK.intro ((dc_symMerge (bs + bs) C2 D2 P2 A2 B2 Q2 a2 m2 b2 f1 f2 f6 f7 (List.ne_nil_of_length_pos (by omega)) (List.ne_nil_of_length_pos (by omega)) f3 f4 f5 (by omega) (by omega))) ?_; simp -dsimp (maxSteps := 2000000) [go_sem, -decide_eq_true_eq, -decide_eq_false_iff_not, hw2, hDl2, hCl2]) | omega | exact True.intro
       all_goals clear hk k
       refine rgA [0,1,2,6,7,8] ?_
       refine rgK ?_
       intro k hk; simp -dsimp [go_sem, -decide_eq_true_eq, -decide_eq_false_iff_not, hw3, hw4]
       repeat' first | apply And.intro | refine hk _ ?_ | intro hg | omega | exact True.intro
       all_goals clear hk k
       show ∃ _, _
       refine ⟨(D2, t2 + 1, b2, b4), ⟨hD2, hta, by simp only; omega, by simp only; omega⟩, by simp only; omega, Less.of rfl (by simp [go_sem]) (by simp [go_sem])⟩)
     ·intro hc; try simp at hc
      all_goals try (exfalso; omega; done)
      all_goals (
       refine AW.exitN (fun _ h => h) ?_
       refine AW.seq ?_
       refine rg [0,1,2,6,7,9] ?_
       intro k hk; simp -dsimp [go_sem, -decide_eq_true_eq, -decide_eq_false_iff_not, hw2]
       repeat' first | apply And.intro | refine hk _ ?_ | intro hg | omega | exact True.intro
       all_goals clear hk k
       refine rgA [0,1,2,6,7,9,54] ?_
       refine AW.cond rfl ?_ ?_
       ·intro hc; try simp at hc
        all_goals try (exfalso; omega; done)
        all_goals (
         obtain ⟨D2, P2, A2, B2, f1, f2, f3, f4, f5, f6, f7, hD2⟩ := st3_end1 hSD hat2 hm2 (by omega) (by omega)
         have hDl2 := hD2.1.len
         refine AW.regN tiOk (fun _ => [0]) [0,1,2,6] (fun _ h => h) ?_
         intro k hk; simp -dsimp (maxSteps := 2000000) [go_sem, -decide_eq_true_eq, -decide_eq_false_iff_not, hDl2, hCl2]
         repeat' first | apply And.intro | refine hk _ ?_ | intro hg | (refine CallK.intro ((dc_symMerge (bs + bs) C2 D2 P2 A2 B2 [] a2 m2 L.length f1 f2 f6 f7 (List.ne_nil_of_length_pos (by omega)) (List.ne_nil_of_length_pos (by omega)) f3 f4 (by omega) (by omega) (by omega))) ?_; simp -dsimp (maxSteps := 2000000) [go_sem, -decide_eq_true_eq, -decide_eq_false_iff_not, hDl2, hCl2]) | omega | exact True.intro
         all_goals clear hk k
         refine rgK ?_
         intro k hk; simp -dsimp [go_sem, -decide_eq_true_eq, -decide_eq_false_iff_not, hw5]
         repeat' first | apply And.intro | refine hk _ ?_ | intro hg | omega | exact True.intro
         all_goals clear hk k
         show ∃ _, _
         first | (refine ⟨(D2, b0), ⟨by simp only; rw [hb0]; exact hD2, by simp only; omega, by simp only; omega⟩, by simp only; omega, Less.of rfl (by simp [go_sem]) (by simp [go_sem])⟩) | (refine ⟨(C2, b0), ⟨by simp only; rw [hb0]; exact st3_end2 hSD hat2 (by omega), by simp only; omega, by simp only; omega⟩, by simp only; omega, Less.of rfl (by simp [go_sem]) (by simp [go_sem])⟩))
       ·intro hc; try simp at hc
        all_goals try (exfalso; omega; done)
        all_goals (
         refine AW.skipN (fun _ h => h) ?_
         refine rgK ?_
         intro k hk; simp -dsimp [go_sem, -decide_eq_true_eq, -decide_eq_false_iff_not, hw5]
         repeat' first | apply And.intro | refine hk _ ?_ | intro hg | omega | exact True.intro
         all_goals clear hk k
         show ∃ _, _
         first | (refine ⟨(D2, b0), ⟨by simp only; rw [hb0]; exact hD2, by simp only; omega, by simp only; omega⟩, by simp only; omega, Less.of rfl (by simp [go_sem]) (by simp [go_sem])⟩) | (refine ⟨(C2, b0), ⟨by simp only; rw [hb0]; exact st3_end2 hSD hat2 (by omega), by simp only; omega, by simp only; omega⟩, by simp only; omega, Less.of rfl (by simp [go_sem]) (by simp [go_sem])⟩))))
   ·intro hc; try simp at hc
    all_goals try (exfalso; omega; done)
    all_goals (
     refine AW.exit ?_
     refine And.intro (.inl rfl) ?_
     have hfi := hSC.fin (by omega)
     rw [hfi]
     simp [go_sem, Try.results103, hMl]))

/-- slices.SortStableFunc[[]impl.Flow,impl.Flow] -/
theorem dc_sortStable (L : List VF) (hn : L.length ≤ 100000) : DC Try.prog 68 [.osl 3 (L.map VF.row), .fn 69 []] (.tup []) [(0, .osl 3 ((srt VF.src L).map VF.row))] := by
 have hMl : (srt VF.src L).length = L.length := srt_len L
 refine DC.intro tiOk Try.func68 rfl rfl rfl rfl rfl rfl rfl (by simp [noW, noWo]) [] ?_
 refine rgE (fun _ => [0]) ?_
 intro k hk; simp -dsimp (maxSteps := 2000000) [go_sem, -decide_eq_true_eq, -decide_eq_false_iff_not]
 repeat' first | apply And.intro | refine hk _ ?_ | intro hg | (refine CallK.intro (dc_stable L hn) ?_; simp -dsimp (maxSteps := 2000000) [go_sem, -decide_eq_true_eq, -decide_eq_false_iff_not]) | omega | exact True.intro
 all_goals clear hk k
 refine ⟨.intro, And.intro (.inl rfl) ?_⟩
 simp [go_sem, Try.results68, hMl]

end Go.AM
namespace Go.AM
open Go.Proofs

theorem owc_slice {w : World} {lab : Labs} {p : Lab} {es : Nat} {l : List (List AV)} {v : Value} (h : T w lab p (owc es l) v) : ∃ a n cap, v = .slice a n cap := by
 cases l with
 | nil =>
  cases h with
  | imm _ _ _ h => cases h with
    | nsl => exact ⟨_, _, _, rfl⟩
    | esl => exact ⟨_, _, _, rfl⟩
    | isl => exact ⟨_, _, _, rfl⟩
 | cons x r =>
  cases h with
  | imm _ _ _ h => cases h
  | osl => exact ⟨_, _, _, rfl⟩
def fl0 : TFlow := ⟨0, 0, []⟩
theorem dc_sortFlows (l : List TFlow) (hn : l.length ≤ 100000) : DC Try.prog 68 [.osl 3 (l.map TFlow.oc), .fn 69 []] (.tup []) [(0, .osl 3 ((srt TFlow.frm l).map TFlow.oc))] := by
 obtain ⟨σ, hσ⟩ : ∃ σ, σ = srt (fun i => (l.map TFlow.frm).getD i 0) (List.range l.length) := ⟨_, rfl⟩
 have hp : σ.Perm (List.range l.length) := by rw [hσ]; exact srt_perm _
 have hmem : ∀ i ∈ σ, i < l.length := fun i hi => List.mem_range.1 (hp.mem_iff.1 hi)
 have h := DC.unseen (P := Try.prog) (f := 68) (rest := [.fn 69 []]) TFlow.frm TFlow.to (fun x => owc 4 (x.cond.map TNode.ro)) (fun x => owc_tree 4 _) l σ (hp.nodup_iff.2 List.nodup_range) hmem (fun x w lab p v h => owc_slice h) (by
  intro vs _ _
  have h := dc_sortStable ((List.range l.length).map fun i => (⟨(l.map TFlow.frm).getD i 0, (l.map TFlow.to).getD i 0, vs.getD i default⟩ : VF)) (by simp; exact hn)
  rw [srt_map] at h
  simp only [List.map_map] at h
  rw [hσ]
  exact h)
 have e : (σ.map fun i => [AV.int .i64 ((l.map TFlow.frm).getD i 0), .int .i64 ((l.map TFlow.to).getD i 0), (l.map fun x => owc 4 (x.cond.map TNode.ro)).getD i .nils]) = (srt TFlow.frm l).map TFlow.oc := by
  have hl : l = (List.range l.length).map fun i => l.getD i fl0 := by
   apply List.ext_getElem?
   intro i
   rw [List.getElem?_map]
   rcases Nat.lt_or_ge i l.length with h | h
   · rw [List.getElem?_range h]; simp [List.getD_eq_getElem?_getD, List.getElem?_eq_getElem h]
   · rw [List.getElem?_eq_none h, List.getElem?_eq_none (by simpa using h)]; rfl
  have hs : srt TFlow.frm l = σ.map fun i => l.getD i fl0 := by
   conv => lhs; rw [hl]
   rw [srt_map, hσ]
   congr 1
   have hk : (fun b => TFlow.frm (l.getD b fl0)) = fun i => (l.map TFlow.frm).getD i 0 := by
    funext i
    rcases Nat.lt_or_ge i l.length with h | h
    · simp [List.getD_eq_getElem?_getD, List.getElem?_eq_getElem h]
    · simp [List.getD_eq_getElem?_getD, List.getElem?_eq_none h, fl0]
   rw [hk]
  rw [hs, List.map_map]
  apply List.map_congr_left
  intro i hi
  have h := hmem i hi
  simp [List.getD_eq_getElem?_getD, List.getElem?_eq_getElem h, TFlow.oc]
 rw [e] at h
 exact h

end Go.AM
namespace Go.AM
open Go.Proofs

set_option maxHeartbeats 8000000 in
/-- impl.graphOf -/
theorem dc_impl_graphOf (p : List TStep) (hP : ProcOk p) : DC Try.prog 41 [.isl 6 (p.map TStep.ro)] (.agg [.osl 5 ((gNs p).map TGNode.oc), .osl 3 ((srt TFlow.frm (gFl p)).map TFlow.oc)]) [] := by
 have hp := hP.len
 have hfw := gTop_few hP
 have hcp := (grow_ok hP).1
 have hck : cK p p.length 0 ≤ 24 := hcp
 obtain ⟨R, hR⟩ : ∃ N, N = gTop p := ⟨_, rfl⟩
 rw [← hR] at hfw
 have hn0 := dc_impl_graphMaker_node_z p [] [] 1 0 0 0 0 [] (by simp)
 obtain ⟨N0, hN0⟩ : ∃ N, N = ([] : List TGNode) ++ [(⟨1, 0, [], 0, []⟩ : TGNode)] := ⟨_, rfl⟩
 rw [← hN0] at hn0
 have l0 : N0.length = 1 := by rw [hN0]; rfl
 have hs0 := dc_gstep_impl p hP p.length 0 N0 [] (by omega) (by simp; omega) (by simp) (by omega) (by simp; omega)
 rw [l0] at hs0
 have hRt : gstep p p.length (0 : Int).toNat 1 = R := by rw [hR]; rfl
 rw [hRt] at hs0
 obtain ⟨N1, hN1⟩ : ∃ N, N = N0 ++ R.ns := ⟨_, rfl⟩
 obtain ⟨F1, hF1⟩ : ∃ N, N = ([] : List TFlow) ++ R.fs := ⟨_, rfl⟩
 rw [← hN1, ← hF1] at hs0
 have l1 : N1.length = 1 + R.ns.length := by rw [hN1, List.length_append, l0]
 have m1 : F1.length = R.fs.length := by rw [hF1]; simp
 have hn1 := dc_impl_graphMaker_node_z p N1 F1 2 0 0 0 0 [] (by omega)
 obtain ⟨N2, hN2⟩ : ∃ N, N = N1 ++ [(⟨2, 0, [], 0, []⟩ : TGNode)] := ⟨_, rfl⟩
 rw [← hN2] at hn1
 have hq0 := dc_impl_graphMaker_flow_n p N2 F1 0 R.en (by omega)
 obtain ⟨F2, hF2⟩ : ∃ N, N = F1 ++ [(⟨0, R.en, []⟩ : TFlow)] := ⟨_, rfl⟩
 rw [← hF2] at hq0
 have m2 : F2.length = F1.length + 1 := by rw [hF2, List.length_append]; rfl
 have hq1 := dc_impl_graphMaker_flow_n p N2 F2 R.lv (N1.length : Nat) (by omega)
 obtain ⟨F3, hF3⟩ : ∃ N, N = F2 ++ [(⟨R.lv, (N1.length : Nat), []⟩ : TFlow)] := ⟨_, rfl⟩
 rw [← hF3] at hq1
 have m3 : F3.length = F2.length + 1 := by rw [hF3, List.length_append]; rfl
 have hso := dc_sortFlows F3 (by omega)
 have hgn : gNs p = N2 := by unfold gNs; rw [hN2, hN1, hN0, ← hR]; simp
 have hgf : gFl p = F3 := by unfold gFl; rw [hF3, hF2, hF1, l1, ← hR]; simp
 rw [hgn, hgf]
 obtain ⟨F4, hF4⟩ : ∃ F, F = srt TFlow.frm F3 := ⟨_, rfl⟩
 rw [← hF4] at hso ⊢
 have m4 : F4.length = F3.length := by rw [hF4, srt_len]
 have hne2 : nlc 5 (N2.map TGNode.oc) = .osl 5 (N2.map TGNode.oc) := nlc_map (by rw [hN2]; simp) 5
 have hne3 : nlc 3 (F3.map TFlow.oc) = .osl 3 (F3.map TFlow.oc) := nlc_map (by rw [hF3]; simp) 3
 refine DC.intro tiOk Try.func41 rfl rfl rfl rfl rfl rfl rfl rfl [1000] ?_
 refine rgA [0,2] ?_
 refine rgA [2,3] ?_
 refine AW.reg tiOk (fun _ => [0]) [2,3,4] ?_
 intro k hk; simp -dsimp (maxSteps := 2000000) [go_sem, -decide_eq_true_eq, -decide_eq_false_iff_not]
 repeat' first | apply And.intro | refine hk _ ?_ | intro hg | (refine CallK.intro (hn0) ?_; simp -dsimp (maxSteps := 2000000) [go_sem, -decide_eq_true_eq, -decide_eq_false_iff_not]) | omega | exact True.intro
 all_goals clear hk k
 refine AW.reg tiOk (fun _ => [0]) [2,3,4,5,6] ?_
 intro k hk; simp -dsimp (maxSteps := 2000000) [go_sem, -decide_eq_true_eq, -decide_eq_false_iff_not]
 repeat' first | apply And.intro | refine hk _ ?_ | intro hg | (refine CallK.intro (hs0) ?_; simp -dsimp (maxSteps := 2000000) [go_sem, -decide_eq_true_eq, -decide_eq_false_iff_not]) | omega | exact True.intro
 all_goals clear hk k
 refine AW.reg tiOk (fun _ => [0]) [2,3,4,5,6,7] ?_
 intro k hk; simp -dsimp (maxSteps := 2000000) [go_sem, -decide_eq_true_eq, -decide_eq_false_iff_not]
 repeat' first | apply And.intro | refine hk _ ?_ | intro hg | (refine CallK.intro (hn1) ?_; simp -dsimp (maxSteps := 2000000) [go_sem, -decide_eq_true_eq, -decide_eq_false_iff_not]) | omega | exact True.intro
 all_goals clear hk k
 refine AW.reg tiOk (fun _ => [0]) [2,3,6,7] ?_
 intro k hk; simp -dsimp (maxSteps := 2000000) [go_sem, -decide_eq_true_eq, -decide_eq_false_iff_not]
 repeat' first | apply And.intro | refine hk _ ?_ | intro hg | (refine CallK.intro (hq0) ?_; simp -dsimp (maxSteps := 2000000) [go_sem, -decide_eq_true_eq, -decide_eq_false_iff_not]) | omega | exact True.intro
 all_goals clear hk k
 refine AW.reg tiOk (fun _ => [0]) [2,3] ?_
 intro k hk; simp -dsimp (maxSteps := 2000000) [go_sem, -decide_eq_true_eq, -decide_eq_false_iff_not]
 repeat' first | apply And.intro | refine hk _ ?_ | intro hg | (refine CallK.intro (hq1) ?_; simp -dsimp (maxSteps := 2000000) [go_sem, -decide_eq_true_eq, -decide_eq_false_iff_not]) | omega | exact True.intro
 all_goals clear hk k
 rw [hne2, hne3]
 refine AW.thaw 10 0 1 7001 rfl rfl rfl (by simp [go_sem]) ?_
 refine AW.thaw 10 0 2 7002 rfl rfl rfl (by simp [go_sem]) ?_
 refine AW.reg tiOk (fun _ => [0]) [2,3] ?_
 intro k hk; simp -dsimp (maxSteps := 2000000) [go_sem, -decide_eq_true_eq, -decide_eq_false_iff_not, m4]
 repeat' first | apply And.intro | refine hk _ ?_ | intro hg | (refine CallK.intro (hso) ?_; simp -dsimp (maxSteps := 2000000) [go_sem, -decide_eq_true_eq, -decide_eq_false_iff_not, m4]) | omega | exact True.intro
 all_goals clear hk k
 refine rgA [2] ?_
 refine rt ?_
 simp [go_sem, Try.results41, m4]

end Go.AM
namespace Go.AM
open Go.Proofs

/-- impl.wantsCond -/
theorem dc_impl_wantsCond_z (p : List TStep) (ho : StepsOk p) : DC Try.prog 97 [.isl 6 (p.map TStep.ro), .int .i64 0] (.bool (wants p 0)) [] := by
 have hi : 0 < p.length := by have := ho.len; omega
 have hlen := ho.len
 obtain ⟨x, hx⟩ := at_some hi
 have hxS := nS_at hx
 have hx0 := ho.par0
 rw [hxS] at hx0
 refine DC.intro tiOk Try.func97 rfl rfl rfl rfl rfl rfl rfl rfl [] ?_
 refine rg [0,1] ?_
 intro k hk; simp -dsimp [go_sem, -decide_eq_true_eq, -decide_eq_false_iff_not, hx, hx0]
 repeat' first | apply And.intro | refine hk _ ?_ | intro hg | omega | exact True.intro
 all_goals clear hk k
 refine rg [0,1,5] ?_
 intro k hk; simp -dsimp [go_sem, -decide_eq_true_eq, -decide_eq_false_iff_not, hx, hx0]
 repeat' first | apply And.intro | refine hk _ ?_ | intro hg | omega | exact True.intro
 all_goals clear hk k
 refine AW.seq ?_
 refine rg [0,1,5,21] ?_
 intro k hk; simp +contextual -dsimp (maxSteps := 2000000) [go_sem, -decide_eq_true_eq, -decide_eq_false_iff_not, hx, hx0]
 repeat' first | apply And.intro | refine hk _ ?_ | (intro hg; try simp only [decide_eq_true_eq, decide_eq_false_iff_not] at hg) | omega | exact True.intro
 all_goals clear hk k
 all_goals (
  refine AW.cond rfl ?_ ?_
  ·intro hc; try simp at hc
   all_goals try (exfalso; first | omega | (simp at hc; done); done)
   all_goals (
    refine rg [4] ?_
    intro k hk; simp -dsimp [go_sem, -decide_eq_true_eq, -decide_eq_false_iff_not, hx, hx0]
    repeat' first | apply And.intro | refine hk _ ?_ | intro hg | omega | exact True.intro
    all_goals clear hk k
    refine rt ?_
    simp [go_sem, Try.results97, wants])
  ·intro hc; try simp at hc
   all_goals try (exfalso; first | omega | (simp at hc; done); done)
   all_goals (
    refine AW.skipN (fun _ h => h) ?_
    refine rg [1,6] ?_
    intro k hk; simp -dsimp (maxSteps := 2000000) [go_sem, -decide_eq_true_eq, -decide_eq_false_iff_not, hx, hx0]
    repeat' first | apply And.intro | refine hk _ ?_ | intro hg | (refine CallK.intro (fail) ?_; simp -dsimp (maxSteps := 2000000) [go_sem, -decide_eq_true_eq, -decide_eq_false_iff_not, hx, hx0]) | omega | exact True.intro
    all_goals clear hk k
    refine rg [4] ?_
    intro k hk; simp -dsimp (maxSteps := 2000000) [go_sem, -decide_eq_true_eq, -decide_eq_false_iff_not, hx, hx0]
    repeat' first | apply And.intro | refine hk _ ?_ | intro hg | omega | exact True.intro
    all_goals clear hk k
    refine rt ?_
    simp [go_sem, Try.results97, wants]))

/-- impl.wantsCond -/
theorem dc_impl_wantsCond_s (p : List TStep) (ho : StepsOk p) (i : Nat) (hi : i < p.length) (hi0 : 0 < i) : DC Try.prog 97 [.isl 6 (p.map TStep.ro), .int .i64 (i : Nat)] (.bool (wants p i)) [] := by
 have hlen := ho.len
 obtain ⟨x, hx⟩ := at_some hi
 have hxS := nS_at hx
 have hpi := ho.parI hi0 hi
 rw [hxS] at hpi
 obtain ⟨a, ha⟩ : ∃ a : Nat, x.par = a := ⟨_, (Int.toNat_of_nonneg hpi.1).symm⟩
 obtain ⟨y, hy⟩ := at_some (l := p) (show a < p.length by omega)
 have hyS := nS_at hy
 have hdi : decide ((i : Int) = 0) = false := decide_eq_false (by omega)
 have hdi2 : ((i : Int) = 0) = False := eq_false (by omega)
 have hdj : (i = 0) = False := eq_false (by omega)
 have hkn := ho.kids_ne hi0 hi
 rw [hxS, ha] at hkn
 have hkl := last_at hkn
 have hkm := kids_len p (a : Int)
 have hkp := List.length_pos_iff.2 hkn
 have hwl : IntKind.wrap .i64 (((kids p a).length : Int) - 1) = ((kids p a).length : Int) - 1 := wrap64 (by omega) (by omega)
 have hwt : (((kids p a).length : Int) - 1).toNat = (kids p a).length - 1 := by omega
 refine DC.intro tiOk Try.func97 rfl rfl rfl rfl rfl rfl rfl rfl [] ?_
 refine rg [0,1] ?_
 intro k hk; simp -dsimp [go_sem, -decide_eq_true_eq, -decide_eq_false_iff_not, hx, hy, ha, hdi, hdi2]
 repeat' first | apply And.intro | refine hk _ ?_ | intro hg | omega | exact True.intro
 all_goals clear hk k
 refine rg [0,1,5] ?_
 intro k hk; simp -dsimp [go_sem, -decide_eq_true_eq, -decide_eq_false_iff_not, hx, hy, ha, hdi, hdi2]
 repeat' first | apply And.intro | refine hk _ ?_ | intro hg | omega | exact True.intro
 all_goals clear hk k
 refine AW.seq ?_
 refine rg [0,1,5,21] ?_
 intro k hk; simp +contextual -dsimp (maxSteps := 2000000) [go_sem, -decide_eq_true_eq, -decide_eq_false_iff_not, hx, hy, ha, hdi, hdi2]
 repeat' first | apply And.intro | refine hk _ ?_ | (intro hg; try simp only [decide_eq_true_eq, decide_eq_false_iff_not] at hg) | omega | exact True.intro
 all_goals clear hk k
 all_goals (
  refine AW.cond rfl ?_ ?_
  ·intro hc; try simp at hc
   all_goals try (exfalso; omega; done)
   all_goals (
    refine rg [4] ?_
    intro k hk; simp -dsimp [go_sem, -decide_eq_true_eq, -decide_eq_false_iff_not, hx, hy, ha, hdi, hdi2]
    repeat' first | apply And.intro | refine hk _ ?_ | intro hg | omega | exact True.intro
    all_goals clear hk k
    refine rt ?_
    simp [go_sem, Try.results97, wants, hxS, hyS, ha, hdj, hdi2] <;> grind)
  ·intro hc; try simp at hc
   all_goals try (exfalso; omega; done)
   all_goals (
    refine AW.skipN (fun _ h => h) ?_
    refine rg [1,6] ?_
    intro k hk; simp -dsimp (maxSteps := 2000000) [go_sem, -decide_eq_true_eq, -decide_eq_false_iff_not, hx, hy, ha, hdi, hdi2]
    repeat' first | apply And.intro | refine hk _ ?_ | intro hg | (refine CallK.intro (dc_impl_kids p (a : Int) (by omega)) ?_; simp -dsimp (maxSteps := 2000000) [go_sem, -decide_eq_true_eq, -decide_eq_false_iff_not, hx, hy, ha, hdi, hdi2]) | omega | exact True.intro
    all_goals clear hk k
    refine rg [4] ?_
    intro k hk; simp -dsimp (maxSteps := 2000000) [go_sem, -decide_eq_true_eq, -decide_eq_false_iff_not, hx, hy, ha, hdi, hdi2, hkl, hwl, hwt]
    repeat' first | apply And.intro | refine hk _ ?_ | intro hg | omega | exact True.intro
    all_goals clear hk k
    refine rt ?_
    simp [go_sem, Try.results97, wants, hxS, hyS, ha, hdj, hdi2] <;> grind))
theorem dc_impl_wantsCond (p : List TStep) (ho : StepsOk p) (i : Nat) (hi : i < p.length) : DC Try.prog 97 [.isl 6 (p.map TStep.ro), .int .i64 (i : Nat)] (.bool (wants p i)) [] := by
  rcases Nat.eq_zero_or_pos i with h | h
  · subst h; exact dc_impl_wantsCond_z p ho
  · exact dc_impl_wantsCond_s p ho i hi h

/-- spec.l4Needs -/
theorem dc_spec_l4Needs_z (p : List TStep) (ho : StepsOk p) : DC Try.prog 88 [.isl 6 (p.map TStep.ro), .int .i64 0] (.bool (wants p 0)) [] := by
 have hi : 0 < p.length := by have := ho.len; omega
 have hlen := ho.len
 obtain ⟨x, hx⟩ := at_some hi
 have hxS := nS_at hx
 have hx0 := ho.par0
 rw [hxS] at hx0
 refine DC.intro tiOk Try.func88 rfl rfl rfl rfl rfl rfl rfl rfl [] ?_
 refine rg [0,1] ?_
 intro k hk; simp -dsimp [go_sem, -decide_eq_true_eq, -decide_eq_false_iff_not, hx, hx0]
 repeat' first | apply And.intro | refine hk _ ?_ | intro hg | omega | exact True.intro
 all_goals clear hk k
 refine rg [0,1,5] ?_
 intro k hk; simp -dsimp [go_sem, -decide_eq_true_eq, -decide_eq_false_iff_not, hx, hx0]
 repeat' first | apply And.intro | refine hk _ ?_ | intro hg | omega | exact True.intro
 all_goals clear hk k
 refine AW.seq ?_
 refine rg [0,1,5,21] ?_
 intro k hk; simp +contextual -dsimp (maxSteps := 2000000) [go_sem, -decide_eq_true_eq, -decide_eq_false_iff_not, hx, hx0]
 repeat' first | apply And.intro | refine hk _ ?_ | (intro hg; try simp only [decide_eq_true_eq, decide_eq_false_iff_not] at hg) | omega | exact True.intro
 all_goals clear hk k
 all_goals (
  refine AW.cond rfl ?_ ?_
  ·intro hc; try simp at hc
   all_goals try (exfalso; first | omega | (simp at hc; done); done)
   all_goals (
    refine rg [4] ?_
    intro k hk; simp -dsimp [go_sem, -decide_eq_true_eq, -decide_eq_false_iff_not, hx, hx0]
    repeat' first | apply And.intro | refine hk _ ?_ | intro hg | omega | exact True.intro
    all_goals clear hk k
    refine rt ?_
    simp [go_sem, Try.results88, wants])
  ·intro hc; try simp at hc
   all_goals try (exfalso; first | omega | (simp at hc; done); done)
   all_goals (
    refine AW.skipN (fun _ h => h) ?_
    refine rg [1,6] ?_
    intro k hk; simp -dsimp (maxSteps := 2000000) [go_sem, -decide_eq_true_eq, -decide_eq_false_iff_not, hx, hx0]
    repeat' first | apply And.intro | refine hk _ ?_ | intro hg | (refine CallK.intro (fail) ?_; simp -dsimp (maxSteps := 2000000) [go_sem, -decide_eq_true_eq, -decide_eq_false_iff_not, hx, hx0]) | omega | exact True.intro
    all_goals clear hk k
    refine rg [4] ?_
    intro k hk; simp -dsimp (maxSteps := 2000000) [go_sem, -decide_eq_true_eq, -decide_eq_false_iff_not, hx, hx0]
    repeat' first | apply And.intro | refine hk _ ?_ | intro hg | omega | exact True.intro
    all_goals clear hk k
    refine rt ?_
    simp [go_sem, Try.results88, wants]))

/-- spec.l4Needs -/
theorem dc_spec_l4Needs_s (p : List TStep) (ho : StepsOk p) (i : Nat) (hi : i < p.length) (hi0 : 0 < i) : DC Try.prog 88 [.isl 6 (p.map TStep.ro), .int .i64 (i : Nat)] (.bool (wants p i)) [] := by
 have hlen := ho.len
 obtain ⟨x, hx⟩ := at_some hi
 have hxS := nS_at hx
 have hpi := ho.parI hi0 hi
 rw [hxS] at hpi
 obtain ⟨a, ha⟩ : ∃ a : Nat, x.par = a := ⟨_, (Int.toNat_of_nonneg hpi.1).symm⟩
 obtain ⟨y, hy⟩ := at_some (l := p) (show a < p.length by omega)
 have hyS := nS_at hy
 have hdi : decide ((i : Int) = 0) = false := decide_eq_false (by omega)
 have hdi2 : ((i : Int) = 0) = False := eq_false (by omega)
 have hdj : (i = 0) = False := eq_false (by omega)
 have hkn := ho.kids_ne hi0 hi
 rw [hxS, ha] at hkn
 have hkl := last_at hkn
 have hkm := kids_len p (a : Int)
 have hkp := List.length_pos_iff.2 hkn
 have hwl : IntKind.wrap .i64 (((kids p a).length : Int) - 1) = ((kids p a).length : Int) - 1 := wrap64 (by omega) (by omega)
 have hwt : (((kids p a).length : Int) - 1).toNat = (kids p a).length - 1 := by omega
 refine DC.intro tiOk Try.func88 rfl rfl rfl rfl rfl rfl rfl rfl [] ?_
 refine rg [0,1] ?_
 intro k hk; simp -dsimp [go_sem, -decide_eq_true_eq, -decide_eq_false_iff_not, hx, hy, ha, hdi, hdi2]
 repeat' first | apply And.intro | refine hk _ ?_ | intro hg | omega | exact True.intro
 all_goals clear hk k
 refine rg [0,1,5] ?_
 intro k hk; simp -dsimp [go_sem, -decide_eq_true_eq, -decide_eq_false_iff_not, hx, hy, ha, hdi, hdi2]
 repeat' first | apply And.intro | refine hk _ ?_ | intro hg | omega | exact True.intro
 all_goals clear hk k
 refine AW.seq ?_
 refine rg [0,1,5,21] ?_
 intro k hk; simp +contextual -dsimp (maxSteps := 2000000) [go_sem, -decide_eq_true_eq, -decide_eq_false_iff_not, hx, hy, ha, hdi, hdi2]
 repeat' first | apply And.intro | refine hk _ ?_ | (intro hg; try simp only [decide_eq_true_eq, decide_eq_false_iff_not] at hg) | omega | exact True.intro
 all_goals clear hk k
 all_goals (
  refine AW.cond rfl ?_ ?_
  ·intro hc; try simp at hc
   all_goals try (exfalso; omega; done)
   all_goals (
    refine rg [4] ?_
    intro k hk; simp -dsimp [go_sem, -decide_eq_true_eq, -decide_eq_false_iff_not, hx, hy, ha, hdi, hdi2]
    repeat' first | apply And.intro | refine hk _ ?_ | intro hg | omega | exact True.intro
    all_goals clear hk k
    refine rt ?_
    simp [go_sem, Try.results88, wants, hxS, hyS, ha, hdj, hdi2] <;> grind)
  ·intro hc; try simp at hc
   all_goals try (exfalso; omega; done)
   all_goals (
    refine AW.skipN (fun _ h => h) ?_
    refine rg [1,6] ?_
    intro k hk; simp -dsimp (maxSteps := 2000000) [go_sem, -decide_eq_true_eq, -decide_eq_false_iff_not, hx, hy, ha, hdi, hdi2]
    repeat' first | apply And.intro | refine hk _ ?_ | intro hg | (refine CallK.intro (dc_spec_l4Kids p (a : Int) (by omega) (by rw [ho.par0]; omega)) ?_; simp -dsimp (maxSteps := 2000000) [go_sem, -decide_eq_true_eq, -decide_eq_false_iff_not, hx, hy, ha, hdi, hdi2]) | omega | exact True.intro
    all_goals clear hk k
    refine rg [4] ?_
    intro k hk; simp -dsimp (maxSteps := 2000000) [go_sem, -decide_eq_true_eq, -decide_eq_false_iff_not, hx, hy, ha, hdi, hdi2, hkl, hwl, hwt]
    repeat' first | apply And.intro | refine hk _ ?_ | intro hg | omega | exact True.intro
    all_goals clear hk k
    refine rt ?_
    simp [go_sem, Try.results88, wants, hxS, hyS, ha, hdj, hdi2] <;> grind))
theorem dc_spec_l4Needs (p : List TStep) (ho : StepsOk p) (i : Nat) (hi : i < p.length) : DC Try.prog 88 [.isl 6 (p.map TStep.ro), .int .i64 (i : Nat)] (.bool (wants p i)) [] := by
  rcases Nat.eq_zero_or_pos i with h | h
  · subst h; exact dc_spec_l4Needs_z p ho
  · exact dc_spec_l4Needs_s p ho i hi h

end Go.AM
namespace Go.AM
open Go.Proofs

/-- impl.isTwo -/
theorem dc_impl_isTwo (k : Int) : DC Try.prog 115 [.int .i64 k] (.bool (isTwoB k)) [] := by
 refine DC.intro tiOk Try.func115 rfl rfl rfl rfl rfl rfl rfl rfl [] ?_
 refine rgA [0] ?_
 refine rg [2] ?_
 intro k hk; simp -dsimp (maxSteps := 2000000) [go_sem, -decide_eq_true_eq, -decide_eq_false_iff_not]
 repeat' first | apply And.intro | refine hk _ ?_ | intro hg | (refine CallK.intro (dc_impl_inRange _ _ _) ?_; simp -dsimp (maxSteps := 2000000) [go_sem, -decide_eq_true_eq, -decide_eq_false_iff_not]) | omega | exact True.intro
 all_goals clear hk k
 refine rt ?_
 simp [go_sem, Try.results115, isTwoB]

/-- spec.l3Two -/
theorem dc_spec_l3Two (k : Int) : DC Try.prog 119 [.int .i64 k] (.bool (isTwoB k)) [] := by
 refine DC.intro tiOk Try.func119 rfl rfl rfl rfl rfl rfl rfl rfl [] ?_
 refine rgA [0] ?_
 refine rg [2] ?_
 intro k hk; simp -dsimp (maxSteps := 2000000) [go_sem, -decide_eq_true_eq, -decide_eq_false_iff_not]
 repeat' first | apply And.intro | refine hk _ ?_ | intro hg | (refine CallK.intro (dc_spec_l1In _ _ _) ?_; simp -dsimp (maxSteps := 2000000) [go_sem, -decide_eq_true_eq, -decide_eq_false_iff_not]) | omega | exact True.intro
 all_goals clear hk k
 refine rt ?_
 simp [go_sem, Try.results119, isTwoB]

/-- impl.nodeFault -/
theorem dc_impl_nodeFault (n : TNode) (a : Int) (ha : 0 ≤ a ∧ a ≤ 1048576) : DC Try.prog 114 [.agg n.ro, .int .i64 a] (.int .i64 (nodeF n a)) [] := by
 have hw : IntKind.wrap .i64 (a - 1) = a - 1 := wrap64 (by omega) (by omega)
 refine DC.intro tiOk Try.func114 rfl rfl rfl rfl rfl rfl rfl rfl [] ?_
 refine rg [1,2] ?_
 intro k hk; simp -dsimp [go_sem, -decide_eq_true_eq, -decide_eq_false_iff_not, hw]
 repeat' first | apply And.intro | refine hk _ ?_ | intro hg | omega | exact True.intro
 all_goals clear hk k
 refine AW.seq ?_
 refine AW.block ?_
 refine rg [1,2,6] ?_
 intro k hk; simp +contextual -dsimp (maxSteps := 2000000) [go_sem, -decide_eq_true_eq, -decide_eq_false_iff_not, hw]
 repeat' first | apply And.intro | refine hk _ ?_ | (intro hg; try simp only [decide_eq_true_eq, decide_eq_false_iff_not] at hg) | omega | exact True.intro
 all_goals clear hk k
 all_goals (
  refine AW.cond rfl ?_ ?_
  ·intro hc; try simp at hc
   all_goals try (exfalso; omega; done)
   all_goals (
    refine rg [2,5] ?_
    intro k hk; simp -dsimp [go_sem, -decide_eq_true_eq, -decide_eq_false_iff_not, hw]
    repeat' first | apply And.intro | refine hk _ ?_ | intro hg | omega | exact True.intro
    all_goals clear hk k
    refine AW.seq ?_
    refine rg [2,5,17] ?_
    intro k hk; simp -dsimp [go_sem, -decide_eq_true_eq, -decide_eq_false_iff_not, hw]
    repeat' first | apply And.intro | refine hk _ ?_ | intro hg | omega | exact True.intro
    all_goals clear hk k
    refine AW.cond rfl ?_ ?_
    ·intro hc; try simp at hc
     all_goals try (exfalso; omega; done)
     all_goals (
      refine rgN [2,5] (fun _ h => h) ?_
      intro k hk; simp -dsimp [go_sem, -decide_eq_true_eq, -decide_eq_false_iff_not, hw]
      repeat' first | apply And.intro | refine hk _ ?_ | intro hg | omega | exact True.intro
      all_goals clear hk k
      refine rg [4] ?_
      intro k hk; simp +contextual -dsimp (maxSteps := 2000000) [go_sem, -decide_eq_true_eq, -decide_eq_false_iff_not, hw]
      repeat' first | (refine Chk.keys ?_; simp only [go_sem, List.map_cons, List.map_nil, List.flatMap_cons, List.flatMap_nil, List.flatMap_append, List.append_nil, List.nil_append, List.cons_append]; decide +kernel) | apply And.intro | refine hk _ ?_ | (intro hg; try simp only [decide_eq_true_eq, decide_eq_false_iff_not] at hg) | ((first | refine CallK.intro (dc_impl_codeIf _ _) ?_ | refine CallK.intro (dc_impl_inRange _ _ _) ?_ | refine CallK.intro (dc_impl_firstCode [_, _] (by simp)) ?_ | refine CallK.intro (dc_impl_firstCode [_, _, _] (by simp)) ?_ | refine CallK.intro (dc_impl_firstCode [_, _, _, _] (by simp)) ?_); simp +contextual -dsimp (maxSteps := 2000000) [go_sem, -decide_eq_true_eq, -decide_eq_false_iff_not, hw]) | omega | exact True.intro
      all_goals clear hk k
      all_goals (
       refine rt ?_
       simp [go_sem, Try.results114, nodeF, firstC_cons, firstC_nil, inR, isTwoB] at * <;> grind))
    ·intro hc; try simp at hc
     all_goals try (exfalso; omega; done)
     all_goals (
      refine AW.skipN (fun _ h => h) ?_
      refine rg [4] ?_
      intro k hk; simp +contextual -dsimp (maxSteps := 2000000) [go_sem, -decide_eq_true_eq, -decide_eq_false_iff_not, hw]
      repeat' first | (refine Chk.keys ?_; simp only [go_sem, List.map_cons, List.map_nil, List.flatMap_cons, List.flatMap_nil, List.flatMap_append, List.append_nil, List.nil_append, List.cons_append]; decide +kernel) | apply And.intro | refine hk _ ?_ | (intro hg; try simp only [decide_eq_true_eq, decide_eq_false_iff_not] at hg) | ((first | refine CallK.intro (dc_impl_codeIf _ _) ?_ | refine CallK.intro (dc_impl_inRange _ _ _) ?_ | refine CallK.intro (dc_impl_firstCode [_, _] (by simp)) ?_ | refine CallK.intro (dc_impl_firstCode [_, _, _] (by simp)) ?_ | refine CallK.intro (dc_impl_firstCode [_, _, _, _] (by simp)) ?_); simp +contextual -dsimp (maxSteps := 2000000) [go_sem, -decide_eq_true_eq, -decide_eq_false_iff_not, hw]) | omega | exact True.intro
      all_goals clear hk k
      all_goals (
       refine rt ?_
       simp [go_sem, Try.results114, nodeF, firstC_cons, firstC_nil, inR, isTwoB] at * <;> grind)))
  ·intro hc; try simp at hc
   all_goals try (exfalso; omega; done)
   all_goals (
    refine rg [1,2,35] ?_
    intro k hk; simp -dsimp [go_sem, -decide_eq_true_eq, -decide_eq_false_iff_not, hw]
    repeat' first | apply And.intro | refine hk _ ?_ | intro hg | omega | exact True.intro
    all_goals clear hk k
    refine AW.cond rfl ?_ ?_
    ·intro hc; try simp at hc
     all_goals try (exfalso; omega; done)
     all_goals (
      refine rg [4] ?_
      intro k hk; simp +contextual -dsimp (maxSteps := 2000000) [go_sem, -decide_eq_true_eq, -decide_eq_false_iff_not, hw]
      repeat' first | (refine Chk.keys ?_; simp only [go_sem, List.map_cons, List.map_nil, List.flatMap_cons, List.flatMap_nil, List.flatMap_append, List.append_nil, List.nil_append, List.cons_append]; decide +kernel) | apply And.intro | refine hk _ ?_ | (intro hg; try simp only [decide_eq_true_eq, decide_eq_false_iff_not] at hg) | ((first | refine CallK.intro (dc_impl_codeIf _ _) ?_ | refine CallK.intro (dc_impl_inRange _ _ _) ?_ | refine CallK.intro (dc_impl_firstCode [_, _] (by simp)) ?_ | refine CallK.intro (dc_impl_firstCode [_, _, _] (by simp)) ?_ | refine CallK.intro (dc_impl_firstCode [_, _, _, _] (by simp)) ?_); simp +contextual -dsimp (maxSteps := 2000000) [go_sem, -decide_eq_true_eq, -decide_eq_false_iff_not, hw]) | omega | exact True.intro
      all_goals clear hk k
      all_goals (
       refine rt ?_
       simp [go_sem, Try.results114, nodeF, firstC_cons, firstC_nil, inR, isTwoB] at * <;> grind))
    ·intro hc; try simp at hc
     all_goals try (exfalso; omega; done)
     all_goals (
      refine rg [1,2,57] ?_
      intro k hk; simp -dsimp (maxSteps := 2000000) [go_sem, -decide_eq_true_eq, -decide_eq_false_iff_not, hw]
      repeat' first | apply And.intro | refine hk _ ?_ | intro hg | (refine CallK.intro (dc_impl_isTwo _) ?_; simp -dsimp (maxSteps := 2000000) [go_sem, -decide_eq_true_eq, -decide_eq_false_iff_not, hw]) | omega | exact True.intro
      all_goals clear hk k
      refine AW.cond rfl ?_ ?_
      ·intro hc; try simp at hc
       all_goals try (exfalso; omega; done)
       all_goals (
        refine rg [4] ?_
        intro k hk; simp +contextual -dsimp (maxSteps := 2000000) [go_sem, -decide_eq_true_eq, -decide_eq_false_iff_not, hw]
        repeat' first | (refine Chk.keys ?_; simp only [go_sem, List.map_cons, List.map_nil, List.flatMap_cons, List.flatMap_nil, List.flatMap_append, List.append_nil, List.nil_append, List.cons_append]; decide +kernel) | apply And.intro | refine hk _ ?_ | (intro hg; try simp only [decide_eq_true_eq, decide_eq_false_iff_not] at hg) | ((first | refine CallK.intro (dc_impl_codeIf _ _) ?_ | refine CallK.intro (dc_impl_inRange _ _ _) ?_ | refine CallK.intro (dc_impl_firstCode [_, _] (by simp)) ?_ | refine CallK.intro (dc_impl_firstCode [_, _, _] (by simp)) ?_ | refine CallK.intro (dc_impl_firstCode [_, _, _, _] (by simp)) ?_); simp +contextual -dsimp (maxSteps := 2000000) [go_sem, -decide_eq_true_eq, -decide_eq_false_iff_not, hw]) | omega | exact True.intro
        all_goals clear hk k
        all_goals (
         refine rt ?_
         simp [go_sem, Try.results114, nodeF, firstC_cons, firstC_nil, inR, isTwoB] at * <;> grind))
      ·intro hc; try simp at hc
       all_goals try (exfalso; omega; done)
       all_goals (
        refine AW.skipN (fun _ h => h) ?_
        refine rg [4] ?_
        intro k hk; simp -dsimp [go_sem, -decide_eq_true_eq, -decide_eq_false_iff_not, hw]
        repeat' first | apply And.intro | refine hk _ ?_ | intro hg | omega | exact True.intro
        all_goals clear hk k
        refine rt ?_
        simp [go_sem, Try.results114, nodeF, firstC_cons, firstC_nil, inR, isTwoB] at * <;> grind))))

set_option maxHeartbeats 2000000 in
/-- spec.l3Node -/
theorem dc_spec_l3Node (n : TNode) (a : Int) (ha : 0 ≤ a ∧ a ≤ 1048576) : DC Try.prog 109 [.ip n.ro, .int .i64 a] (.int .i64 (nodeF n a)) [] := by
 have hw : IntKind.wrap .i64 (a - 1) = a - 1 := wrap64 (by omega) (by omega)
 refine DC.intro tiOk Try.func109 rfl rfl rfl rfl rfl rfl rfl rfl [] ?_
 refine rg [0,1] ?_
 intro k hk; simp -dsimp [go_sem, -decide_eq_true_eq, -decide_eq_false_iff_not, hw]
 repeat' first | apply And.intro | refine hk _ ?_ | intro hg | omega | exact True.intro
 all_goals clear hk k
 refine AW.seq ?_
 refine rg [0,1,11] ?_
 intro k hk; simp -dsimp (maxSteps := 2000000) [go_sem, -decide_eq_true_eq, -decide_eq_false_iff_not, hw]
 repeat' first | apply And.intro | refine hk _ ?_ | intro hg | (refine CallK.intro (dc_spec_l1In _ _ _) ?_; simp -dsimp (maxSteps := 2000000) [go_sem, -decide_eq_true_eq, -decide_eq_false_iff_not, hw]) | omega | exact True.intro
 all_goals clear hk k
 refine AW.cond rfl ?_ ?_
 ·intro hc; try simp at hc
  all_goals try (exfalso; omega; done)
  all_goals (
   refine rg [4] ?_
   intro k hk; simp -dsimp [go_sem, -decide_eq_true_eq, -decide_eq_false_iff_not, hw]
   repeat' first | apply And.intro | refine hk _ ?_ | intro hg | omega | exact True.intro
   all_goals clear hk k
   refine rt ?_
   simp [go_sem, Try.results109, nodeF, firstC_cons, firstC_nil, inR, isTwoB] at * <;> grind)
 ·intro hc; try simp at hc
  all_goals try (exfalso; omega; done)
  all_goals (
   refine AW.skipN (fun _ h => h) ?_
   refine rg [0,1,5] ?_
   intro k hk; simp -dsimp [go_sem, -decide_eq_true_eq, -decide_eq_false_iff_not, hw]
   repeat' first | apply And.intro | refine hk _ ?_ | intro hg | omega | exact True.intro
   all_goals clear hk k
   refine AW.seq ?_
   refine AW.cut ⟨114, [(0, .ip n.ro), (1, .int .i64 a), (5, .bool (decide (n.kind ≤ 2))), (56, .bool (decide ((n.kind ≤ 2 ∧ (n.left ≠ 0 ∨ n.right ≠ 0)) ∨ (2 < n.kind ∧ n.val ≠ 0) ∨ (n.kind = 10 ∧ n.right ≠ 0))))], []⟩ ?_ ?_
   ·skip
    refine rgK ?_
    intro k hk; simp +contextual -dsimp (maxSteps := 2000000) [go_sem, -decide_eq_true_eq, -decide_eq_false_iff_not, hw]
    repeat' first | apply And.intro | refine hk _ ?_ | (intro hg; try simp only [decide_eq_true_eq, decide_eq_false_iff_not] at hg) | omega | exact True.intro
    all_goals clear hk k
    all_goals (show St.Less _ _; exact Less.of rfl (by simp [go_sem] <;> first | omega | grind) (by simp [go_sem]))
   ·skip
    refine AW.cond rfl ?_ ?_
    ·intro hc; try simp at hc
     all_goals try (exfalso; omega; done)
     all_goals (
      refine rg [4] ?_
      intro k hk; simp -dsimp [go_sem, -decide_eq_true_eq, -decide_eq_false_iff_not, hw]
      repeat' first | apply And.intro | refine hk _ ?_ | intro hg | omega | exact True.intro
      all_goals clear hk k
      refine rt ?_
      simp [go_sem, Try.results109, nodeF, firstC_cons, firstC_nil, inR, isTwoB] at * <;> grind)
    ·intro hc; try simp at hc
     all_goals try (exfalso; omega; done)
     all_goals (
      refine AW.skipN (fun _ h => h) ?_
      refine AW.seq ?_
      refine AW.cut ⟨114, [(0, .ip n.ro), (1, .int .i64 a), (5, .bool (decide (n.kind ≤ 2))), (84, .bool (decide ((n.kind = 1 ∧ (n.val < 0 ∨ 9999 < n.val)) ∨ (n.kind = 2 ∧ (n.val < 0 ∨ 3 < n.val)))))], []⟩ ?_ ?_
      ·skip
       refine rgK ?_
       intro k hk; simp +contextual -dsimp (maxSteps := 2000000) [go_sem, -decide_eq_true_eq, -decide_eq_false_iff_not, hw]
       repeat' first | apply And.intro | refine hk _ ?_ | (intro hg; try simp only [decide_eq_true_eq, decide_eq_false_iff_not] at hg) | (refine CallK.intro (dc_spec_l1In _ _ _) ?_; simp +contextual -dsimp (maxSteps := 2000000) [go_sem, -decide_eq_true_eq, -decide_eq_false_iff_not, hw]) | omega | exact True.intro
       all_goals clear hk k
       all_goals (show St.Less _ _; exact Less.of rfl (by simp [go_sem, inR] <;> first | omega | grind [inR]) (by simp [go_sem]))
      ·skip
       refine AW.cond rfl ?_ ?_
       ·intro hc; try simp at hc
        all_goals try (exfalso; omega; done)
        all_goals (
         refine rg [4] ?_
         intro k hk; simp -dsimp [go_sem, -decide_eq_true_eq, -decide_eq_false_iff_not, hw]
         repeat' first | apply And.intro | refine hk _ ?_ | intro hg | omega | exact True.intro
         all_goals clear hk k
         refine rt ?_
         simp [go_sem, Try.results109, nodeF, firstC_cons, firstC_nil, inR, isTwoB] at * <;> grind)
       ·intro hc; try simp at hc
        all_goals try (exfalso; omega; done)
        all_goals (
         refine AW.skipN (fun _ h => h) ?_
         refine AW.seq ?_
         refine rg [113] ?_
         intro k hk; simp +contextual -dsimp (maxSteps := 2000000) [go_sem, -decide_eq_true_eq, -decide_eq_false_iff_not, hw]
         repeat' first | apply And.intro | refine hk _ ?_ | (intro hg; try simp only [decide_eq_true_eq, decide_eq_false_iff_not] at hg) | ((first | refine CallK.intro (dc_spec_l1In _ _ _) ?_ | refine CallK.intro (dc_spec_l3Two _) ?_); simp +contextual -dsimp (maxSteps := 2000000) [go_sem, -decide_eq_true_eq, -decide_eq_false_iff_not, hw]) | omega | exact True.intro
         all_goals clear hk k
         all_goals (
          refine AW.cond rfl ?_ ?_
          ·intro hc; try simp at hc
           all_goals try (exfalso; omega; done)
           all_goals (
            refine rg [4] ?_
            intro k hk; simp -dsimp [go_sem, -decide_eq_true_eq, -decide_eq_false_iff_not, hw]
            repeat' first | apply And.intro | refine hk _ ?_ | intro hg | omega | exact True.intro
            all_goals clear hk k
            refine rt ?_
            simp [go_sem, Try.results109, nodeF, firstC_cons, firstC_nil, inR, isTwoB] at * <;> grind)
          ·intro hc; try simp at hc
           all_goals try (exfalso; omega; done)
           all_goals (
            refine AW.skipN (fun _ h => h) ?_
            refine rg [4] ?_
            intro k hk; simp -dsimp [go_sem, -decide_eq_true_eq, -decide_eq_false_iff_not, hw]
            repeat' first | apply And.intro | refine hk _ ?_ | intro hg | omega | exact True.intro
            all_goals clear hk k
            refine rt ?_
            simp [go_sem, Try.results109, nodeF, firstC_cons, firstC_nil, inR, isTwoB] at * <;> grind)))))

end Go.AM
namespace Go.AM
open Go.Proofs

/-- impl.ExprFault -/
theorem dc_impl_ExprFault (e : List TNode) (he : e.length ≤ 9223372036854775807) : DC Try.prog 95 [.isl 4 (e.map TNode.ro)] (.int .i64 (exprF e)) [] := by
 refine DC.intro tiOk Try.func95 rfl rfl rfl rfl rfl rfl rfl rfl [] ?_
 refine rgA [0] ?_
 refine AW.seq ?_
 refine rg [0,15] ?_
 intro k hk; simp -dsimp (maxSteps := 2000000) [go_sem, -decide_eq_true_eq, -decide_eq_false_iff_not]
 repeat' first | apply And.intro | refine hk _ ?_ | intro hg | (refine CallK.intro (dc_impl_inRange _ _ _) ?_; simp -dsimp (maxSteps := 2000000) [go_sem, -decide_eq_true_eq, -decide_eq_false_iff_not]) | omega | exact True.intro
 all_goals clear hk k
 refine AW.cond rfl ?_ ?_
 ·intro hc; try simp at hc
  all_goals (
   refine rgA [2] ?_
   refine rt ?_
   first | (rw [exprF_len (by simpa using hc)]; simp [go_sem, Try.results95]; done) | (rw [exprF_node hR hlt hall (by rw [hxn]; assumption), hxn]; simp [go_sem, Try.results95]; done) | (rw [exprF_end hR hN]; simp [go_sem, Try.results95] <;> grind))
 ·intro hc; try simp at hc
  all_goals (
   refine AW.skipN (fun _ h => h) ?_
   refine AW.seq ?_
   have hR : inR e.length 1 16 = true := by simpa using hc
   have hlen := inR_iff.1 hR
   refine rgA [0,16,17,18] ?_
   refine AW.block ?_
   refine AW.loopI (fun i : Nat => ⟨112, [(0, .isl 4 (e.map TNode.ro)), (16, .isl 4 (e.map TNode.ro)), (17, .int .i64 e.length), (18, .int .i64 i)], []⟩) (fun i => i ≤ e.length ∧ ∀ k, k < i → nodeAt e k = 0) (fun i => e.length - i) (0) (by simp) (Less.of rfl (by simp [go_sem]) (by simp [go_sem])) ?_
   rintro i ⟨hi, hall⟩
   refine rgA [0,16,17,18,19] ?_
   refine AW.seq ?_
   refine AW.cond rfl ?_ ?_
   ·intro hc; try simp at hc
    all_goals (
     have hlt : i < e.length := by assumption
     obtain ⟨x, hx⟩ := at_some hlt
     have hxn := nodeAt_at hx
     refine AW.skipN (fun _ h => h) ?_
     refine AW.seq ?_
     refine AW.block ?_
     refine rg [0,3,4,16,17,18] ?_
     intro k hk; simp -dsimp [go_sem, -decide_eq_true_eq, -decide_eq_false_iff_not, hx]
     repeat' first | apply And.intro | refine hk _ ?_ | intro hg | omega | exact True.intro
     all_goals clear hk k
     refine rg [0,5,16,17,18] ?_
     intro k hk; simp -dsimp (maxSteps := 2000000) [go_sem, -decide_eq_true_eq, -decide_eq_false_iff_not, hx]
     repeat' first | apply And.intro | refine hk _ ?_ | intro hg | (refine CallK.intro (dc_impl_nodeFault x i (by omega)) ?_; simp -dsimp (maxSteps := 2000000) [go_sem, -decide_eq_true_eq, -decide_eq_false_iff_not, hx]) | omega | exact True.intro
     all_goals clear hk k
     refine rg [0,5,16,17,18,27] ?_
     intro k hk; simp -dsimp [go_sem, -decide_eq_true_eq, -decide_eq_false_iff_not, hx]
     repeat' first | apply And.intro | refine hk _ ?_ | intro hg | omega | exact True.intro
     all_goals clear hk k
     refine AW.cond rfl ?_ ?_
     ·intro hc; try simp at hc
      all_goals (
       refine rg [2] ?_
       intro k hk; simp -dsimp [go_sem, -decide_eq_true_eq, -decide_eq_false_iff_not, hx]
       repeat' first | apply And.intro | refine hk _ ?_ | intro hg | omega | exact True.intro
       all_goals clear hk k
       refine rt ?_
       first | (rw [exprF_len (by simpa using hc)]; simp [go_sem, Try.results95]; done) | (rw [exprF_node hR hlt hall (by rw [hxn]; assumption), hxn]; simp [go_sem, Try.results95]; done) | (rw [exprF_end hR hN]; simp [go_sem, Try.results95] <;> grind))
     ·intro hc; try simp at hc
      all_goals (
       refine AW.skipN (fun _ h => h) ?_
       refine rgK ?_
       intro k hk; simp -dsimp [go_sem, -decide_eq_true_eq, -decide_eq_false_iff_not, hx]
       repeat' first | apply And.intro | refine hk _ ?_ | intro hg | omega | exact True.intro
       all_goals clear hk k
       show ∃ _, _
       have hw := wrapi hlt (by omega)
       refine ⟨i + 1, ⟨by omega, upto hall (by rw [hxn]; first | assumption | simpa using hc)⟩, by omega, Less.of rfl (by simp [go_sem, hw]) (by simp [go_sem])⟩))
   ·intro hc; try simp at hc
    all_goals (
     refine AW.exitN (fun _ h => h) ?_
     have hN : ∀ k, k < e.length → nodeAt e k = 0 := fun k hk => hall k (by omega)
     have hP : PartsOk e e.length := hN
     refine rgA [0,6,7] ?_
     refine AW.seq ?_
     refine rgA [0,6,7,31,32,33] ?_
     refine AW.block ?_
     refine AW.rename (nd := ?nd_1) 30 97 ?h1_1 ?h2_1 ?h4_1 ?kk_1
     (case h1_1 => exact rfl)
     (case h2_1 => simp [go_sem])
     (case h4_1 => simp [go_sem])
     refine AW.loopI (fun i : Nat => ⟨112, [(0, .isl 4 (e.map TNode.ro)), (6, .sl 97 1 0 i), (7, .bool (wrongU e i)), (31, .isl 4 (e.map TNode.ro)), (32, .int .i64 e.length), (33, .int .i64 i)], [(97, some ⟨1, (sizesL e i).map I1⟩)]⟩) (fun i => i ≤ e.length) (fun i => e.length - i) (0) (by simp) (Less.of rfl (by simp [go_sem, wrongU]) (by simp [go_sem, sizesL])) ?_
     rintro i hi
     refine AW.rename (nd := ?nd_2) 97 30 ?h1_2 ?h2_2 ?h4_2 ?kk_2
     (case h1_2 => exact rfl)
     (case h2_2 => simp [go_sem])
     (case h4_2 => simp [go_sem])
     refine rgA [0,6,7,31,32,33,34] ?_
     refine AW.seq ?_
     refine AW.cond rfl ?_ ?_
     ·intro hc; try simp at hc
      all_goals (
       have hlt : i < e.length := by assumption
       obtain ⟨x, hx⟩ := at_some hlt
       have hxn := nodeAt_at hx
       have hpx := hN i hlt
       rw [hxn] at hpx
       have hq := nodeF_parts hpx
       have hsl := sizesL_len e i
       have htk : List.take i ((sizesL e i).map I1) = (sizesL e i).map I1 := List.take_of_length_le (by simp [hsl])
       have hszA := szA_at hx hpx
       have hwrA := wrongU_at hx
       have hsbi := sz_bd hP hlt (by omega)
       have hwi : IntKind.wrap .i64 ((i : Int) - 1) = (i : Int) - 1 := wrap64 (by omega) (by omega)
       refine AW.skipN (fun _ h => h) ?_
       refine AW.seq ?_
       refine AW.block ?_
       refine rg [0,6,7,8,9,31,32,33] ?_
       intro k hk; simp -dsimp [go_sem, -decide_eq_true_eq, -decide_eq_false_iff_not, hx, hwi, hsl]
       repeat' first | apply And.intro | refine hk _ ?_ | intro hg | omega | exact True.intro
       all_goals clear hk k
       refine rg [0,6,7,9,10,11,31,32,33] ?_
       intro k hk; simp -dsimp [go_sem, -decide_eq_true_eq, -decide_eq_false_iff_not, hx, hwi, hsl]
       repeat' first | apply And.intro | refine hk _ ?_ | intro hg | omega | exact True.intro
       all_goals clear hk k
       refine AW.seq ?_
       refine AW.block ?_
       refine rg [0,6,7,9,10,11,31,32,33,40] ?_
       intro k hk; simp -dsimp [go_sem, -decide_eq_true_eq, -decide_eq_false_iff_not, hx, hwi, hsl]
       repeat' first | apply And.intro | refine hk _ ?_ | intro hg | omega | exact True.intro
       all_goals clear hk k
       refine AW.cond rfl ?_ ?_
       ·intro hc; try simp at hc
        all_goals (
         have hk : x.kind = 10 := by simpa using hc
         have hl := hq.1 hk
         have hsA := sizesL_at (e := e) hl.2
         have hsb := sz_bd hP (i := x.left.toNat) (by omega) (by omega)
         have hw1 : IntKind.wrap .i64 (1 + szA e x.left.toNat) = 1 + szA e x.left.toNat := wrap64 (by omega) (by omega)
         refine rg [0,6,7,9,11,31,32,33] ?_
         intro k hk; simp +contextual -dsimp (maxSteps := 2000000) [go_sem, -decide_eq_true_eq, -decide_eq_false_iff_not, hx, hwi, hsl, hsA]
         repeat' first | apply And.intro | refine hk _ ?_ | (intro hg; try simp only [decide_eq_true_eq, decide_eq_false_iff_not] at hg) | omega | exact True.intro
         all_goals clear hk k
         all_goals (
          refine rgN [0,6,7,11,31,32,33] (fun _ h => h) ?_
          intro k hk; simp -dsimp (maxSteps := 2000000) [go_sem, -decide_eq_true_eq, -decide_eq_false_iff_not, hx, hwi, hsl, hsA, hw1]
          repeat' first | apply And.intro | refine hk _ ?_ | intro hg | omega | exact True.intro
          all_goals clear hk k
          refine rgN [0,6,7,31,32,33] (fun _ h => h) ?_
          intro k hk; simp -dsimp [go_sem, -decide_eq_true_eq, -decide_eq_false_iff_not, hx, hwi, hsl]
          repeat' first | apply And.intro | refine hk _ ?_ | intro hg | omega | exact True.intro
          all_goals clear hk k
          refine rgK ?_
          intro k hk; simp -dsimp [go_sem, -decide_eq_true_eq, -decide_eq_false_iff_not, hx, hwi, hsl]
          repeat' first | apply And.intro | refine hk _ ?_ | intro hg | omega | exact True.intro
          all_goals clear hk k
          show ∃ _, _
          have hw := wrapi hlt (by omega)
          refine ⟨i + 1, by omega, by omega, Less.of rfl (by simp [go_sem, hw, hwrA, *]) (by simp [go_sem, sizesL_succ, hszA, *])⟩))
       ·intro hc; try simp at hc
        all_goals (
         refine rg [0,6,7,9,10,11,31,32,33,58] ?_
         intro k hk; simp -dsimp (maxSteps := 2000000) [go_sem, -decide_eq_true_eq, -decide_eq_false_iff_not, hx, hwi, hsl]
         repeat' first | apply And.intro | refine hk _ ?_ | intro hg | (refine CallK.intro (dc_impl_isTwo _) ?_; simp -dsimp (maxSteps := 2000000) [go_sem, -decide_eq_true_eq, -decide_eq_false_iff_not, hx, hwi, hsl]) | omega | exact True.intro
         all_goals clear hk k
         refine AW.cond rfl ?_ ?_
         ·intro hc; try simp at hc
          all_goals (
           have hk : isTwoB x.kind = true := by simpa using hc
           have hl := hq.2.1 hk
           have hsA := sizesL_at (e := e) hl.2.1
           have hsB := sizesL_at (e := e) hl.2.2.2
           have hsb := sz_bd hP (i := x.left.toNat) (by omega) (by omega)
           have hsb2 := sz_bd hP (i := x.right.toNat) (by omega) (by omega)
           have hw1 : IntKind.wrap .i64 (szA e x.left.toNat + szA e x.right.toNat) = szA e x.left.toNat + szA e x.right.toNat := wrap64 (by omega) (by omega)
           have hw2 : IntKind.wrap .i64 (1 + (szA e x.left.toNat + szA e x.right.toNat)) = 1 + (szA e x.left.toNat + szA e x.right.toNat) := wrap64 (by omega) (by omega)
           have hw3 : IntKind.wrap .i64 ((i : Int) - 1 - szA e x.right.toNat) = (i : Int) - 1 - szA e x.right.toNat := wrap64 (by omega) (by omega)
           refine rg [0,6,7,9,11,31,32,33] ?_
           intro k hk; simp +contextual -dsimp (maxSteps := 2000000) [go_sem, -decide_eq_true_eq, -decide_eq_false_iff_not, hx, hwi, hsl, hsA, hsB, hw3]
           repeat' first | (refine Chk.keys ?_; simp only [go_sem, List.map_cons, List.map_nil, List.flatMap_cons, List.flatMap_nil, List.flatMap_append, List.append_nil, List.nil_append, List.cons_append]; decide +kernel) | apply And.intro | refine hk _ ?_ | (intro hg; try simp only [decide_eq_true_eq, decide_eq_false_iff_not] at hg) | omega | exact True.intro
           all_goals clear hk k
           all_goals (
            refine rgN [0,6,7,11,31,32,33] (fun _ h => h) ?_
            intro k hk; simp -dsimp (maxSteps := 2000000) [go_sem, -decide_eq_true_eq, -decide_eq_false_iff_not, hx, hwi, hsl, hsA, hsB, hw1, hw2]
            repeat' first | (refine Chk.keys ?_; simp only [go_sem, List.map_cons, List.map_nil, List.flatMap_cons, List.flatMap_nil, List.flatMap_append, List.append_nil, List.nil_append, List.cons_append]; decide +kernel) | apply And.intro | refine hk _ ?_ | intro hg | omega | exact True.intro
            all_goals clear hk k
            refine rgN [0,6,7,31,32,33] (fun _ h => h) ?_
            intro k hk; simp -dsimp [go_sem, -decide_eq_true_eq, -decide_eq_false_iff_not, hx, hwi, hsl]
            repeat' first | apply And.intro | refine hk _ ?_ | intro hg | omega | exact True.intro
            all_goals clear hk k
            refine rgK ?_
            intro k hk; simp -dsimp [go_sem, -decide_eq_true_eq, -decide_eq_false_iff_not, hx, hwi, hsl]
            repeat' first | apply And.intro | refine hk _ ?_ | intro hg | omega | exact True.intro
            all_goals clear hk k
            show ∃ _, _
            have hw := wrapi hlt (by omega)
            refine ⟨i + 1, by omega, by omega, Less.of rfl (by simp [go_sem, hw, hwrA, *]) (by simp [go_sem, sizesL_succ, hszA, *])⟩))
         ·intro hc; try simp at hc
          all_goals (
           refine AW.skipN (fun _ h => h) ?_
           refine rgN [0,6,7,31,32,33] (fun _ h => h) ?_
           intro k hk; simp -dsimp [go_sem, -decide_eq_true_eq, -decide_eq_false_iff_not, hx, hwi, hsl]
           repeat' first | apply And.intro | refine hk _ ?_ | intro hg | omega | exact True.intro
           all_goals clear hk k
           refine rgK ?_
           intro k hk; simp -dsimp [go_sem, -decide_eq_true_eq, -decide_eq_false_iff_not, hx, hwi, hsl]
           repeat' first | apply And.intro | refine hk _ ?_ | intro hg | omega | exact True.intro
           all_goals clear hk k
           show ∃ _, _
           have hw := wrapi hlt (by omega)
           refine ⟨i + 1, by omega, by omega, Less.of rfl (by simp [go_sem, hw, hwrA, *]) (by simp [go_sem, sizesL_succ, hszA, *])⟩)))
     ·intro hc; try simp at hc
      all_goals (
       refine AW.exitN (fun _ h => h) ?_
       have hie : i = e.length := by omega
       subst hie
       have hsl := sizesL_len e e.length
       have hlast := sizesL_at (e := e) (show e.length - 1 < e.length by omega)
       have hwl : IntKind.wrap .i64 ((e.length : Int) - 1) = (e.length : Int) - 1 := wrap64 (by omega) (by omega)
       have hwt : ((e.length : Int) - 1).toNat = e.length - 1 := by omega
       refine rg [2] ?_
       intro k hk; simp +contextual -dsimp (maxSteps := 2000000) [go_sem, -decide_eq_true_eq, -decide_eq_false_iff_not, hwl, hwt, hlast, hsl]
       repeat' first | apply And.intro | refine hk _ ?_ | (intro hg; try simp only [decide_eq_true_eq, decide_eq_false_iff_not] at hg) | (refine CallK.intro (dc_impl_codeIf _ _) ?_; simp +contextual -dsimp (maxSteps := 2000000) [go_sem, -decide_eq_true_eq, -decide_eq_false_iff_not, hwl, hwt, hlast, hsl]) | omega | exact True.intro
       all_goals clear hk k
       all_goals (
        refine rt ?_
        first | (rw [exprF_len (by simpa using hc)]; simp [go_sem, Try.results95]; done) | (rw [exprF_node hR hlt hall (by rw [hxn]; assumption), hxn]; simp [go_sem, Try.results95]; done) | (rw [exprF_end hR hN]; simp [go_sem, Try.results95] <;> grind)))))

end Go.AM
namespace Go.AM
open Go.Proofs

/-- impl.partType -/
theorem dc_impl_partType (k : Int) : DC Try.prog 116 [.int .i64 k] (.tup [.int .i64 (partT k), .int .i64 (ownT k)]) [] := by
 refine DC.intro tiOk Try.func116 rfl rfl rfl rfl rfl rfl rfl rfl [] ?_
 refine rgA [0] ?_
 refine AW.seq ?_
 refine AW.block ?_
 refine rgA [0,4] ?_
 refine AW.cond rfl ?_ ?_
 ·intro hc; try simp at hc
  all_goals (
   refine rgA [2,3] ?_
   refine rt ?_
   simp [go_sem, Try.results116, partT, ownT] <;> grind)
 ·intro hc; try simp at hc
  all_goals (
   refine rgA [7] ?_
   refine AW.cond rfl ?_ ?_
   ·intro hc; try simp at hc
    all_goals (
     refine rgA [2,3] ?_
     refine rt ?_
     simp [go_sem, Try.results116, partT, ownT] <;> grind)
   ·intro hc; try simp at hc
    all_goals (
     refine AW.skipN (fun _ h => h) ?_
     refine rgA [2,3] ?_
     refine rt ?_
     simp [go_sem, Try.results116, partT, ownT] <;> grind))

/-- impl.TypeOf -/
theorem dc_impl_TypeOf (e : List TNode) (he : e.length ≤ 9223372036854775807) : DC Try.prog 98 [.isl 4 (e.map TNode.ro)] (.agg [.int .i64 (typC e), .int .i64 (typV e)]) [] := by
 refine DC.intro tiOk Try.func98 rfl rfl rfl rfl rfl rfl rfl rfl [] ?_
 refine rg [0,2] ?_
 intro k hk; simp -dsimp [go_sem, -decide_eq_true_eq, -decide_eq_false_iff_not]
 repeat' first | apply And.intro | refine hk _ ?_ | intro hg | omega | exact True.intro | (have h9 := hr (by assumption); omega) | fail
 all_goals clear hk k
 refine AW.seq ?_
 refine rg [0,2,3] ?_
 intro k hk; simp -dsimp (maxSteps := 2000000) [go_sem, -decide_eq_true_eq, -decide_eq_false_iff_not]
 repeat' first | apply And.intro | refine hk _ ?_ | intro hg | (refine CallK.intro (dc_impl_ExprFault e he) ?_; simp -dsimp (maxSteps := 2000000) [go_sem, -decide_eq_true_eq, -decide_eq_false_iff_not]) | omega | exact True.intro | (have h9 := hr (by assumption); omega) | fail
 all_goals clear hk k
 refine rg [0,2,3,12] ?_
 intro k hk; simp -dsimp [go_sem, -decide_eq_true_eq, -decide_eq_false_iff_not]
 repeat' first | apply And.intro | refine hk _ ?_ | intro hg | omega | exact True.intro | (have h9 := hr (by assumption); omega) | fail
 all_goals clear hk k
 refine AW.cond rfl ?_ ?_
 ·intro hc; try simp at hc
  all_goals (
   refine rg [2] ?_
   intro k hk; simp -dsimp [go_sem, -decide_eq_true_eq, -decide_eq_false_iff_not]
   repeat' first | apply And.intro | refine hk _ ?_ | intro hg | omega | exact True.intro | (have h9 := hr (by assumption); omega) | fail
   all_goals clear hk k
   refine rt ?_
   first | (obtain ⟨h8, h9⟩ := typC_f (show exprF e ≠ 0 by first | assumption | simpa using hc); simp [go_sem, Try.results98, h8, h9]; done) | (obtain ⟨h8, h9⟩ := typC_b h0 (typU_hit hlt (by first | assumption | simpa using hc)); simp [go_sem, Try.results98, h8, h9]; done) | (obtain ⟨h8, h9⟩ := typC_k h0 hu; simp [go_sem, Try.results98, h8, h9]))
 ·intro hc; try simp at hc
  all_goals (
   refine AW.skipN (fun _ h => h) ?_
   have h0 : exprF e = 0 := by simpa using hc
   obtain ⟨hR, hP⟩ := exprF_zero h0
   have hlen := inR_iff.1 hR
   refine rg [0,2,4] ?_
   intro k hk; simp -dsimp [go_sem, -decide_eq_true_eq, -decide_eq_false_iff_not]
   repeat' first | apply And.intro | refine hk _ ?_ | intro hg | omega | exact True.intro | (have h9 := hr (by assumption); omega) | fail
   all_goals clear hk k
   refine AW.seq ?_
   refine rg [2,4,16,17,18] ?_
   intro k hk; simp -dsimp [go_sem, -decide_eq_true_eq, -decide_eq_false_iff_not]
   repeat' first | apply And.intro | refine hk _ ?_ | intro hg | omega | exact True.intro | (have h9 := hr (by assumption); omega) | fail
   all_goals clear hk k
   refine AW.block ?_
   refine AW.rename (nd := ?nd_1) 15 58 ?h1_1 ?h2_1 ?h4_1 ?kk_1
   (case h1_1 => exact rfl)
   (case h2_1 => simp [go_sem])
   (case h4_1 => simp [go_sem])
   refine AW.loopI (fun i : Nat => ⟨67, [(2, .ptr 2 2 0 0), (4, .sl 58 1 0 i), (16, .isl 4 (e.map TNode.ro)), (17, .int .i64 e.length), (18, .int .i64 i)], [(2, some ⟨2, [[.int .i64 0, .int .i64 0]]⟩), (58, some ⟨1, (typesL e i).map I1⟩)]⟩) (fun i => i ≤ e.length ∧ typU e i = false) (fun i => e.length - i) (0) (by simp [typU]) (Less.of rfl (by simp [go_sem]) (by simp [go_sem, typesL])) ?_
   rintro i ⟨hi, hu⟩
   refine AW.rename (nd := ?nd_2) 58 15 ?h1_2 ?h2_2 ?h4_2 ?kk_2
   (case h1_2 => exact rfl)
   (case h2_2 => simp [go_sem])
   (case h4_2 => simp [go_sem])
   refine rg [2,4,16,17,18,19] ?_
   intro k hk; simp -dsimp [go_sem, -decide_eq_true_eq, -decide_eq_false_iff_not]
   repeat' first | apply And.intro | refine hk _ ?_ | intro hg | omega | exact True.intro | (have h9 := hr (by assumption); omega) | fail
   all_goals clear hk k
   refine AW.seq ?_
   refine AW.cond rfl ?_ ?_
   ·intro hc; try simp at hc
    all_goals (
     have hlt : i < e.length := by assumption
     obtain ⟨x, hx⟩ := at_some hlt
     have hxA := nA_at hx
     have hpx := hP i hlt
     rw [nodeAt_at hx] at hpx
     have hq := nodeF_parts hpx
     have hl : 2 < x.kind → 0 ≤ x.left ∧ x.left.toNat < i := left_of hpx
     have hr := hq.2.1
     have htl := typesL_len e i
     have htk : List.take i ((typesL e i).map I1) = (typesL e i).map I1 := List.take_of_length_le (by simp [htl])
     have hsA : decide (2 < x.kind) = true → (typesL e i)[x.left.toNat]? = some (ownT (nA e x.left.toNat).kind) := fun h => typesL_at (hl (by simpa using h)).2
     have hsB : isTwoB x.kind = true → (typesL e i)[x.right.toNat]? = some (ownT (nA e x.right.toNat).kind) := fun h => typesL_at (hr h).2.2.2
     refine AW.skipN (fun _ h => h) ?_
     refine AW.seq ?_
     refine AW.block ?_
     refine rg [2,4,6,16,17,18] ?_
     intro k hk; simp -dsimp [go_sem, -decide_eq_true_eq, -decide_eq_false_iff_not, hx, htl, hsA, hsB]
     repeat' first | apply And.intro | refine hk _ ?_ | intro hg | omega | exact True.intro | (have h9 := hr (by assumption); omega) | fail
     all_goals clear hk k
     refine rg [2,4,6,7,8,16,17,18] ?_
     intro k hk; simp -dsimp (maxSteps := 2000000) [go_sem, -decide_eq_true_eq, -decide_eq_false_iff_not, hx, htl, hsA, hsB]
     repeat' first | apply And.intro | refine hk _ ?_ | intro hg | (refine CallK.intro (dc_impl_partType _) ?_; simp -dsimp (maxSteps := 2000000) [go_sem, -decide_eq_true_eq, -decide_eq_false_iff_not, hx, htl, hsA, hsB]) | omega | exact True.intro | (have h9 := hr (by assumption); omega) | fail
     all_goals clear hk k
     refine AW.seq ?_
     refine AW.cut ⟨67, [(2, .ptr 2 2 0 0), (4, .sl 15 1 0 i), (8, .int .i64 (ownT x.kind)), (16, .isl 4 (e.map TNode.ro)), (17, .int .i64 e.length), (18, .int .i64 i), (53, .bool (typBad e i))], [(2, some ⟨2, [[.int .i64 0, .int .i64 0]]⟩), (15, some ⟨1, (typesL e i).map I1⟩)]⟩ ?_ ?_
     ·skip
      refine rgK ?_
      intro k hk; simp +contextual -dsimp (maxSteps := 2000000) [go_sem, -decide_eq_true_eq, -decide_eq_false_iff_not, hx, htl, hsA, hsB]
      repeat' first | apply And.intro | refine hk _ ?_ | (intro hg; try simp only [decide_eq_true_eq, decide_eq_false_iff_not] at hg) | (refine CallK.intro (dc_impl_isTwo _) ?_; simp +contextual -dsimp (maxSteps := 2000000) [go_sem, -decide_eq_true_eq, -decide_eq_false_iff_not, hx, htl, hsA, hsB]) | omega | exact True.intro | (have h9 := hr (by assumption); omega) | fail
      all_goals clear hk k
      all_goals (show St.Less _ _; exact Less.of rfl (by simp [go_sem, typBad, hxA] <;> grind) (by simp [go_sem]))
     ·skip
      refine AW.cond rfl ?_ ?_
      ·intro hc; try simp at hc
       all_goals (
        refine rg [2] ?_
        intro k hk; simp -dsimp [go_sem, -decide_eq_true_eq, -decide_eq_false_iff_not, hx, htl, hsA, hsB]
        repeat' first | apply And.intro | refine hk _ ?_ | intro hg | omega | exact True.intro | (have h9 := hr (by assumption); omega) | fail
        all_goals clear hk k
        refine rt ?_
        first | (obtain ⟨h8, h9⟩ := typC_f (show exprF e ≠ 0 by first | assumption | simpa using hc); simp [go_sem, Try.results98, h8, h9]; done) | (obtain ⟨h8, h9⟩ := typC_b h0 (typU_hit hlt (by first | assumption | simpa using hc)); simp [go_sem, Try.results98, h8, h9]; done) | (obtain ⟨h8, h9⟩ := typC_k h0 hu; simp [go_sem, Try.results98, h8, h9]))
      ·intro hc; try simp at hc
       all_goals (
        refine AW.skipN (fun _ h => h) ?_
        refine rgN [2,4,16,17,18] (fun _ h => h) ?_
        intro k hk; simp -dsimp [go_sem, -decide_eq_true_eq, -decide_eq_false_iff_not, hx, htl, hsA, hsB]
        repeat' first | apply And.intro | refine hk _ ?_ | intro hg | omega | exact True.intro | (have h9 := hr (by assumption); omega) | fail
        all_goals clear hk k
        refine rgK ?_
        intro k hk; simp -dsimp [go_sem, -decide_eq_true_eq, -decide_eq_false_iff_not, hx, htl, hsA, hsB]
        repeat' first | apply And.intro | refine hk _ ?_ | intro hg | omega | exact True.intro | (have h9 := hr (by assumption); omega) | fail
        all_goals clear hk k
        show ∃ _, _
        have hw := wrapi hlt (by omega)
        have hub : typBad e i = false := by simpa using hc
        refine ⟨i + 1, ⟨by omega, typU_go hu hub⟩, by omega, Less.of rfl (by simp [go_sem, hw]) (by simp [go_sem, typesL_succ, hxA, htk])⟩))
   ·intro hc; try simp at hc
    all_goals (
     refine AW.exitN (fun _ h => h) ?_
     obtain rfl : i = e.length := by omega
     have htl := typesL_len e e.length
     have hlast := typesL_at (e := e) (show e.length - 1 < e.length by omega)
     have hwl : IntKind.wrap .i64 ((e.length : Int) - 1) = (e.length : Int) - 1 := wrap64 (by omega) (by omega)
     have hwt : ((e.length : Int) - 1).toNat = e.length - 1 := by omega
     refine rg [2] ?_
     intro k hk; simp -dsimp (maxSteps := 2000000) [go_sem, -decide_eq_true_eq, -decide_eq_false_iff_not, htl, hlast, hwl, hwt]
     repeat' first | apply And.intro | refine hk _ ?_ | intro hg | omega | exact True.intro | (have h9 := hr (by assumption); omega) | fail
     all_goals clear hk k
     refine rt ?_
     first | (obtain ⟨h8, h9⟩ := typC_f (show exprF e ≠ 0 by first | assumption | simpa using hc); simp [go_sem, Try.results98, h8, h9]; done) | (obtain ⟨h8, h9⟩ := typC_b h0 (typU_hit hlt (by first | assumption | simpa using hc)); simp [go_sem, Try.results98, h8, h9]; done) | (obtain ⟨h8, h9⟩ := typC_k h0 hu; simp [go_sem, Try.results98, h8, h9])))

end Go.AM
namespace Go.AM
open Go.Proofs

/-- impl.typeFault -/
theorem dc_impl_typeFault (e : List TNode) (w : Int) (he : e.length ≤ 9223372036854775807) : DC Try.prog 58 [.isl 4 (e.map TNode.ro), .int .i64 w] (.int .i64 (typF e w)) [] := by
 refine DC.intro tiOk Try.func58 rfl rfl rfl rfl rfl rfl rfl rfl [] ?_
 refine rgA [0,1] ?_
 refine AW.seq ?_
 refine rgA [0,1,8] ?_
 refine AW.cond rfl ?_ ?_
 ·intro hc; try simp at hc
  all_goals (
   refine rgA [4] ?_
   refine rt ?_
   simp [go_sem, Try.results58, typF, firstC_cons, firstC_nil] <;> grind)
 ·intro hc; try simp at hc
  all_goals (
   refine AW.skipN (fun _ h => h) ?_
   refine rg [1,5] ?_
   intro k hk; simp -dsimp (maxSteps := 2000000) [go_sem, -decide_eq_true_eq, -decide_eq_false_iff_not]
   repeat' first | apply And.intro | refine hk _ ?_ | intro hg | (refine CallK.intro (dc_impl_TypeOf e he) ?_; simp -dsimp (maxSteps := 2000000) [go_sem, -decide_eq_true_eq, -decide_eq_false_iff_not]) | omega | exact True.intro
   all_goals clear hk k
   refine rg [4] ?_
   intro k hk; simp -dsimp (maxSteps := 2000000) [go_sem, -decide_eq_true_eq, -decide_eq_false_iff_not]
   repeat' first | (refine Chk.keys ?_; simp only [go_sem, List.map_cons, List.map_nil, List.flatMap_cons, List.flatMap_nil, List.flatMap_append, List.append_nil, List.nil_append, List.cons_append]; decide +kernel) | apply And.intro | refine hk _ ?_ | intro hg | ((first | refine CallK.intro (dc_impl_codeIf _ _) ?_ | refine CallK.intro (dc_impl_firstCode [_, _] (by simp)) ?_ | refine CallK.intro (dc_impl_firstCode [_, _, _] (by simp)) ?_ | refine CallK.intro (dc_impl_firstCode [_, _, _, _] (by simp)) ?_); simp -dsimp (maxSteps := 2000000) [go_sem, -decide_eq_true_eq, -decide_eq_false_iff_not]) | omega | exact True.intro
   all_goals clear hk k
   refine rt ?_
   simp [go_sem, Try.results58, typF, firstC_cons, firstC_nil] <;> grind)

/-- impl.isSmall -/
theorem dc_impl_isSmall (c : UInt8) : DC Try.prog 113 [.int .u8 c.toNat] (.bool (isLow c)) [] := by
 refine DC.intro tiOk Try.func113 rfl rfl rfl rfl rfl rfl rfl rfl [] ?_
 refine rgA [0] ?_
 refine rg [2] ?_
 intro k hk; simp +contextual -dsimp (maxSteps := 2000000) [go_sem, -decide_eq_true_eq, -decide_eq_false_iff_not]
 repeat' first | apply And.intro | refine hk _ ?_ | (intro hg; try simp only [decide_eq_true_eq, decide_eq_false_iff_not] at hg) | omega | exact True.intro
 all_goals clear hk k
 all_goals (
  refine rt ?_
  simp [go_sem, *, Try.results113, isLow, -decide_eq_true_eq, -decide_eq_false_iff_not])

/-- impl.NameFault -/
theorem dc_impl_NameFault (s : List UInt8) (hs : s.length ≤ 9223372036854775807) : DC Try.prog 94 [.str s] (.int .i64 (nameF s)) [] := by
 refine DC.intro tiOk Try.func94 rfl rfl rfl rfl rfl rfl rfl rfl [] ?_
 refine rgA [0] ?_
 refine rg [2] ?_
 intro k hk; simp +contextual -dsimp (maxSteps := 2000000) [go_sem, -decide_eq_true_eq, -decide_eq_false_iff_not]
 repeat' first | apply And.intro | refine hk _ ?_ | (intro hg; try simp only [decide_eq_true_eq, decide_eq_false_iff_not] at hg) | ((first | refine CallK.intro (dc_impl_areAll 113 isLow dc_impl_isSmall s hs) ?_ | refine CallK.intro (dc_impl_codeIf _ _) ?_ | refine CallK.intro (dc_impl_firstCode [_, _] (by simp)) ?_ | refine CallK.intro (dc_impl_firstCode [_, _, _] (by simp)) ?_ | refine CallK.intro (dc_impl_firstCode [_, _, _, _] (by simp)) ?_); simp +contextual -dsimp (maxSteps := 2000000) [go_sem, -decide_eq_true_eq, -decide_eq_false_iff_not]) | omega | exact True.intro
 all_goals clear hk k
 all_goals (
  refine rt ?_
  simp [go_sem, Try.results94, nameF, firstC_cons, firstC_nil] at * <;> grind)

end Go.AM
namespace Go.AM
open Go.Proofs

/-- impl.condFault -/
theorem dc_impl_condFault (p : List TStep) (ho : StepsOk p) (i : Nat) (hi : i < p.length) (hg : ∀ e ∈ p, e.gok) : DC Try.prog 57 [.isl 6 (p.map TStep.ro), .int .i64 (i : Nat)] (.int .i64 (shapeF p i)) [] := by
 have hlen := ho.len
 obtain ⟨x, hx⟩ := at_some hi
 have hxS := nS_at hx
 obtain ⟨g0, g1, g2⟩ := hg x (List.mem_of_getElem? hx)
 have hkm := kids_len p (i : Int)
 refine DC.intro tiOk Try.func57 rfl rfl rfl rfl rfl rfl rfl rfl [] ?_
 refine rg [0,1] ?_
 intro k hk; simp -dsimp [go_sem, -decide_eq_true_eq, -decide_eq_false_iff_not, hx]
 repeat' first | apply And.intro | refine hk _ ?_ | intro hg | omega | exact True.intro
 all_goals clear hk k
 refine rg [0,1,5,6] ?_
 intro k hk; simp -dsimp (maxSteps := 2000000) [go_sem, -decide_eq_true_eq, -decide_eq_false_iff_not, hx]
 repeat' first | apply And.intro | refine hk _ ?_ | intro hg | (refine CallK.intro (dc_impl_kidBounds _) ?_; simp -dsimp (maxSteps := 2000000) [go_sem, -decide_eq_true_eq, -decide_eq_false_iff_not, hx]) | omega | exact True.intro
 all_goals clear hk k
 refine rg [0,1,5,6,7] ?_
 intro k hk; simp -dsimp (maxSteps := 2000000) [go_sem, -decide_eq_true_eq, -decide_eq_false_iff_not, hx]
 repeat' first | apply And.intro | refine hk _ ?_ | intro hg | omega | exact True.intro
 all_goals clear hk k
 refine rg [0,1,7,8] ?_
 intro k hk; simp -dsimp (maxSteps := 2000000) [go_sem, -decide_eq_true_eq, -decide_eq_false_iff_not, hx]
 repeat' first | apply And.intro | refine hk _ ?_ | intro hg | ((first | refine CallK.intro (dc_impl_kids p (i : Int) (by omega)) ?_ | refine CallK.intro (dc_impl_inRange _ _ _) ?_ | refine CallK.intro (dc_impl_codeIf _ _) ?_ | refine CallK.intro (dc_impl_wantsCond p ho i hi) ?_ | refine CallK.intro (dc_impl_firstCode [_, _] (by simp)) ?_ | refine CallK.intro (dc_impl_firstCode [_, _, _] (by simp)) ?_ | refine CallK.intro (dc_impl_firstCode [_, _, _, _] (by simp)) ?_); simp -dsimp (maxSteps := 2000000) [go_sem, -decide_eq_true_eq, -decide_eq_false_iff_not, hx]) | omega | exact True.intro
 all_goals clear hk k
 refine AW.seq ?_
 refine rg [0,1,8,47] ?_
 intro k hk; simp +contextual -dsimp [go_sem, -decide_eq_true_eq, -decide_eq_false_iff_not, hx]
 repeat' first | apply And.intro | refine hk _ ?_ | (intro hg; try simp only [decide_eq_true_eq, decide_eq_false_iff_not] at hg) | omega | exact True.intro
 all_goals clear hk k
 all_goals (
  refine AW.cond rfl ?_ ?_
  ·intro hc; try simp at hc
   all_goals (
    refine rg [4] ?_
    intro k hk; simp -dsimp [go_sem, -decide_eq_true_eq, -decide_eq_false_iff_not, hx]
    repeat' first | apply And.intro | refine hk _ ?_ | intro hg | omega | exact True.intro
    all_goals clear hk k
    refine rt ?_
    simp [go_sem, Try.results57, shapeF, hxS, firstC_cons, firstC_nil] at * <;> grind)
  ·intro hc; try simp at hc
   all_goals (
    refine AW.skipN (fun _ h => h) ?_
    refine rg [4] ?_
    intro k hk; simp -dsimp (maxSteps := 2000000) [go_sem, -decide_eq_true_eq, -decide_eq_false_iff_not, hx]
    repeat' first | apply And.intro | refine hk _ ?_ | intro hg | (refine CallK.intro (dc_impl_ExprFault x.cond g1) ?_; simp -dsimp (maxSteps := 2000000) [go_sem, -decide_eq_true_eq, -decide_eq_false_iff_not, hx]) | omega | exact True.intro
    all_goals clear hk k
    refine rt ?_
    simp [go_sem, Try.results57, shapeF, hxS, firstC_cons, firstC_nil] at * <;> grind))

end Go.AM
namespace Go.AM
open Go.Proofs

/-- impl.stepFault -/
theorem dc_impl_stepFault (s : TStep) (hg : s.gok) (l : List Int) (hl : ParOk l) (h24 : l.length ≤ 23) : DC Try.prog 56 [.agg s.ro, .op [nlc 1 (l.map I1), nlc 1 ((depsOf l).map I1)]] (.int .i64 (stepF l s)) [(1, .op [nlc 1 ((nxtL l s.par).map I1), nlc 1 ((nxtD l (depsOf l) s.par).map I1)])] := by
 obtain ⟨g0, g1, g2⟩ := hg
 have hdl := depsOf_len l
 refine DC.intro tiOk Try.func56 rfl rfl rfl rfl rfl rfl rfl (by simp [noW, noWo]) [] ?_
 refine rgA [1,2] ?_
 refine rg [1,2,5,6] ?_
 intro k hk; simp -dsimp (maxSteps := 2000000) [go_sem, -decide_eq_true_eq, -decide_eq_false_iff_not]
 repeat' first | apply And.intro | refine hk _ ?_ | intro hg | (refine CallK.intro (dc_impl_argBounds _) ?_; simp -dsimp (maxSteps := 2000000) [go_sem, -decide_eq_true_eq, -decide_eq_false_iff_not]) | omega | exact True.intro
 all_goals clear hk k
 refine AW.cut ⟨96, [(1, .ptr 1901 2 0 0), (2, .ptr 2 6 0 0), (5, .int .i64 (lowA s.kind)), (6, .int .i64 (highA s.kind)), (7, .bool (alien s))], [(2, some ⟨6, [s.ro]⟩), (1901, some ⟨2, [[nlc 1 (l.map I1), nlc 1 ((depsOf l).map I1)]]⟩)]⟩ ?_ ?_
 ·skip
  refine rgK ?_
  intro k hk; simp +contextual -dsimp (maxSteps := 2000000) [go_sem, -decide_eq_true_eq, -decide_eq_false_iff_not]
  repeat' first | apply And.intro | refine hk _ ?_ | (intro hg; try simp only [decide_eq_true_eq, decide_eq_false_iff_not] at hg) | omega | exact True.intro
  all_goals clear hk k
  all_goals (show St.Less _ _; exact Less.of rfl (by simp [go_sem, alien] at * <;> grind) (by simp [go_sem]))
 ·skip
  refine AW.seq ?_
  refine AW.cut ⟨96, [(1, .ptr 1901 2 0 0), (2, .ptr 2 6 0 0), (5, .int .i64 (lowA s.kind)), (6, .int .i64 (highA s.kind)), (8, .int .i64 (if inR s.kind 1 8 = false ∨ alien s = true then 1 else parF l s.par))], [(2, some ⟨6, [s.ro]⟩), (1901, some ⟨2, [[nlc 1 ((nxtL l s.par).map I1), nlc 1 ((nxtD l (depsOf l) s.par).map I1)]]⟩)]⟩ ?_ ?_
  ·skip
   refine AW.regK tiOk (fun i => if i = 11 then [0] else []) ?_
   intro k hk; simp +contextual -dsimp (maxSteps := 2000000) [go_sem, -decide_eq_true_eq, -decide_eq_false_iff_not]
   repeat' first | (refine Chk.keys ?_; simp only [go_sem, List.map_cons, List.map_nil, List.flatMap_cons, List.flatMap_nil, List.flatMap_append, List.append_nil, List.nil_append, List.cons_append]; decide +kernel) | apply And.intro | refine hk _ ?_ | (intro hg; try simp only [decide_eq_true_eq, decide_eq_false_iff_not] at hg) | ((first | refine CallK.intro (dc_impl_inRange _ _ _) ?_ | refine CallK.intro (dc_impl_codeIf _ _) ?_ | refine CallK.intro (dc_parents_next l (depsOf l) s.par hl rfl (by omega)) ?_ | refine CallK.intro (dc_impl_firstCode [_, _] (by simp)) ?_ | refine CallK.intro (dc_impl_firstCode [_, _, _] (by simp)) ?_ | refine CallK.intro (dc_impl_firstCode [_, _, _, _] (by simp)) ?_); simp +contextual -dsimp (maxSteps := 2000000) [go_sem, -decide_eq_true_eq, -decide_eq_false_iff_not]) | omega | exact True.intro
   all_goals clear hk k
   all_goals (show St.Less _ _; exact Less.of rfl (by simp [go_sem, firstC_cons, firstC_nil] at * <;> grind) (by simp [go_sem]))
  ·skip
   refine rgA [1,2,5,6,8,59] ?_
   refine AW.cond rfl ?_ ?_
   ·intro hc; try simp at hc
    all_goals try (exfalso; omega; done)
    all_goals (
     refine rgA [1,4] ?_
     refine rt ?_
     first | (rw [stepF_good hz1 hz2 hz3]; simp [go_sem, Try.results56, hnL, hnD, firstC_cons, firstC_nil]; (try grind [inR]); done) | (simp [go_sem, Try.results56]; have := @inR_iff s.kind 1 8; unfold stepF; grind))
   ·intro hc; try simp at hc
    all_goals try (exfalso; omega; done)
    all_goals (
     refine AW.skipN (fun _ h => h) ?_
     refine AW.seq ?_
     have hz : inR s.kind 1 8 = true ∧ alien s = false ∧ parF l s.par = 0 := by grind
     obtain ⟨hz1, hz2, hz3⟩ := hz
     have hnL := nxtL_app hz3
     have hnD := nxtD_app hl hz3
     refine rg [1,2,5,6,9] ?_
     intro k hk; simp -dsimp (maxSteps := 2000000) [go_sem, -decide_eq_true_eq, -decide_eq_false_iff_not, hnL, hnD]
     repeat' first | apply And.intro | refine hk _ ?_ | intro hg | ((first | refine CallK.intro (dc_impl_parents_last _ _ _ (by simp [hdl]; omega)) ?_ | refine CallK.intro (dc_impl_codeIf _ _) ?_); simp -dsimp (maxSteps := 2000000) [go_sem, -decide_eq_true_eq, -decide_eq_false_iff_not, hnL, hnD]) | omega | exact True.intro
     all_goals clear hk k
     refine rgA [1,2,5,6,9,66] ?_
     refine AW.cond rfl ?_ ?_
     ·intro hc; try simp at hc
      all_goals try (exfalso; omega; done)
      all_goals (
       refine rgA [1,4] ?_
       refine rt ?_
       first | (rw [stepF_good hz1 hz2 hz3]; simp [go_sem, Try.results56, hnL, hnD, firstC_cons, firstC_nil]; (try grind [inR]); done) | (simp [go_sem, Try.results56]; have := @inR_iff s.kind 1 8; unfold stepF; grind))
     ·intro hc; try simp at hc
      all_goals try (exfalso; omega; done)
      all_goals (
       refine AW.skipN (fun _ h => h) ?_
       refine AW.seq ?_
       refine rgA [1,2,5,6,69] ?_
       refine AW.block ?_
       refine rgA [1,2,5,6,69,70] ?_
       refine AW.cond rfl ?_ ?_
       ·intro hc; try simp at hc
        all_goals try (exfalso; omega; done)
        all_goals (
         refine rg [1,4] ?_
         intro k hk; simp -dsimp (maxSteps := 2000000) [go_sem, -decide_eq_true_eq, -decide_eq_false_iff_not]
         repeat' first | apply And.intro | refine hk _ ?_ | intro hg | (refine CallK.intro (dc_impl_NameFault s.name g0) ?_; simp -dsimp (maxSteps := 2000000) [go_sem, -decide_eq_true_eq, -decide_eq_false_iff_not]) | omega | exact True.intro
         all_goals clear hk k
         refine rt ?_
         first | (rw [stepF_good hz1 hz2 hz3]; simp [go_sem, Try.results56, hnL, hnD, firstC_cons, firstC_nil]; (try grind [inR]); done) | (simp [go_sem, Try.results56]; have := @inR_iff s.kind 1 8; unfold stepF; grind))
       ·intro hc; try simp at hc
        all_goals try (exfalso; omega; done)
        all_goals (
         refine rgA [1,2,5,6,75] ?_
         refine AW.cond rfl ?_ ?_
         ·intro hc; try simp at hc
          all_goals try (exfalso; omega; done)
          all_goals (
           refine rg [1,4] ?_
           intro k hk; simp -dsimp (maxSteps := 2000000) [go_sem, -decide_eq_true_eq, -decide_eq_false_iff_not]
           repeat' first | (refine Chk.keys ?_; simp only [go_sem, List.map_cons, List.map_nil, List.flatMap_cons, List.flatMap_nil, List.flatMap_append, List.append_nil, List.nil_append, List.cons_append]; decide +kernel) | apply And.intro | refine hk _ ?_ | intro hg | ((first | refine CallK.intro (dc_impl_inRange _ _ _) ?_ | refine CallK.intro (dc_impl_codeIf _ _) ?_ | refine CallK.intro (dc_impl_ExprFault s.expr g2) ?_ | refine CallK.intro (dc_impl_firstCode [_, _] (by simp)) ?_ | refine CallK.intro (dc_impl_firstCode [_, _, _] (by simp)) ?_ | refine CallK.intro (dc_impl_firstCode [_, _, _, _] (by simp)) ?_); simp -dsimp (maxSteps := 2000000) [go_sem, -decide_eq_true_eq, -decide_eq_false_iff_not]) | omega | exact True.intro
           all_goals clear hk k
           refine rt ?_
           first | (rw [stepF_good hz1 hz2 hz3]; simp [go_sem, Try.results56, hnL, hnD, firstC_cons, firstC_nil]; (try grind [inR]); done) | (simp [go_sem, Try.results56]; have := @inR_iff s.kind 1 8; unfold stepF; grind))
         ·intro hc; try simp at hc
          all_goals try (exfalso; omega; done)
          all_goals (
           refine AW.skipN (fun _ h => h) ?_
           refine rg [1,4] ?_
           intro k hk; simp -dsimp (maxSteps := 2000000) [go_sem, -decide_eq_true_eq, -decide_eq_false_iff_not]
           repeat' first | apply And.intro | refine hk _ ?_ | intro hg | ((first | refine CallK.intro (dc_impl_inRange _ _ _) ?_ | refine CallK.intro (dc_impl_codeIf _ _) ?_); simp -dsimp (maxSteps := 2000000) [go_sem, -decide_eq_true_eq, -decide_eq_false_iff_not]) | omega | exact True.intro
           all_goals clear hk k
           refine rt ?_
           first | (rw [stepF_good hz1 hz2 hz3]; simp [go_sem, Try.results56, hnL, hnD, firstC_cons, firstC_nil]; (try grind [inR]); done) | (simp [go_sem, Try.results56]; have := @inR_iff s.kind 1 8; unfold stepF; grind)))))

end Go.AM
namespace Go.AM
open Go.Proofs

/-- impl.ProcFault -/
theorem dc_impl_ProcFault (p : List TStep) (hp : p.length ≤ 9223372036854775807) (hg : ∀ e ∈ p, e.gok) : DC Try.prog 27 [.isl 6 (p.map TStep.ro)] (.int .i64 (procF p)) [] := by
 refine DC.intro tiOk Try.func27 rfl rfl rfl rfl rfl rfl rfl rfl [] ?_
 refine rgA [0] ?_
 refine AW.seq ?_
 refine rg [0,15] ?_
 intro k hk; simp -dsimp (maxSteps := 2000000) [go_sem, -decide_eq_true_eq, -decide_eq_false_iff_not]
 repeat' first | apply And.intro | refine hk _ ?_ | intro hg | (refine CallK.intro (dc_impl_inRange _ _ _) ?_; simp -dsimp (maxSteps := 2000000) [go_sem, -decide_eq_true_eq, -decide_eq_false_iff_not]) | omega | exact True.intro
 all_goals clear hk k
 refine AW.cond rfl ?_ ?_
 ·intro hc; try simp at hc
  all_goals (
   refine rgA [2] ?_
   refine rt ?_
   first | (rw [procF_len (by simpa using hc)]; simp [go_sem, Try.results27]; done) | (rw [procF_ok hR h1 h2 h3]; simp [go_sem, Try.results27]; done) | (rw [procF_ty hR h1 h2 hlt hal3 (by first | assumption | simpa using hc)]; simp [go_sem, Try.results27]; done) | (rw [procF_shape hR h1 hlt hal2 (by first | assumption | simpa using hc)]; simp [go_sem, Try.results27]; done) | (rw [procF_one hR hlt hall (by rw [hxo]; first | assumption | simpa using hc), hxo]; simp [go_sem, Try.results27]))
 ·intro hc; try simp at hc
  all_goals (
   refine AW.skipN (fun _ h => h) ?_
   have hR : inR p.length 1 24 = true := by simpa using hc
   have hlen := inR_iff.1 hR
   have hts : depsOf [] = [] := rfl
   refine rgA [0,3] ?_
   refine AW.seq ?_
   refine rgA [0,3,18,19,20] ?_
   refine AW.block ?_
   refine AW.loopI (fun i : Nat => ⟨61, [(0, .isl 6 (p.map TStep.ro)), (3, .ptr 17 2 0 0), (18, .isl 6 (p.map TStep.ro)), (19, .int .i64 p.length), (20, .int .i64 i)], [(17, some ⟨2, [[nlc 1 ((parsT p i).map I1), nlc 1 ((depsOf (parsT p i)).map I1)]]⟩)]⟩) (fun i => i ≤ p.length ∧ ∀ k, k < i → oneF p k = 0) (fun i => p.length - i) (0) (by simp) (Less.of rfl (by simp [go_sem]) (by simp [go_sem, hts, parsT_zero])) ?_
   rintro i ⟨hi, hall⟩
   refine rgA [0,3,18,19,20,21] ?_
   refine AW.seq ?_
   refine AW.cond rfl ?_ ?_
   ·intro hc; try simp at hc
    all_goals (
     have hlt : i < p.length := by assumption
     obtain ⟨x, hx⟩ := at_some hlt
     have hxo := oneF_T hx
     refine AW.skipN (fun _ h => h) ?_
     refine AW.seq ?_
     refine AW.block ?_
     have hlo := ones_T (by omega) hall
     refine rg [0,3,5,18,19,20] ?_
     intro k hk; simp -dsimp [go_sem, -decide_eq_true_eq, -decide_eq_false_iff_not, hx]
     repeat' first | apply And.intro | refine hk _ ?_ | intro hg | omega | exact True.intro
     all_goals clear hk k
     refine AW.reg tiOk (fun _ => [1]) [0,3,6,18,19,20] ?_
     intro k hk; simp -dsimp (maxSteps := 2000000) [go_sem, -decide_eq_true_eq, -decide_eq_false_iff_not, hx]
     repeat' first | apply And.intro | refine hk _ ?_ | intro hg | (refine CallK.intro (dc_impl_stepFault x (hg x (List.mem_of_getElem? hx)) (parsT p i) hlo (by rw [parsT_len (by omega)]; omega)) ?_; simp -dsimp (maxSteps := 2000000) [go_sem, -decide_eq_true_eq, -decide_eq_false_iff_not, hx]) | omega | exact True.intro
     all_goals clear hk k
     refine rg [0,3,6,18,19,20,28] ?_
     intro k hk; simp -dsimp [go_sem, -decide_eq_true_eq, -decide_eq_false_iff_not, hx]
     repeat' first | apply And.intro | refine hk _ ?_ | intro hg | omega | exact True.intro
     all_goals clear hk k
     refine AW.cond rfl ?_ ?_
     ·intro hc; try simp at hc
      all_goals (
       refine rg [2] ?_
       intro k hk; simp -dsimp [go_sem, -decide_eq_true_eq, -decide_eq_false_iff_not, hx]
       repeat' first | apply And.intro | refine hk _ ?_ | intro hg | omega | exact True.intro
       all_goals clear hk k
       refine rt ?_
       first | (rw [procF_len (by simpa using hc)]; simp [go_sem, Try.results27]; done) | (rw [procF_ok hR h1 h2 h3]; simp [go_sem, Try.results27]; done) | (rw [procF_ty hR h1 h2 hlt hal3 (by first | assumption | simpa using hc)]; simp [go_sem, Try.results27]; done) | (rw [procF_shape hR h1 hlt hal2 (by first | assumption | simpa using hc)]; simp [go_sem, Try.results27]; done) | (rw [procF_one hR hlt hall (by rw [hxo]; first | assumption | simpa using hc), hxo]; simp [go_sem, Try.results27]))
     ·intro hc; try simp at hc
      all_goals (
       refine AW.skipN (fun _ h => h) ?_
       refine rgK ?_
       intro k hk; simp -dsimp [go_sem, -decide_eq_true_eq, -decide_eq_false_iff_not, hx]
       repeat' first | apply And.intro | refine hk _ ?_ | intro hg | omega | exact True.intro
       all_goals clear hk k
       show ∃ _, _
       have hw := wrapi hlt (by omega)
       have hz : stepF (parsT p i) x = 0 := by simpa using hc
       have hpz := stepF_par hz
       have htn := parsT_next hx
       refine ⟨i + 1, ⟨by omega, upto hall (by rw [hxo]; exact hz)⟩, by omega, Less.of rfl (by simp [go_sem, hw]) (by simp [go_sem, htn, nxtL_app hpz, nxtD_deps (ones_T (by omega) hall) hpz])⟩))
   ·intro hc; try simp at hc
    all_goals (
     refine AW.exitN (fun _ h => h) ?_
     refine AW.seq ?_
     have h1 : ∀ k, k < p.length → oneF p k = 0 := fun k hk => hall k (by omega)
     have ho : StepsOk p := ⟨by omega, h1⟩
     refine rgA [0,32,33] ?_
     refine AW.block ?_
     refine AW.loopI (fun i : Nat => ⟨61, [(0, .isl 6 (p.map TStep.ro)), (32, .int .i64 p.length), (33, .int .i64 i)], []⟩) (fun i => i ≤ p.length ∧ ∀ k, k < i → shapeF p k = 0) (fun i => p.length - i) (0) (by simp) (Less.of rfl (by simp [go_sem]) (by simp [go_sem])) ?_
     rintro i ⟨hi, hal2⟩
     refine rgA [0,32,33,34] ?_
     refine AW.seq ?_
     refine AW.cond rfl ?_ ?_
     ·intro hc; try simp at hc
      all_goals (
       have hlt : i < p.length := by assumption
       refine AW.skipN (fun _ h => h) ?_
       refine AW.seq ?_
       refine AW.block ?_
       refine rgA [0,7,32,33] ?_
       refine rg [0,8,32,33] ?_
       intro k hk; simp -dsimp (maxSteps := 2000000) [go_sem, -decide_eq_true_eq, -decide_eq_false_iff_not]
       repeat' first | apply And.intro | refine hk _ ?_ | intro hg | (refine CallK.intro (dc_impl_condFault p ho i hlt hg) ?_; simp -dsimp (maxSteps := 2000000) [go_sem, -decide_eq_true_eq, -decide_eq_false_iff_not]) | omega | exact True.intro
       all_goals clear hk k
       refine rgA [0,8,32,33,40] ?_
       refine AW.cond rfl ?_ ?_
       ·intro hc; try simp at hc
        all_goals (
         refine rgA [2] ?_
         refine rt ?_
         first | (rw [procF_len (by simpa using hc)]; simp [go_sem, Try.results27]; done) | (rw [procF_ok hR h1 h2 h3]; simp [go_sem, Try.results27]; done) | (rw [procF_ty hR h1 h2 hlt hal3 (by first | assumption | simpa using hc)]; simp [go_sem, Try.results27]; done) | (rw [procF_shape hR h1 hlt hal2 (by first | assumption | simpa using hc)]; simp [go_sem, Try.results27]; done) | (rw [procF_one hR hlt hall (by rw [hxo]; first | assumption | simpa using hc), hxo]; simp [go_sem, Try.results27]))
       ·intro hc; try simp at hc
        all_goals (
         refine AW.skipN (fun _ h => h) ?_
         refine rgKA ?_
         show ∃ _, _
         have hw := wrapi hlt (by omega)
         refine ⟨i + 1, ⟨by omega, upto hal2 (by first | assumption | simpa using hc)⟩, by omega, Less.of rfl (by simp [go_sem, hw]) (by simp [go_sem])⟩))
     ·intro hc; try simp at hc
      all_goals (
       refine AW.exitN (fun _ h => h) ?_
       refine AW.seq ?_
       have h2 : ∀ k, k < p.length → shapeF p k = 0 := fun k hk => hal2 k (by omega)
       refine rgA [43,44,45] ?_
       refine AW.block ?_
       refine AW.loopI (fun i : Nat => ⟨61, [(43, .isl 6 (p.map TStep.ro)), (44, .int .i64 p.length), (45, .int .i64 i)], []⟩) (fun i => i ≤ p.length ∧ ∀ k, k < i → tyF p k = 0) (fun i => p.length - i) (0) (by simp) (Less.of rfl (by simp [go_sem]) (by simp [go_sem])) ?_
       rintro i ⟨hi, hal3⟩
       refine rgA [43,44,45,46] ?_
       refine AW.seq ?_
       refine AW.cond rfl ?_ ?_
       ·intro hc; try simp at hc
        all_goals (
         have hlt : i < p.length := by assumption
         obtain ⟨x, hx⟩ := at_some hlt
         have hxt := tyF_at hx
         obtain ⟨g0, g1, g2⟩ := hg x (List.mem_of_getElem? hx)
         have hfc : firstC [typF x.cond 2, typF x.expr 1] = tyF p i := by rw [hxt]; simp [firstC_cons, firstC_nil] <;> grind
         refine AW.skipN (fun _ h => h) ?_
         refine AW.seq ?_
         refine AW.block ?_
         refine rg [10,43,44,45] ?_
         intro k hk; simp -dsimp [go_sem, -decide_eq_true_eq, -decide_eq_false_iff_not, hx, hfc]
         repeat' first | apply And.intro | refine hk _ ?_ | intro hg | omega | exact True.intro
         all_goals clear hk k
         refine rg [11,43,44,45] ?_
         intro k hk; simp -dsimp (maxSteps := 2000000) [go_sem, -decide_eq_true_eq, -decide_eq_false_iff_not, hx, hfc]
         repeat' first | (refine Chk.keys ?_; simp only [go_sem, List.map_cons, List.map_nil, List.flatMap_cons, List.flatMap_nil, List.flatMap_append, List.append_nil, List.nil_append, List.cons_append]; decide +kernel) | apply And.intro | refine hk _ ?_ | intro hg | ((first | refine CallK.intro (dc_impl_typeFault x.cond 2 g1) ?_ | refine CallK.intro (dc_impl_typeFault x.expr 1 g2) ?_ | refine CallK.intro (dc_impl_firstCode [_, _] (by simp)) ?_ | refine CallK.intro (dc_impl_firstCode [_, _, _] (by simp)) ?_ | refine CallK.intro (dc_impl_firstCode [_, _, _, _] (by simp)) ?_); simp -dsimp (maxSteps := 2000000) [go_sem, -decide_eq_true_eq, -decide_eq_false_iff_not, hx, hfc]) | omega | exact True.intro
         all_goals clear hk k
         refine rg [11,43,44,45,58] ?_
         intro k hk; simp -dsimp [go_sem, -decide_eq_true_eq, -decide_eq_false_iff_not, hx, hfc]
         repeat' first | apply And.intro | refine hk _ ?_ | intro hg | omega | exact True.intro
         all_goals clear hk k
         refine AW.cond rfl ?_ ?_
         ·intro hc; try simp at hc
          all_goals (
           refine rg [2] ?_
           intro k hk; simp -dsimp [go_sem, -decide_eq_true_eq, -decide_eq_false_iff_not, hx, hfc]
           repeat' first | apply And.intro | refine hk _ ?_ | intro hg | omega | exact True.intro
           all_goals clear hk k
           refine rt ?_
           first | (rw [procF_len (by simpa using hc)]; simp [go_sem, Try.results27]; done) | (rw [procF_ok hR h1 h2 h3]; simp [go_sem, Try.results27]; done) | (rw [procF_ty hR h1 h2 hlt hal3 (by first | assumption | simpa using hc)]; simp [go_sem, Try.results27]; done) | (rw [procF_shape hR h1 hlt hal2 (by first | assumption | simpa using hc)]; simp [go_sem, Try.results27]; done) | (rw [procF_one hR hlt hall (by rw [hxo]; first | assumption | simpa using hc), hxo]; simp [go_sem, Try.results27]))
         ·intro hc; try simp at hc
          all_goals (
           refine AW.skipN (fun _ h => h) ?_
           refine rgK ?_
           intro k hk; simp -dsimp [go_sem, -decide_eq_true_eq, -decide_eq_false_iff_not, hx, hfc]
           repeat' first | apply And.intro | refine hk _ ?_ | intro hg | omega | exact True.intro
           all_goals clear hk k
           show ∃ _, _
           have hw := wrapi hlt (by omega)
           refine ⟨i + 1, ⟨by omega, upto hal3 (by first | assumption | simpa using hc)⟩, by omega, Less.of rfl (by simp [go_sem, hw]) (by simp [go_sem])⟩))
       ·intro hc; try simp at hc
        all_goals (
         refine AW.exitN (fun _ h => h) ?_
         have h3 : ∀ k, k < p.length → tyF p k = 0 := fun k hk => hal3 k (by omega)
         refine rgA [2] ?_
         refine rt ?_
         first | (rw [procF_len (by simpa using hc)]; simp [go_sem, Try.results27]; done) | (rw [procF_ok hR h1 h2 h3]; simp [go_sem, Try.results27]; done) | (rw [procF_ty hR h1 h2 hlt hal3 (by first | assumption | simpa using hc)]; simp [go_sem, Try.results27]; done) | (rw [procF_shape hR h1 hlt hal2 (by first | assumption | simpa using hc)]; simp [go_sem, Try.results27]; done) | (rw [procF_one hR hlt hall (by rw [hxo]; first | assumption | simpa using hc), hxo]; simp [go_sem, Try.results27])))))

end Go.AM
namespace Go.AM
open Go.Proofs

/-- impl.GraphOf -/
theorem dc_impl_GraphOf_ok (p : List TStep) (hg : p.length ≤ 9223372036854775807 ∧ ∀ e ∈ p, e.gok) (hl : procF p = 0) : DC Try.prog 19 [.isl 6 (p.map TStep.ro)] (.agg [.int .i64 0, .osl 5 ((gNs p).map TGNode.oc), .osl 3 ((srt TFlow.frm (gFl p)).map TFlow.oc)]) [] := by
 have hP := procOk hl
 refine DC.intro tiOk Try.func19 rfl rfl rfl rfl rfl rfl rfl rfl [1000] ?_
 refine rg [0,2] ?_
 intro k hk; simp -dsimp [go_sem, -decide_eq_true_eq, -decide_eq_false_iff_not, hl]
 repeat' first | apply And.intro | refine hk _ ?_ | intro hg | omega | exact True.intro
 all_goals clear hk k
 refine AW.seq ?_
 refine rg [0,2,3] ?_
 intro k hk; simp -dsimp (maxSteps := 2000000) [go_sem, -decide_eq_true_eq, -decide_eq_false_iff_not, hl]
 repeat' first | apply And.intro | refine hk _ ?_ | intro hg | (refine CallK.intro (dc_impl_ProcFault p hg.1 hg.2) ?_; simp -dsimp (maxSteps := 2000000) [go_sem, -decide_eq_true_eq, -decide_eq_false_iff_not, hl]) | omega | exact True.intro
 all_goals clear hk k
 refine rg [0,2,3,7] ?_
 intro k hk; simp -dsimp [go_sem, -decide_eq_true_eq, -decide_eq_false_iff_not, hl]
 repeat' first | apply And.intro | refine hk _ ?_ | intro hg | omega | exact True.intro
 all_goals clear hk k
 refine AW.cond rfl ?_ ?_
 ·intro hc; try simp at hc
  all_goals try (exfalso; contradiction; done)
  all_goals (
   refine rg [2] ?_
   intro k hk; simp -dsimp [go_sem, -decide_eq_true_eq, -decide_eq_false_iff_not, hl]
   repeat' first | apply And.intro | refine hk _ ?_ | intro hg | omega | exact True.intro
   all_goals clear hk k
   refine rt ?_
   simp [go_sem, Try.results19])
 ·intro hc; try simp at hc
  all_goals try (exfalso; contradiction; done)
  all_goals (
   refine AW.skipN (fun _ h => h) ?_
   refine rg [2] ?_
   intro k hk; simp -dsimp (maxSteps := 2000000) [go_sem, -decide_eq_true_eq, -decide_eq_false_iff_not, hl]
   repeat' first | apply And.intro | refine hk _ ?_ | intro hg | (refine CallK.intro (dc_impl_graphOf p hP) ?_; simp -dsimp (maxSteps := 2000000) [go_sem, -decide_eq_true_eq, -decide_eq_false_iff_not, hl]) | omega | exact True.intro
   all_goals clear hk k
   refine rt ?_
   simp [go_sem, Try.results19])

/-- impl.GraphOf -/
theorem dc_impl_GraphOf_bad (p : List TStep) (hg : p.length ≤ 9223372036854775807 ∧ ∀ e ∈ p, e.gok) (hl : procF p ≠ 0) : DC Try.prog 19 [.isl 6 (p.map TStep.ro)] (.agg [.int .i64 (procF p), .isl 5 [], .isl 3 []]) [] := by
 refine DC.intro tiOk Try.func19 rfl rfl rfl rfl rfl rfl rfl rfl [1000] ?_
 refine rg [0,2] ?_
 intro k hk; simp -dsimp [go_sem, -decide_eq_true_eq, -decide_eq_false_iff_not, hl]
 repeat' first | apply And.intro | refine hk _ ?_ | intro hg | omega | exact True.intro
 all_goals clear hk k
 refine AW.seq ?_
 refine rg [0,2,3] ?_
 intro k hk; simp -dsimp (maxSteps := 2000000) [go_sem, -decide_eq_true_eq, -decide_eq_false_iff_not, hl]
 repeat' first | apply And.intro | refine hk _ ?_ | intro hg | (refine CallK.intro (dc_impl_ProcFault p hg.1 hg.2) ?_; simp -dsimp (maxSteps := 2000000) [go_sem, -decide_eq_true_eq, -decide_eq_false_iff_not, hl]) | omega | exact True.intro
 all_goals clear hk k
 refine rg [0,2,3,7] ?_
 intro k hk; simp -dsimp [go_sem, -decide_eq_true_eq, -decide_eq_false_iff_not, hl]
 repeat' first | apply And.intro | refine hk _ ?_ | intro hg | omega | exact True.intro
 all_goals clear hk k
 refine AW.cond rfl ?_ ?_
 ·intro hc; try simp at hc
  all_goals try (exfalso; contradiction; done)
  all_goals (
   refine rg [2] ?_
   intro k hk; simp -dsimp [go_sem, -decide_eq_true_eq, -decide_eq_false_iff_not, hl]
   repeat' first | apply And.intro | refine hk _ ?_ | intro hg | omega | exact True.intro
   all_goals clear hk k
   refine rt ?_
   simp [go_sem, Try.results19])
 ·intro hc; try simp at hc
  all_goals try (exfalso; contradiction; done)
  all_goals (
   refine AW.skipN (fun _ h => h) ?_
   skip)

end Go.AM
namespace Go.AM
def labP (lab : Labs) : Labs := fun b => match lab b with
  | some (.arg 0, (0, 1) :: _ :: _) => some (.tmp, [])
  | l => l
theorem labP_none {lab : Labs} {b : Nat} (h : lab b = none) : labP lab b = none := by simp [labP, h]
theorem labP_in {lab : Labs} {b : Nat} {p : Nat × Nat} {q : List (Nat × Nat)} (h : lab b = some (.arg 0, (0, 1) :: p :: q)) : labP lab b = some (.tmp, []) := by simp [labP, h]
theorem labP_out {lab : Labs} {b : Nat} (h : ∀ p q, lab b ≠ some (.arg 0, (0, 1) :: p :: q)) : labP lab b = lab b := by
  unfold labP
  split
  · rename_i p q e; exact absurd e (h p q)
  · rfl
def labQ (lab lab' : Labs) (g : Nat → Nat) (n : Nat) : Labs := fun b => if b < n then (match lab b with
  | some (.arg 0, (0, 1) :: (i, j) :: q) => some (.arg 0, (0, 1) :: (g i, j) :: q)
  | _ => lab' b) else lab' b
theorem labQ_in {lab lab' : Labs} {g : Nat → Nat} {n b i j : Nat} {q : List (Nat × Nat)} (hb : b < n) (h : lab b = some (.arg 0, (0, 1) :: (i, j) :: q)) : labQ lab lab' g n b = some (.arg 0, (0, 1) :: (g i, j) :: q) := by simp [labQ, h, hb]
theorem labQ_out {lab lab' : Labs} {g : Nat → Nat} {n b : Nat} (h : ∀ p q, lab b ≠ some (.arg 0, (0, 1) :: p :: q)) : labQ lab lab' g n b = lab' b := by
  unfold labQ
  split
  · split
    · rename_i i j q e; exact absurd e (h _ _)
    · rfl
  · rfl
theorem labQ_ge {lab lab' : Labs} {g : Nat → Nat} {n b : Nat} (h : ¬ b < n) : labQ lab lab' g n b = lab' b := by simp [labQ, h]

theorem T.inv_osl {w : World} {lab : Labs} {p : Lab} {l : List (List AV)} {v : Value} (h : T w lab p (.osl 3 l) v) :
    ∃ b off cap, ∃ cv : Nat → Nat → Value, lab b = some p ∧ Blk w b (off + cap * 3) ∧ l.length ≤ cap ∧ (∀ i j, i < l.length → j < 3 → w.cell? ⟨b, off + i * 3 + j, none⟩ = some (cv i j)) ∧
      (∀ (i : Nat) c (j : Nat) x, l[i]? = some c → c[j]? = some x → T w lab (p.down i j) x (cv i j)) ∧ v = .slice (some ⟨b, off, none⟩) l.length cap := by
  cases h with
  | imm _ _ _ hI => cases hI
  | osl _ _ _ b off cap cv hb hk hc hes hp hv hr => exact ⟨b, off, cap, cv, hb, hk, hc, hv, hr, rfl⟩
theorem T.inv_op {w : World} {lab : Labs} {p : Lab} {l : List AV} {v : Value} (h : T w lab p (.op l) v) :
    ∃ b off, ∃ cv : Nat → Value, lab b = some p ∧ Blk w b (off + l.length) ∧ (∀ j, j < l.length → w.cell? ⟨b, off + j, none⟩ = some (cv j)) ∧ (∀ (j : Nat) x, l[j]? = some x → T w lab (p.down 0 j) x (cv j)) ∧ v = .pointer (some ⟨b, off, none⟩) := by
  cases h with
  | imm _ _ _ hI => cases hI
  | op _ _ b off cv hb hk hp hv hr => exact ⟨b, off, cv, hb, hk, hv, hr, rfl⟩
theorem T.inv_int {w : World} {lab : Labs} {p : Lab} {k : IntKind} {n : Int} {v : Value} (h : T w lab p (.int k n) v) : v = .int k n := by
  cases h with
  | imm _ _ _ hI => cases hI; rfl
theorem T.inv_val {w : World} {lab : Labs} {p : Lab} {u v : Value} (h : T w lab p (.val u) v) : v = u := by
  cases h with
  | imm _ _ _ hI => cases hI; rfl
theorem ins_at {β : Type} {L : List β} {c : β} {a i : Nat} {x : β} (ha : a ≤ L.length) (h : (L.take a ++ c :: L.drop a)[i]? = some x) : (i < a ∧ L[i]? = some x) ∨ (i = a ∧ x = c) ∨ (a < i ∧ L[i - 1]? = some x) := by
  have ht : (L.take a).length = a := by rw [List.length_take]; omega
  rcases Nat.lt_trichotomy i a with h1 | h1 | h1
  · left
    rw [List.getElem?_append_left (by omega), List.getElem?_take, if_pos h1] at h
    exact ⟨h1, h⟩
  · right; left
    subst h1
    rw [List.getElem?_append_right (by omega), ht, Nat.sub_self] at h
    simp at h; exact ⟨rfl, h.symm⟩
  · right; right
    rw [List.getElem?_append_right (by omega), ht] at h
    obtain ⟨d, hd⟩ : ∃ d, i - a = d + 1 := ⟨i - a - 1, by omega⟩
    rw [hd, List.getElem?_cons_succ, List.getElem?_drop] at h
    refine ⟨h1, ?_⟩
    rw [← h]; congr 1; omega

theorem DC.unseenIns {P : Program} {f : FuncId} {rest : List AV} {α : Type} (fr ft : α → Int) (fc : α → AV) (hfc : ∀ x, (fc x).tree = true) (l : List α) (at' : Nat) (hat : at' ≤ l.length) (c0 c1 : AV) (h0t : c0.tree = true) (h1t : c1.tree = true) (c : List AV) (hcl : c.length = 3) (hct : ∀ x ∈ c, AV.tree x = true)
    (hv : ∀ x w lab p v, T w lab p (fc x) v → ∃ a n cap, v = .slice a n cap)
    (h : ∀ vs : List VF, vs.length = l.length → (∀ (i : Nat) x, l[i]? = some x → ∃ u, vs[i]? = some (⟨fr x, ft x, u⟩ : VF)) →
      DC P f (.op [c0, .osl 3 (vs.map VF.row)] :: rest) (.tup []) [(0, .op [c1, .osl 3 ((vs.map VF.row).take at' ++ c :: (vs.map VF.row).drop at')])]) :
    DC P f (.op [c0, .osl 3 (l.map fun x => [.int .i64 (fr x), .int .i64 (ft x), fc x])] :: rest) (.tup []) [(0, .op [c1, .osl 3 ((l.map fun x => [.int .i64 (fr x), .int .i64 (ft x), fc x]).take at' ++ c :: (l.map fun x => [.int .i64 (fr x), .int .i64 (ft x), fc x]).drop at')])] := by
  have hb := (h (l.map fun x => (⟨fr x, ft x, .slice none 0 0⟩ : VF)) (by simp) (by intro i x hx; exact ⟨_, by rw [List.getElem?_map, hx]; rfl⟩)).body
  refine ⟨hb, ?_⟩
  intro w lab vals hl hvs hfr
  obtain ⟨v0, vr, rfl⟩ : ∃ v0 vr, vals = v0 :: vr := by
    cases vals with
    | nil => simp at hl
    | cons a b => exact ⟨a, b, rfl⟩
  obtain ⟨b, off, cv, hb0, hk0, hcv, hr0, rfl⟩ := (hvs 0 _ _ rfl rfl).inv_op
  have hF := hr0 1 _ rfl
  generalize hLf : (l.map fun x => [AV.int .i64 (fr x), .int .i64 (ft x), fc x]) = LF at hF ⊢
  have hLfl : LF.length = l.length := by rw [← hLf, List.length_map]
  have hLfi : ∀ (i : Nat) x, l[i]? = some x → LF[i]? = some [.int .i64 (fr x), .int .i64 (ft x), fc x] := by intro i x hx; rw [← hLf, List.getElem?_map, hx]; rfl
  obtain ⟨b2, off2, cap2, cw, hb2, hk2, hc2, hcw, hrw, hcv1⟩ := hF.inv_osl
  rw [hLfl] at hc2 hcw hcv1
  let vs : List VF := (List.range l.length).map fun i => ⟨(l.map fr).getD i 0, (l.map ft).getD i 0, cw i 2⟩
  have hvsl : vs.length = l.length := by simp [vs]
  have hvsi : ∀ (i : Nat) x, l[i]? = some x → vs[i]? = some (⟨fr x, ft x, cw i 2⟩ : VF) := by
    intro i x hx
    obtain ⟨hi, rfl⟩ := List.getElem?_eq_some_iff.1 hx
    simp [vs, List.getElem?_range hi, List.getD_eq_getElem?_getD, List.getElem?_eq_getElem hi]
  have hD := h vs hvsl (fun i x hx => ⟨_, hvsi i x hx⟩)
  have hdown : ∀ b p q, lab b = some (.arg 0, (0, 1) :: p :: q) → b < w.heap.size := fun b p q e => hfr b (by rw [e]; simp)
  -- the rows that the callee sees
  have hrow : ∀ (w' : World) (lab' : Labs), ∀ (i : Nat) cc (j : Nat) x, (vs.map VF.row)[i]? = some cc → cc[j]? = some x → ∃ y, l[i]? = some y ∧ ((j = 0 ∧ x = .int .i64 (fr y)) ∨ (j = 1 ∧ x = .int .i64 (ft y)) ∨ (j = 2 ∧ x = .val (cw i 2))) := by
    intro w' lab' i cc j x hi hj
    have hil : i < l.length := by
      rcases Nat.lt_or_ge i l.length with h | h
      · exact h
      · rw [List.getElem?_eq_none (by simpa [hvsl] using h)] at hi; cases hi
    refine ⟨l[i], List.getElem?_eq_getElem hil, ?_⟩
    rw [List.getElem?_map, hvsi i _ (List.getElem?_eq_getElem hil)] at hi
    cases hi
    match j with
    | 0 => cases hj; exact Or.inl ⟨rfl, rfl⟩
    | 1 => cases hj; exact Or.inr (Or.inl ⟨rfl, rfl⟩)
    | 2 => cases hj; exact Or.inr (Or.inr ⟨rfl, rfl⟩)
    | j + 3 => simp [VF.row] at hj
  have hcall := hD.calls w (labP lab) (.pointer (some ⟨b, off, none⟩) :: vr) (by simpa using hl) (by
    intro k x v hx hvv
    cases k with
    | zero =>
      simp only [List.getElem?_cons_zero, Option.some.injEq] at hx hvv
      subst hx; subst hvv
      refine T.op (.arg 0, []) [c0, .osl 3 (vs.map VF.row)] b off cv (by rw [labP_out (by intro p q e; rw [hb0] at e; cases e), hb0]) hk0 ?_ hcv ?_
      · intro x hx; simp at hx; rcases hx with rfl | rfl
        · exact h0t
        · rfl
      · intro j x hj
        match j with
        | 0 =>
          cases hj
          refine (hr0 0 _ rfl).move (fun b _ h => ⟨labP_none h, rfl⟩) ?_ (Nat.le_refl _)
          intro b3 q _ e
          refine ⟨?_, rfl⟩
          rw [labP_out (by intro p q2 e2; rw [e2] at e; simp [Lab.app, Lab.down] at e), e]
        | 1 =>
          cases hj
          rw [hcv1]
          have e := T.osl (w := w) (lab := labP lab) (Lab.down (.arg 0, []) 0 1) 3 (vs.map VF.row) b2 off2 cap2 cw (by rw [labP_out (by intro p q e; rw [hb2] at e; simp [Lab.down] at e), hb2]) hk2 (by simpa [hvsl] using hc2)
            (by intro c hc; obtain ⟨y, _, rfl⟩ := List.mem_map.1 hc; rfl) (by intro c hc x hx; obtain ⟨y, _, rfl⟩ := List.mem_map.1 hc; exact VF_row_tree y x hx)
            (by intro i j hi hj; exact hcw i j (by simpa [hvsl] using hi) hj)
            (by
              intro i cc j x hi hj
              obtain ⟨y, hy, hx⟩ := hrow w lab i cc j x hi hj
              rcases hx with ⟨rfl, rfl⟩ | ⟨rfl, rfl⟩ | ⟨rfl, rfl⟩
              · rw [(hrw i _ 0 _ (hLfi i y hy) rfl).inv_int]; exact .imm _ _ _ (.int _ _)
              · rw [(hrw i _ 1 _ (hLfi i y hy) rfl).inv_int]; exact .imm _ _ _ (.int _ _)
              · obtain ⟨a, n, cp, e⟩ := hv _ _ _ _ _ (hrw i _ 2 _ (hLfi i y hy) rfl)
                rw [e]; exact .imm _ _ _ (.val _ _ _))
          simp only [List.length_map, hvsl] at e
          exact e
        | j + 2 => simp at hj
    | succ k =>
      have := hvs (k + 1) x v (by simpa using hx) (by simpa using hvv)
      refine this.move (fun b _ h => ⟨labP_none h, rfl⟩) ?_ (Nat.le_refl _)
      intro b q _ e
      refine ⟨?_, rfl⟩
      rw [labP_out (by intro p q2 e2; rw [e2] at e; simp [Lab.app] at e), e])
    (by
      intro b hb
      apply hfr
      intro e; exact hb (labP_none e))
  refine hcall.mono fun e w' he => ?_
  obtain ⟨v, lab1, rfl, hT, hm, hE, hfr1⟩ := he
  let g : Nat → Nat := fun i => if i < at' then i else i + 1
  have hkept : ∀ b p q, lab b = some (.arg 0, (0, 1) :: p :: q) → lab1 b = some (.tmp, []) ∧ w'.heap[b]? = w.heap[b]? := by
    intro b p q e
    have := hE.kept b (hdown b p q e) (by rw [labP_in e]; trivial)
    rw [labP_in e] at this; exact this
  have hout : ∀ b, lab1 b ≠ some (.tmp, []) → ∀ p q, lab b ≠ some (.arg 0, (0, 1) :: p :: q) := by
    intro b hb p q e; exact hb (hkept b p q e).1
  have hnone : ∀ b, b < w.heap.size → lab b = none → labQ lab lab1 g w.heap.size b = none ∧ w'.heap[b]? = w.heap[b]? := by
    intro b hb e
    have := hE.kept b hb (by rw [labP_none e]; trivial)
    refine ⟨?_, this.2⟩
    rw [labQ_out (by intro p q e2; rw [e] at e2; cases e2), this.1, labP_none e]
  -- what the callee has told stays where it is
  have hstay : ∀ {p : Lab} {x : AV} {v : Value}, p.1 = .arg 0 → T w' lab1 p x v → T w' (labQ lab lab1 g w.heap.size) p x v := by
    intro p x v hp1 ht
    refine ht.move ?_ ?_ (Nat.le_refl _)
    · intro b _ e
      exact ⟨by rw [labQ_out (hout b (by rw [e]; simp))]; exact e, rfl⟩
    · intro b q _ e
      refine ⟨by rw [labQ_out (hout b (by rw [e]; intro h; have := congrArg Prod.fst (Option.some.inj h); change p.1 = Root.tmp at this; rw [hp1] at this; cases this))]; exact e, rfl⟩
  refine ⟨v, labQ lab lab1 g w.heap.size, rfl, ?_, ?_, ?_, ?_⟩
  · cases hT with
    | imm _ _ _ hI => cases hI with
      | tup _ vs hlen hx => exact .imm _ _ _ (.tup [] vs hlen (by intro j x y hx; simp at hx))
    | tup _ _ vs hlen hx => exact .tup _ [] vs hlen (by intro j x y hx; simp at hx)
  · intro p hp v hv'
    simp only [List.mem_singleton] at hp
    subst hp
    simp only [List.getElem?_cons_zero, Option.some.injEq] at hv'
    subst hv'
    obtain ⟨b', off', cv', hb', hk', hcv', hr', e0⟩ := (hm _ (List.mem_singleton.2 rfl) _ rfl).inv_op
    rw [e0]
    refine T.op (.arg 0, []) [c1, .osl 3 (LF.take at' ++ c :: LF.drop at')] b' off' cv' (by rw [labQ_out (hout b' (by rw [hb']; simp)), hb']) hk' ?_ hcv' ?_
    · intro x hx; simp at hx; rcases hx with rfl | rfl
      · exact h1t
      · rfl
    · intro j x hj
      match j with
      | 0 => cases hj; exact hstay rfl (hr' 0 _ rfl)
      | 1 =>
        cases hj
        obtain ⟨b3, off3, cap3, cu, hb3, hk3, hc3, hcu, hru, hcv3⟩ := (hr' 1 _ rfl).inv_osl
        have hlen : (LF.take at' ++ c :: LF.drop at').length = l.length + 1 := by simp [hLfl]; omega
        have hlen2 : ((vs.map VF.row).take at' ++ c :: (vs.map VF.row).drop at').length = l.length + 1 := by simp [hvsl]; omega
        rw [hlen2] at hc3 hcu hcv3
        rw [hcv3]
        have e := T.osl (w := w') (lab := labQ lab lab1 g w.heap.size) (Lab.down (.arg 0, []) 0 1) 3 (LF.take at' ++ c :: LF.drop at') b3 off3 cap3 cu
          (by rw [labQ_out (hout b3 (by rw [hb3]; simp [Lab.down])), hb3]) hk3 (by rw [hlen]; exact hc3)
          (by
            intro cc hc
            rcases List.mem_append.1 hc with h | h
            · have h := List.mem_of_mem_take h; rw [← hLf] at h; obtain ⟨y, _, rfl⟩ := List.mem_map.1 h; rfl
            · rcases List.mem_cons.1 h with rfl | h
              · exact hcl
              · have h := List.mem_of_mem_drop h; rw [← hLf] at h; obtain ⟨y, _, rfl⟩ := List.mem_map.1 h; rfl)
          (by
            have key : ∀ cc ∈ LF, ∀ x ∈ cc, AV.tree x = true := by
              intro cc h x hx
              rw [← hLf] at h; obtain ⟨y, _, rfl⟩ := List.mem_map.1 h
              simp at hx
              rcases hx with rfl | rfl | rfl
              · rfl
              · rfl
              · exact hfc y
            intro cc hc x hx
            rcases List.mem_append.1 hc with h | h
            · exact key cc (List.mem_of_mem_take h) x hx
            · rcases List.mem_cons.1 h with rfl | h
              · exact hct x hx
              · exact key cc (List.mem_of_mem_drop h) x hx)
          (by intro i j hi hj; exact hcu i j (by rw [hlen] at hi; exact hi) hj)
          (by
            -- a row of the caller's
            have key : ∀ (i i0 : Nat) y, l[i0]? = some y → ((vs.map VF.row).take at' ++ c :: (vs.map VF.row).drop at')[i]? = (vs.map VF.row)[i0]? → g i0 = i → ∀ (j : Nat) x, [AV.int .i64 (fr y), .int .i64 (ft y), fc y][j]? = some x → T w' (labQ lab lab1 g w.heap.size) (Lab.down (Lab.down (.arg 0, []) 0 1) i j) x (cu i j) := by
              intro i i0 y hy hi hg j x hj
              rw [List.getElem?_map, hvsi i0 y hy] at hi
              match j with
              | 0 => cases hj; exact hstay rfl (hru i _ 0 _ hi rfl)
              | 1 => cases hj; exact hstay rfl (hru i _ 1 _ hi rfl)
              | 2 =>
                cases hj
                rw [(hru i _ 2 _ hi rfl).inv_val]
                refine (hrw i0 _ 2 _ (hLfi i0 y hy) rfl).move hnone ?_ hE.size
                intro b4 q hb4 e2
                have e3 : lab b4 = some (.arg 0, (0, 1) :: (i0, 2) :: q) := by rw [e2]; rfl
                refine ⟨?_, (hkept b4 _ q e3).2⟩
                rw [labQ_in hb4 e3, hg]; rfl
              | j + 3 => simp at hj
            have hsame : ∀ (i : Nat) cc, LF[i]? = some cc → ∃ y, l[i]? = some y ∧ cc = [.int .i64 (fr y), .int .i64 (ft y), fc y] := by
              intro i cc hi
              rw [← hLf, List.getElem?_map] at hi
              cases hy : l[i]? with
              | none => rw [hy] at hi; cases hi
              | some y => rw [hy] at hi; cases hi; exact ⟨y, rfl, rfl⟩
            have hvl : (vs.map VF.row).length = l.length := by rw [List.length_map, hvsl]
            have htl : ((vs.map VF.row).take at').length = at' := by rw [List.length_take]; omega
            intro i cc j x hi hj
            rcases ins_at (by omega) hi with ⟨h1, h2⟩ | ⟨h1, h2⟩ | ⟨h1, h2⟩
            · obtain ⟨y, hy, rfl⟩ := hsame i cc h2
              refine key i i y hy ?_ (by simp [g, h1]) j x hj
              rw [List.getElem?_append_left (by omega), List.getElem?_take, if_pos h1]
            · subst h1; subst h2
              refine hstay rfl (hru i cc j x ?_ hj)
              rw [List.getElem?_append_right (by omega), htl, Nat.sub_self]; rfl
            · obtain ⟨y, hy, rfl⟩ := hsame (i - 1) cc h2
              refine key i (i - 1) y hy ?_ (by simp only [g]; rw [if_neg (by omega)]; omega) j x hj
              rw [List.getElem?_append_right (by omega), htl]
              obtain ⟨d, hd⟩ : ∃ d, i - at' = d + 1 := ⟨i - at' - 1, by omega⟩
              rw [hd, List.getElem?_cons_succ, List.getElem?_drop]
              congr 1; omega)
        rw [hlen] at e
        exact e
      | j + 2 => simp at hj
  · refine ⟨hE.size, hE.os, hE.out, ?_, hE.blk⟩
    intro b2 hb2 hst
    have hno : ∀ p q, lab b2 ≠ some (.arg 0, (0, 1) :: p :: q) := by intro p q e; rw [e] at hst; exact hst
    have := hE.kept b2 hb2 (by rw [labP_out hno]; exact hst)
    exact ⟨by rw [labQ_out hno, this.1, labP_out hno], this.2⟩
  · intro b2 hb2
    by_cases hin : b2 < w.heap.size
    · exact Nat.lt_of_lt_of_le hin hE.size
    · rw [labQ_ge hin] at hb2; exact hfr1 b2 hb2
theorem Gh.cellLe {st : St} {Q : St → Prop} (id i j : Nat) {nd : Node} {c : List AV} {x : AV} (y : AV) (h1 : st.obj id = some nd) (h2 : nd.l[i]? = some c) (h3 : c[j]? = some x) (h4 : leA0 x y)
    (h : Gh ⟨st.n, st.slots, (id, some ⟨nd.es, nd.l.set i (c.set j y)⟩) :: st.objs⟩ Q) : Gh st Q :=
  Gh.ghost (fun _ _ _ _ hR => hR.cellLe h1 h2 h3 h4) h
end Go.AM
namespace Go.AM
open Go.Proofs

set_option maxHeartbeats 4000000 in
/-- spec.l6Link -/
theorem dc_spec_l6Link_n0 (ns : List TGNode) (fr to : Int) : DC Try.prog 73 [.op [nlc 5 (ns.map TGNode.oc), .nils], .int .i64 fr, .int .i64 to, .nils] (.tup []) [(0, .op [nlc 5 (ns.map TGNode.oc), .osl 3 [[AV.int .i64 fr, .int .i64 to, owc 4 (([] : List TNode).map TNode.ro)]]])] := by
 have hcl : ([] : List TNode).length ≤ 1048576 := by first | exact hc0 | simp
 refine DC.introG tiOk Try.func73 rfl rfl rfl rfl rfl rfl rfl (by simp [noW, noWo]) [] ?_
 refine rgA [0,1,8] ?_
 refine rgA [0,1,8,9] ?_
 refine AW.seq ?_
 refine AW.block ?_
 refine AW.loopI (fun _ : Nat => ⟨60, [(0, .ptr 1900 2 0 0), (1, .int .i64 fr), (8, .ptr 8 3 0 0), (9, .int .i64 0)], [(15, some ⟨4, ([] : List TNode).map TNode.ro⟩), (8, some ⟨3, [[.int .i64 fr, .int .i64 to, .sl 15 4 0 ([] : List TNode).length]]⟩), (1900, some ⟨2, [[nlc 5 (ns.map TGNode.oc), .nils]]⟩)]⟩) (fun _ => True) (fun _ => 0) (0) (trivial) (Less.of rfl (by simp [go_sem]) (by simp [go_sem])) ?_
 rintro i _
 refine AW.seq ?_
 refine rg [0,1,8,9,35] ?_
 intro k hk; simp -dsimp (maxSteps := 2000000) [go_sem, -decide_eq_true_eq, -decide_eq_false_iff_not]
 repeat' first | apply And.intro | refine hk _ ?_ | (intro hg; try simp only [decide_eq_true_eq, decide_eq_false_iff_not] at hg) | omega | exact True.intro
 all_goals clear hk k
 all_goals (
  refine AW.cond rfl ?_ ?_
  ·intro hc; try simp at hc
   all_goals try (exfalso; first | omega | (simp at hc; done); done)
   all_goals (
    refine AW.skipN (fun _ h => h) ?_
    refine AW.block ?_
    refine rgKA ?_
    show ∃ _, _
    exact absurd hc (by simp))
  ·intro hc; try simp at hc
   all_goals try (exfalso; first | omega | (simp at hc; done); done)
   all_goals (
    refine AW.exitN (fun _ h => h) ?_
    refine rgA [0,8,9,10] ?_
    refine rgE (fun _ => []) ?_
    intro k hk; simp -dsimp (maxSteps := 2000000) [go_sem, -decide_eq_true_eq, -decide_eq_false_iff_not]
    repeat' first | ((refine Chk.keys ?_); simp only [go_sem, List.map_cons, List.map_nil, List.flatMap_cons, List.flatMap_nil, List.flatMap_append, List.append_nil, List.nil_append, List.cons_append]; decide +kernel) | apply And.intro | refine hk _ ?_ | intro hg | omega | exact True.intro
    all_goals clear hk k
    refine ⟨.intro, And.intro (.inl rfl) ?_⟩
    refine Gh.fold 57 0 2 15 rfl rfl rfl rfl (by simp) (by decide) (by simp [go_sem]) ?_
    refine Gh.cellLe 57 0 2 (owc 4 (([] : List TNode).map TNode.ro)) rfl rfl rfl (by simp [go_sem]) ?_
    refine Gh.fold 1900 0 1 57 rfl rfl rfl rfl (by simp) (by decide) (by simp [go_sem]) ?_
    refine Gh.done ?_
    simp [go_sem, Try.results73]))

set_option maxHeartbeats 4000000 in
/-- spec.l6Link -/
theorem dc_spec_l6Link_c0 (ns : List TGNode) (fr to : Int) (cc : List TNode) (hc0 : cc.length ≤ 1048576) : DC Try.prog 73 [.op [nlc 5 (ns.map TGNode.oc), .nils], .int .i64 fr, .int .i64 to, .isl 4 (cc.map TNode.ro)] (.tup []) [(0, .op [nlc 5 (ns.map TGNode.oc), .osl 3 [[AV.int .i64 fr, .int .i64 to, owc 4 (cc.map TNode.ro)]]])] := by
 have hcl : cc.length ≤ 1048576 := by first | exact hc0 | simp
 refine DC.introG tiOk Try.func73 rfl rfl rfl rfl rfl rfl rfl (by simp [noW, noWo]) [] ?_
 refine rgA [0,1,8] ?_
 refine rgA [0,1,8,9] ?_
 refine AW.seq ?_
 refine AW.block ?_
 refine AW.loopI (fun _ : Nat => ⟨60, [(0, .ptr 1900 2 0 0), (1, .int .i64 fr), (8, .ptr 8 3 0 0), (9, .int .i64 0)], [(15, some ⟨4, cc.map TNode.ro⟩), (8, some ⟨3, [[.int .i64 fr, .int .i64 to, .sl 15 4 0 cc.length]]⟩), (1900, some ⟨2, [[nlc 5 (ns.map TGNode.oc), .nils]]⟩)]⟩) (fun _ => True) (fun _ => 0) (0) (trivial) (Less.of rfl (by simp [go_sem]) (by simp [go_sem])) ?_
 rintro i _
 refine AW.seq ?_
 refine rg [0,1,8,9,35] ?_
 intro k hk; simp -dsimp (maxSteps := 2000000) [go_sem, -decide_eq_true_eq, -decide_eq_false_iff_not]
 repeat' first | apply And.intro | refine hk _ ?_ | (intro hg; try simp only [decide_eq_true_eq, decide_eq_false_iff_not] at hg) | omega | exact True.intro
 all_goals clear hk k
 all_goals (
  refine AW.cond rfl ?_ ?_
  ·intro hc; try simp at hc
   all_goals try (exfalso; first | omega | (simp at hc; done); done)
   all_goals (
    refine AW.skipN (fun _ h => h) ?_
    refine AW.block ?_
    refine rgKA ?_
    show ∃ _, _
    exact absurd hc (by simp))
  ·intro hc; try simp at hc
   all_goals try (exfalso; first | omega | (simp at hc; done); done)
   all_goals (
    refine AW.exitN (fun _ h => h) ?_
    refine rgA [0,8,9,10] ?_
    refine rgE (fun _ => []) ?_
    intro k hk; simp -dsimp (maxSteps := 2000000) [go_sem, -decide_eq_true_eq, -decide_eq_false_iff_not]
    repeat' first | ((refine Chk.keys ?_); simp only [go_sem, List.map_cons, List.map_nil, List.flatMap_cons, List.flatMap_nil, List.flatMap_append, List.append_nil, List.nil_append, List.cons_append]; decide +kernel) | apply And.intro | refine hk _ ?_ | intro hg | omega | exact True.intro
    all_goals clear hk k
    refine ⟨.intro, And.intro (.inl rfl) ?_⟩
    refine Gh.fold 57 0 2 15 rfl rfl rfl rfl (by simp) (by decide) (by simp [go_sem]) ?_
    refine Gh.cellLe 57 0 2 (owc 4 (cc.map TNode.ro)) rfl rfl rfl (by simp [go_sem]) ?_
    refine Gh.fold 1900 0 1 57 rfl rfl rfl rfl (by simp) (by decide) (by simp [go_sem]) ?_
    refine Gh.done ?_
    simp [go_sem, Try.results73]))

end Go.AM
namespace Go.AM
open Go.Proofs

set_option maxHeartbeats 8000000 in
/-- spec.l6Link -/
theorem dc_spec_l6Link_nv (ns : List TGNode) (vs : List VF) (n : Nat) (hnl : n ≤ vs.length) (hvl : vs.length ≤ 1000) (fr to : Int) (h1 : ∀ (i : Nat) x, i < n → vs[i]? = some x → x.src ≤ fr) (h2 : ∀ x, vs[n]? = some x → fr < x.src) : DC Try.prog 73 [.op [nlc 5 (ns.map TGNode.oc), .osl 3 (vs.map VF.row)], .int .i64 fr, .int .i64 to, .nils] (.tup []) [(0, .op [nlc 5 (ns.map TGNode.oc), .osl 3 ((vs.map VF.row).take n ++ [AV.int .i64 fr, .int .i64 to, owc 4 (([] : List TNode).map TNode.ro)] :: (vs.map VF.row).drop n)])] := by
 have hcl : ([] : List TNode).length ≤ 1048576 := by first | exact hc0 | simp
 refine DC.introG tiOk Try.func73 rfl rfl rfl rfl rfl rfl rfl (by simp [noW, noWo]) [] ?_
 refine AW.thaw 1900 0 1 7001 rfl rfl rfl (by simp [go_sem]) ?_
 refine rgA [0,1,8] ?_
 refine rgA [0,1,8,9] ?_
 refine AW.seq ?_
 refine AW.block ?_
 refine AW.loopI (fun i : Nat => ⟨60, [(0, .ptr 1900 2 0 0), (1, .int .i64 fr), (8, .ptr 8 3 0 0), (9, .int .i64 (i : Nat))], [(15, some ⟨4, ([] : List TNode).map TNode.ro⟩), (8, some ⟨3, [[.int .i64 fr, .int .i64 to, .sl 15 4 0 ([] : List TNode).length]]⟩), (7001, some ⟨3, vs.map VF.row⟩), (1900, some ⟨2, [[nlc 5 (ns.map TGNode.oc), .sl 7001 3 0 vs.length]]⟩)]⟩) (fun i => i ≤ n) (fun i => n - i) (0) (Nat.zero_le _) (Less.of rfl (by simp [go_sem]) (by simp [go_sem])) ?_
 rintro i hi
 have hcs := link_look hnl hi h1 h2
 refine AW.seq ?_
 rcases hcs with ⟨h3, h4, x, hx, h5, h6⟩ | ⟨h3, h4, x, hx, h5, h6⟩ | ⟨h3, h4, x, hx, h5, h6⟩
 all_goals (
  refine rg [0,1,8,9,35] ?_
  intro k hk; simp -dsimp (maxSteps := 2000000) [go_sem, -decide_eq_true_eq, -decide_eq_false_iff_not, h4, hx, h5, h6]
  repeat' first | apply And.intro | refine hk _ ?_ | (intro hg; try simp only [decide_eq_true_eq, decide_eq_false_iff_not] at hg) | omega | exact True.intro
  all_goals clear hk k
  all_goals (
   refine AW.cond rfl ?_ ?_
   ·intro hc; try simp at hc
    all_goals try (exfalso; first | omega | contradiction | (simp at hc; done); done)
    all_goals (
     refine AW.skipN (fun _ h => h) ?_
     refine AW.block ?_
     refine rgKA ?_
     show ∃ _, _
     have hww : IntKind.wrap .i64 ((i : Int) + 1) = (i : Int) + 1 := wrap64 (by omega) (by omega)
     refine ⟨i + 1, by omega, by omega, Less.of rfl (by simp [go_sem, hww]) (by simp [go_sem])⟩)
   ·intro hc; try simp at hc
    all_goals try (exfalso; first | omega | contradiction | (simp at hc; done); done)
    all_goals (
     refine AW.exitN (fun _ h => h) ?_
     have hin : i = n := by omega
     have hmn : min n vs.length = n := Nat.min_eq_left hnl
     have htt : ((vs.map VF.row).take n).take n = (vs.map VF.row).take n := List.take_of_length_le (by rw [List.length_take]; omega)
     have hta : ∀ r : List AV, ((vs.map VF.row).take n ++ [r]).take (n + 1) = (vs.map VF.row).take n ++ [r] := fun r => List.take_of_length_le (by rw [List.length_append, List.length_take, List.length_map]; simp; omega)
     have hdd : ((vs.map VF.row).drop n).take (vs.length - n) = (vs.map VF.row).drop n := List.take_of_length_le (by rw [List.length_drop, List.length_map]; omega)
     refine rg [0,8,9,10] ?_
     intro k hk; simp -dsimp (maxSteps := 2000000) [go_sem, -decide_eq_true_eq, -decide_eq_false_iff_not, hin, hnl, hmn]
     repeat' first | apply And.intro | refine hk _ ?_ | intro hg | omega | exact True.intro
     all_goals clear hk k
     refine rgE (fun _ => []) ?_
     intro k hk; simp -dsimp (maxSteps := 2000000) [go_sem, -decide_eq_true_eq, -decide_eq_false_iff_not, hin, hnl, hmn, htt, hdd, hta]
     repeat' first | ((refine Chk.keys ?_); simp only [go_sem, List.map_cons, List.map_nil, List.flatMap_cons, List.flatMap_nil, List.flatMap_append, List.append_nil, List.nil_append, List.cons_append]; decide +kernel) | apply And.intro | refine hk _ ?_ | intro hg | omega | exact True.intro
     all_goals clear hk k
     refine ⟨.intro, And.intro (.inl rfl) ?_⟩
     refine Gh.fold 57 n 2 15 rfl (link_here hnl) rfl rfl (by simp) (by decide) (by simp [go_sem]) ?_
     rw [link_set hnl]
     refine Gh.cellLe 57 n 2 (owc 4 (([] : List TNode).map TNode.ro)) rfl (link_here hnl) rfl (by simp [go_sem]) ?_
     rw [link_set hnl]
     refine Gh.fold 1900 0 1 57 rfl rfl rfl rfl (by simp; omega) (by decide) (vf_tree (by simp [go_sem])) ?_
     refine Gh.done ?_
     simp [go_sem, Try.results73])))

set_option maxHeartbeats 8000000 in
/-- spec.l6Link -/
theorem dc_spec_l6Link_cv (ns : List TGNode) (vs : List VF) (n : Nat) (hnl : n ≤ vs.length) (hvl : vs.length ≤ 1000) (fr to : Int) (h1 : ∀ (i : Nat) x, i < n → vs[i]? = some x → x.src ≤ fr) (h2 : ∀ x, vs[n]? = some x → fr < x.src) (cc : List TNode) (hc0 : cc.length ≤ 1048576) : DC Try.prog 73 [.op [nlc 5 (ns.map TGNode.oc), .osl 3 (vs.map VF.row)], .int .i64 fr, .int .i64 to, .isl 4 (cc.map TNode.ro)] (.tup []) [(0, .op [nlc 5 (ns.map TGNode.oc), .osl 3 ((vs.map VF.row).take n ++ [AV.int .i64 fr, .int .i64 to, owc 4 (cc.map TNode.ro)] :: (vs.map VF.row).drop n)])] := by
 have hcl : cc.length ≤ 1048576 := by first | exact hc0 | simp
 refine DC.introG tiOk Try.func73 rfl rfl rfl rfl rfl rfl rfl (by simp [noW, noWo]) [] ?_
 refine AW.thaw 1900 0 1 7001 rfl rfl rfl (by simp [go_sem]) ?_
 refine rgA [0,1,8] ?_
 refine rgA [0,1,8,9] ?_
 refine AW.seq ?_
 refine AW.block ?_
 refine AW.loopI (fun i : Nat => ⟨60, [(0, .ptr 1900 2 0 0), (1, .int .i64 fr), (8, .ptr 8 3 0 0), (9, .int .i64 (i : Nat))], [(15, some ⟨4, cc.map TNode.ro⟩), (8, some ⟨3, [[.int .i64 fr, .int .i64 to, .sl 15 4 0 cc.length]]⟩), (7001, some ⟨3, vs.map VF.row⟩), (1900, some ⟨2, [[nlc 5 (ns.map TGNode.oc), .sl 7001 3 0 vs.length]]⟩)]⟩) (fun i => i ≤ n) (fun i => n - i) (0) (Nat.zero_le _) (Less.of rfl (by simp [go_sem]) (by simp [go_sem])) ?_
 rintro i hi
 have hcs := link_look hnl hi h1 h2
 refine AW.seq ?_
 rcases hcs with ⟨h3, h4, x, hx, h5, h6⟩ | ⟨h3, h4, x, hx, h5, h6⟩ | ⟨h3, h4, x, hx, h5, h6⟩
 all_goals (
  refine rg [0,1,8,9,35] ?_
  intro k hk; simp -dsimp (maxSteps := 2000000) [go_sem, -decide_eq_true_eq, -decide_eq_false_iff_not, h4, hx, h5, h6]
  repeat' first | apply And.intro | refine hk _ ?_ | (intro hg; try simp only [decide_eq_true_eq, decide_eq_false_iff_not] at hg) | omega | exact True.intro
  all_goals clear hk k
  all_goals (
   refine AW.cond rfl ?_ ?_
   ·intro hc; try simp at hc
    all_goals try (exfalso; first | omega | contradiction | (simp at hc; done); done)
    all_goals (
     refine AW.skipN (fun _ h => h) ?_
     refine AW.block ?_
     refine rgKA ?_
     show ∃ _, _
     have hww : IntKind.wrap .i64 ((i : Int) + 1) = (i : Int) + 1 := wrap64 (by omega) (by omega)
     refine ⟨i + 1, by omega, by omega, Less.of rfl (by simp [go_sem, hww]) (by simp [go_sem])⟩)
   ·intro hc; try simp at hc
    all_goals try (exfalso; first | omega | contradiction | (simp at hc; done); done)
    all_goals (
     refine AW.exitN (fun _ h => h) ?_
     have hin : i = n := by omega
     have hmn : min n vs.length = n := Nat.min_eq_left hnl
     have htt : ((vs.map VF.row).take n).take n = (vs.map VF.row).take n := List.take_of_length_le (by rw [List.length_take]; omega)
     have hta : ∀ r : List AV, ((vs.map VF.row).take n ++ [r]).take (n + 1) = (vs.map VF.row).take n ++ [r] := fun r => List.take_of_length_le (by rw [List.length_append, List.length_take, List.length_map]; simp; omega)
     have hdd : ((vs.map VF.row).drop n).take (vs.length - n) = (vs.map VF.row).drop n := List.take_of_length_le (by rw [List.length_drop, List.length_map]; omega)
     refine rg [0,8,9,10] ?_
     intro k hk; simp -dsimp (maxSteps := 2000000) [go_sem, -decide_eq_true_eq, -decide_eq_false_iff_not, hin, hnl, hmn]
     repeat' first | apply And.intro | refine hk _ ?_ | intro hg | omega | exact True.intro
     all_goals clear hk k
     refine rgE (fun _ => []) ?_
     intro k hk; simp -dsimp (maxSteps := 2000000) [go_sem, -decide_eq_true_eq, -decide_eq_false_iff_not, hin, hnl, hmn, htt, hdd, hta]
     repeat' first | ((refine Chk.keys ?_); simp only [go_sem, List.map_cons, List.map_nil, List.flatMap_cons, List.flatMap_nil, List.flatMap_append, List.append_nil, List.nil_append, List.cons_append]; decide +kernel) | apply And.intro | refine hk _ ?_ | intro hg | omega | exact True.intro
     all_goals clear hk k
     refine ⟨.intro, And.intro (.inl rfl) ?_⟩
     refine Gh.fold 57 n 2 15 rfl (link_here hnl) rfl rfl (by simp) (by decide) (by simp [go_sem]) ?_
     rw [link_set hnl]
     refine Gh.cellLe 57 n 2 (owc 4 (cc.map TNode.ro)) rfl (link_here hnl) rfl (by simp [go_sem]) ?_
     rw [link_set hnl]
     refine Gh.fold 1900 0 1 57 rfl rfl rfl rfl (by simp; omega) (by decide) (vf_tree (by simp [go_sem])) ?_
     refine Gh.done ?_
     simp [go_sem, Try.results73])))

end Go.AM
namespace Go.AM
open Go.Proofs

theorem dc_link_n (ns : List TGNode) (fs : List TFlow) (hfl : fs.length ≤ 1000) (fr to : Int) : DC Try.prog 73 [.op (grw ns fs), .int .i64 fr, .int .i64 to, .nils] (.tup []) [(0, .op (grw ns (putK TFlow.frm fs ⟨fr, to, []⟩)))] := by
 by_cases h0 : fs = []
 · subst h0
   exact dc_spec_l6Link_n0 ns fr to
 · have hne : putK TFlow.frm fs ⟨fr, to, []⟩ ≠ [] := by unfold putK; simp
   have h := DC.unseenIns (P := Try.prog) (f := 73) (rest := [.int .i64 fr, .int .i64 to, .nils]) TFlow.frm TFlow.to (fun x => owc 4 (x.cond.map TNode.ro)) (fun x => owc_tree 4 _) fs (plF fs fr) (plF_le fs fr) (nlc 5 (ns.map TGNode.oc)) (nlc 5 (ns.map TGNode.oc)) (nlc_tree 5 _) (nlc_tree 5 _) [.int .i64 fr, .int .i64 to, owc 4 (([] : List TNode).map TNode.ro)] rfl (by intro x hx; simp at hx; rcases hx with rfl | rfl | rfl <;> first | rfl | exact owc_tree 4 _) (fun x w lab p v h => owc_slice h) (by
    intro vs hl hi
    refine dc_spec_l6Link_nv ns vs (plF fs fr) (by rw [hl]; exact plF_le fs fr) (by omega) fr to ?_ ?_
    · intro i x hin hx
      have hlt : i < fs.length := by have := plF_le fs fr; omega
      obtain ⟨y, hy⟩ := at_some hlt
      obtain ⟨u, hu⟩ := hi i y hy
      rw [hx] at hu
      have := plF_lt hin hy
      rw [Option.some.inj hu]; exact this
    · intro x hx
      have hlt : plF fs fr < fs.length := by have := at_lt hx; omega
      obtain ⟨y, hy⟩ := at_some hlt
      obtain ⟨u, hu⟩ := hi _ y hy
      rw [hx] at hu
      have := plF_ge hy
      rw [Option.some.inj hu]; exact this)
   have e1 : grw ns fs = [nlc 5 (ns.map TGNode.oc), .osl 3 (fs.map fun x => [AV.int .i64 x.frm, .int .i64 x.to, owc 4 (x.cond.map TNode.ro)])] := by rw [grw_eq, nlc_map h0]; rfl
   have e2 : grw ns (putK TFlow.frm fs ⟨fr, to, []⟩) = [nlc 5 (ns.map TGNode.oc), .osl 3 ((fs.map fun x => [AV.int .i64 x.frm, .int .i64 x.to, owc 4 (x.cond.map TNode.ro)]).take (plF fs fr) ++ [.int .i64 fr, .int .i64 to, owc 4 (([] : List TNode).map TNode.ro)] :: (fs.map fun x => [AV.int .i64 x.frm, .int .i64 x.to, owc 4 (x.cond.map TNode.ro)]).drop (plF fs fr))] := by
    rw [grw_eq, nlc_map hne, plF_put, List.map_append, List.map_cons, List.map_take, List.map_drop]; rfl
   rw [e1, e2]
   exact h
theorem dc_link_c (ns : List TGNode) (fs : List TFlow) (hfl : fs.length ≤ 1000) (fr to : Int) (cc : List TNode) (hc0 : cc.length ≤ 1048576) : DC Try.prog 73 [.op (grw ns fs), .int .i64 fr, .int .i64 to, .isl 4 (cc.map TNode.ro)] (.tup []) [(0, .op (grw ns (putK TFlow.frm fs ⟨fr, to, cc⟩)))] := by
 by_cases h0 : fs = []
 · subst h0
   exact dc_spec_l6Link_c0 ns fr to cc hc0
 · have hne : putK TFlow.frm fs ⟨fr, to, cc⟩ ≠ [] := by unfold putK; simp
   have h := DC.unseenIns (P := Try.prog) (f := 73) (rest := [.int .i64 fr, .int .i64 to, .isl 4 (cc.map TNode.ro)]) TFlow.frm TFlow.to (fun x => owc 4 (x.cond.map TNode.ro)) (fun x => owc_tree 4 _) fs (plF fs fr) (plF_le fs fr) (nlc 5 (ns.map TGNode.oc)) (nlc 5 (ns.map TGNode.oc)) (nlc_tree 5 _) (nlc_tree 5 _) [.int .i64 fr, .int .i64 to, owc 4 ((cc : List TNode).map TNode.ro)] rfl (by intro x hx; simp at hx; rcases hx with rfl | rfl | rfl <;> first | rfl | exact owc_tree 4 _) (fun x w lab p v h => owc_slice h) (by
    intro vs hl hi
    refine dc_spec_l6Link_cv ns vs (plF fs fr) (by rw [hl]; exact plF_le fs fr) (by omega) fr to ?_ ?_ cc hc0
    · intro i x hin hx
      have hlt : i < fs.length := by have := plF_le fs fr; omega
      obtain ⟨y, hy⟩ := at_some hlt
      obtain ⟨u, hu⟩ := hi i y hy
      rw [hx] at hu
      have := plF_lt hin hy
      rw [Option.some.inj hu]; exact this
    · intro x hx
      have hlt : plF fs fr < fs.length := by have := at_lt hx; omega
      obtain ⟨y, hy⟩ := at_some hlt
      obtain ⟨u, hu⟩ := hi _ y hy
      rw [hx] at hu
      have := plF_ge hy
      rw [Option.some.inj hu]; exact this)
   have e1 : grw ns fs = [nlc 5 (ns.map TGNode.oc), .osl 3 (fs.map fun x => [AV.int .i64 x.frm, .int .i64 x.to, owc 4 (x.cond.map TNode.ro)])] := by rw [grw_eq, nlc_map h0]; rfl
   have e2 : grw ns (putK TFlow.frm fs ⟨fr, to, cc⟩) = [nlc 5 (ns.map TGNode.oc), .osl 3 ((fs.map fun x => [AV.int .i64 x.frm, .int .i64 x.to, owc 4 (x.cond.map TNode.ro)]).take (plF fs fr) ++ [.int .i64 fr, .int .i64 to, owc 4 ((cc : List TNode).map TNode.ro)] :: (fs.map fun x => [AV.int .i64 x.frm, .int .i64 x.to, owc 4 (x.cond.map TNode.ro)]).drop (plF fs fr))] := by
    rw [grw_eq, nlc_map hne, plF_put, List.map_append, List.map_cons, List.map_take, List.map_drop]; rfl
   rw [e1, e2]
   exact h

end Go.AM
namespace Go.AM
open Go.Proofs

set_option maxHeartbeats 4000000 in
/-- spec.l6Node -/
theorem dc_spec_l6Node_z (ns : List TGNode) (fs : List TFlow) (kd st ag : Int) (nm : List UInt8) (hn : ns.length ≤ 1000) : DC Try.prog 71 [.op (grw ns fs), .agg [.int .i64 kd, .int .i64 st, .str nm, .int .i64 ag, .nils]] (.int .i64 (ns.length : Nat)) [(0, .op (grw (ns ++ [(⟨kd, st, nm, ag, []⟩ : TGNode)]) fs))] := by
 have hne : nlc 5 ((ns ++ [(⟨kd, st, nm, ag, []⟩ : TGNode)]).map TGNode.oc) = .osl 5 ((ns ++ [(⟨kd, st, nm, ag, []⟩ : TGNode)]).map TGNode.oc) := by rw [List.map_append]; exact nlc_snoc _ _ _
 have htk : (ns.map TGNode.oc).take ns.length = ns.map TGNode.oc := List.take_of_length_le (by rw [List.length_map]; exact Nat.le_refl _)
 have hwl : IntKind.wrap .i64 ((ns.length : Nat) : Int) = ((ns.length : Nat) : Int) := wrap64 (by omega) (by omega)
 have hwz : IntKind.wrap .i64 0 = 0 := wrap64 (by omega) (by omega)
 refine DC.introG tiOk Try.func71 rfl rfl rfl rfl rfl rfl rfl (by simp [noW, noWo]) [] ?_
 refine rg [0,3] ?_
 intro k hk; simp -dsimp [go_sem, -decide_eq_true_eq, -decide_eq_false_iff_not, htk, hwl, hwz]
 repeat' first | apply And.intro | refine hk _ ?_ | intro hg | omega | exact True.intro
 all_goals clear hk k
 rcases nlN ns with ⟨hnc, hl0⟩ | ⟨hnc, hl0⟩
 all_goals (
  rw [hnc]
  try refine AW.thaw 1900 0 0 7001 rfl rfl rfl (by simp [go_sem]) ?_
  refine rg0 [0] ?_
  intro k hk; simp -dsimp (maxSteps := 2000000) [go_sem, -decide_eq_true_eq, -decide_eq_false_iff_not, htk, hwl, hwz]
  repeat' first | ((refine Chk.keys ?_); simp only [go_sem, List.map_cons, List.map_nil, List.flatMap_cons, List.flatMap_nil, List.flatMap_append, List.append_nil, List.nil_append, List.cons_append]; decide +kernel) | apply And.intro | refine hk _ ?_ | intro hg | omega | exact True.intro
  all_goals clear hk k
  first | refine AW.cellLe 12 0 4 (.isl 4 []) rfl rfl rfl (by simp [go_sem]) ?_ | refine AW.cellLe 12 ns.length 4 (.isl 4 []) rfl (app_here (by simp)) rfl (by simp [go_sem]) ?_
  refine rg [0,4] ?_
  intro k hk; simp -dsimp (maxSteps := 2000000) [go_sem, -decide_eq_true_eq, -decide_eq_false_iff_not, htk, hwl, hwz]
  repeat' first | apply And.intro | refine hk _ ?_ | intro hg | omega | exact True.intro
  all_goals clear hk k
  refine AW.ret ⟨.inr rfl, ?_⟩
  refine Gh.fold 1900 0 0 12 rfl rfl rfl rfl (by simp) (by decide) (by first | exact tree_snocA (by simp [go_sem]) (by simp [go_sem]) | (simp only [List.set_append, List.length_map, Nat.lt_irrefl, if_false, ite_false, Nat.sub_self, List.set_cons_zero]; exact tree_snocA (by simp [go_sem]) (by simp [go_sem])) | simp [go_sem]) ?_
  refine Gh.done ?_
  first | (subst hl0; simp [go_sem, Try.results71]; done) | (simp [go_sem, Try.results71, hne, List.set_append]; done) | simp [go_sem, Try.results71, hne, hl0, List.set_append])

set_option maxHeartbeats 4000000 in
/-- spec.l6Node -/
theorem dc_spec_l6Node_o (ns : List TGNode) (fs : List TFlow) (kd st ag : Int) (nm : List UInt8) (e : List TNode) (hn : ns.length ≤ 1000) : DC Try.prog 71 [.op (grw ns fs), .agg [.int .i64 kd, .int .i64 st, .str nm, .int .i64 ag, .osl 4 (e.map TNode.ro)]] (.int .i64 (ns.length : Nat)) [(0, .op (grw (ns ++ [(⟨kd, st, nm, ag, e⟩ : TGNode)]) fs))] := by
 have hne : nlc 5 ((ns ++ [(⟨kd, st, nm, ag, e⟩ : TGNode)]).map TGNode.oc) = .osl 5 ((ns ++ [(⟨kd, st, nm, ag, e⟩ : TGNode)]).map TGNode.oc) := by rw [List.map_append]; exact nlc_snoc _ _ _
 have htk : (ns.map TGNode.oc).take ns.length = ns.map TGNode.oc := List.take_of_length_le (by rw [List.length_map]; exact Nat.le_refl _)
 have hwl : IntKind.wrap .i64 ((ns.length : Nat) : Int) = ((ns.length : Nat) : Int) := wrap64 (by omega) (by omega)
 have hwz : IntKind.wrap .i64 0 = 0 := wrap64 (by omega) (by omega)
 refine DC.introG tiOk Try.func71 rfl rfl rfl rfl rfl rfl rfl (by simp [noW, noWo]) [] ?_
 refine rg [0,3] ?_
 intro k hk; simp -dsimp [go_sem, -decide_eq_true_eq, -decide_eq_false_iff_not, htk, hwl, hwz]
 repeat' first | apply And.intro | refine hk _ ?_ | intro hg | omega | exact True.intro
 all_goals clear hk k
 rcases nlN ns with ⟨hnc, hl0⟩ | ⟨hnc, hl0⟩
 all_goals (
  rw [hnc]
  try refine AW.thaw 1900 0 0 7001 rfl rfl rfl (by simp [go_sem]) ?_
  refine rg0 [0] ?_
  intro k hk; simp -dsimp (maxSteps := 2000000) [go_sem, -decide_eq_true_eq, -decide_eq_false_iff_not, htk, hwl, hwz]
  repeat' first | ((refine Chk.keys ?_); simp only [go_sem, List.map_cons, List.map_nil, List.flatMap_cons, List.flatMap_nil, List.flatMap_append, List.append_nil, List.nil_append, List.cons_append]; decide +kernel) | apply And.intro | refine hk _ ?_ | intro hg | omega | exact True.intro
  all_goals clear hk k
  first | refine AW.fold 12 0 4 1901 rfl rfl rfl rfl (by simp) (by decide) (by simp [go_sem]) ?_ | refine AW.fold 12 ns.length 4 1901 rfl (app_here (by simp)) rfl rfl (by simp) (by decide) (by simp [go_sem]) ?_
  first | refine AW.cellLe 12 0 4 (owc 4 (e.map TNode.ro)) rfl rfl rfl (by simp [go_sem]) ?_ | refine AW.cellLe 12 ns.length 4 (owc 4 (e.map TNode.ro)) rfl (node_here (by simp)) rfl (by simp [go_sem]) ?_
  refine rg [0,4] ?_
  intro k hk; simp -dsimp (maxSteps := 2000000) [go_sem, -decide_eq_true_eq, -decide_eq_false_iff_not, htk, hwl, hwz]
  repeat' first | apply And.intro | refine hk _ ?_ | intro hg | omega | exact True.intro
  all_goals clear hk k
  refine AW.ret ⟨.inr rfl, ?_⟩
  refine Gh.fold 1900 0 0 12 rfl rfl rfl rfl (by simp) (by decide) (by first | exact tree_snocA (by simp [go_sem]) (by simp [go_sem]) | (simp only [List.set_append, List.length_map, Nat.lt_irrefl, if_false, ite_false, Nat.sub_self, List.set_cons_zero]; exact tree_snocA (by simp [go_sem]) (by simp [go_sem])) | simp [go_sem]) ?_
  refine Gh.done ?_
  first | (subst hl0; simp [go_sem, Try.results71]; done) | (simp [go_sem, Try.results71, hne, List.set_append]; done) | simp [go_sem, Try.results71, hne, hl0, List.set_append])

end Go.AM
