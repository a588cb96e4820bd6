/- Plain lemmas: lines and journals. -/
import Derived.Test.YtefkpiameojpoaaPw
set_option linter.unusedVariables false
set_option linter.unusedSimpArgs false
namespace Go.AM

attribute [go_sem] renS AV.ren renL
@[go_sem ↓ high] theorem tree_app (a b : List (List AV)) : (∀ c ∈ a ++ b, ∀ x ∈ c, AV.tree x = true) ↔ (∀ c ∈ a, ∀ x ∈ c, AV.tree x = true) ∧ (∀ c ∈ b, ∀ x ∈ c, AV.tree x = true) := List.forall_mem_append
attribute [go_sem ↓ high] I1_treeL B1_treeL S1_treeL
theorem tree_sub {α : Type} {f : α → List AV} {l : List α} (h : (∀ c ∈ l.map f, ∀ x ∈ c, AV.tree x = true) ↔ True) {m : List (List AV)} (hm : ∀ c ∈ m, c ∈ l.map f) : (∀ c ∈ m, ∀ x ∈ c, AV.tree x = true) ↔ True :=
  ⟨fun _ => trivial, fun _ c hc => h.2 trivial c (hm c hc)⟩
@[go_sem ↓ high] theorem B1_treeT (l : List UInt8) (n : Nat) : (∀ c ∈ List.take n (l.map B1), ∀ x ∈ c, AV.tree x = true) ↔ True := tree_sub (B1_treeL l) fun _ => List.mem_of_mem_take
@[go_sem ↓ high] theorem I1_treeT (l : List Int) (n : Nat) : (∀ c ∈ List.take n (l.map I1), ∀ x ∈ c, AV.tree x = true) ↔ True := tree_sub (I1_treeL l) fun _ => List.mem_of_mem_take
@[go_sem ↓ high] theorem S1_treeT (l : List (List UInt8)) (n : Nat) : (∀ c ∈ List.take n (l.map S1), ∀ x ∈ c, AV.tree x = true) ↔ True := tree_sub (S1_treeL l) fun _ => List.mem_of_mem_take
@[go_sem high] theorem B1_comp : (fun x => List.map unown x) ∘ B1 = B1 := rfl
@[go_sem high] theorem I1_comp : (fun x => List.map unown x) ∘ I1 = I1 := rfl
@[go_sem high] theorem S1_comp : (fun x => List.map unown x) ∘ S1 = S1 := rfl
attribute [go_sem] mkL_len
@[go_sem] theorem take_dropl {α β : Type} (f : α → β) (l : List α) (k : Nat) : List.take (l.length - k) (List.drop k (l.map f)) = List.drop k (l.map f) := List.take_of_length_le (by simp)
@[go_sem] theorem take_mkL {α : Type} (g : α → List AV) (f : Int → α) (n : Nat) (k : Int) : List.take n ((mkL f n k).map g) = (mkL f n k).map g := List.take_of_length_le (by simp [mkL])
@[go_sem ↓ high] theorem decB_td (s : List UInt8) (a b : Nat) : decB (List.take a (List.drop b (s.map B1))) = some (List.take a (List.drop b s)) := by rw [← List.map_drop, ← List.map_take]; exact decB_B1 _
@[go_sem ↓ high] theorem decB_dt (s : List UInt8) (a b : Nat) : decB (List.drop a (List.take b (s.map B1))) = some (List.drop a (List.take b s)) := by rw [← List.map_take, ← List.map_drop]; exact decB_B1 _
@[go_sem ↓ high] theorem decB_t (s : List UInt8) (a : Nat) : decB (List.take a (s.map B1)) = some (List.take a s) := by rw [← List.map_take]; exact decB_B1 _
@[go_sem ↓ high] theorem decB_d (s : List UInt8) (a : Nat) : decB (List.drop a (s.map B1)) = some (List.drop a s) := by rw [← List.map_drop]; exact decB_B1 _
@[go_sem] theorem wrap_i64_byte (b : UInt8) : IntKind.wrap .i64 (b.toNat : Int) = (b.toNat : Int) := by have := b.toNat_lt; exact wrap64 (by omega) (by omega)

/-! chapter 13: a line, packed -/
def sumB (l : List UInt8) (s : Int) : Int := l.foldl (fun s b => (s * 251 + b.toNat) % 65521) s
theorem sumB_bd : ∀ (l : List UInt8) (s : Int), 0 ≤ s ∧ s < 65521 → 0 ≤ sumB l s ∧ sumB l s < 65521 := by
  intro l
  induction l with
  | nil => intro s h; exact h
  | cons x l ih => intro s h; exact ih ((s * 251 + (x.toNat : Int)) % 65521) (by omega)
theorem sumB_step {l : List UInt8} {i : Nat} {x : UInt8} {s : Int} (h : l[i]? = some x) : sumB (l.take (i + 1)) s = (sumB (l.take i) s * 251 + x.toNat) % 65521 := by
  rw [List.take_add_one, h]; simp [sumB, List.foldl_append]
def pkH (s : List UInt8) : List UInt8 := b8 s.length :: s
def pk (s : List UInt8) : List UInt8 := pkH s ++ [b8 (sumB (pkH s) 1 / 256), b8 (sumB (pkH s) 1)]
theorem pkH_len (s : List UInt8) : (pkH s).length = s.length + 1 := rfl
theorem pk_len (s : List UInt8) : (pk s).length = s.length + 3 := by simp [pk, pkH]
theorem pk_cons (s : List UInt8) : ∃ x r, pk s = x :: r := ⟨_, _, rfl⟩
theorem b8_mod (n : Int) : b8 (n % 256) = b8 n := by unfold b8; rw [Int.emod_emod_of_dvd n (Int.dvd_refl 256)]
def packR (s : List UInt8) : TBytesResult := if lineF s = 0 then ⟨0, pk s⟩ else ⟨lineF s, []⟩
def hasP (d p : List UInt8) : Bool := decide (p.length ≤ d.length) && decide (d.take p.length = p)

/-! chapter 13: the line at a beginning -/
def n0 (d : List UInt8) : Nat := (d.headD 0).toNat
def lnT (d : List UInt8) : List UInt8 := (d.take (n0 d + 1)).drop 1
def isL (d : List UInt8) : Bool := decide (n0 d + 3 ≤ d.length) && decide (lineF (lnT d) = 0) && decide (d.take (n0 d + 3) = pk (lnT d))
theorem n0_cons (x : UInt8) (r : List UInt8) : n0 (x :: r) = x.toNat := rfl
theorem n0_lt (d : List UInt8) : n0 d < 256 := (d.headD 0).toNat_lt
theorem lnT_cons (x : UInt8) (r : List UInt8) : lnT (x :: r) = r.take x.toNat := by simp [lnT, n0]
theorem lnT_le (d : List UInt8) : (lnT d).length ≤ 255 := by have := n0_lt d; simp [lnT]; omega
theorem lnT_len {d : List UInt8} (h : n0 d + 3 ≤ d.length) : (lnT d).length = n0 d := by simp [lnT]; omega
theorem isL_nil : isL [] = false := by simp [isL, n0]
theorem isL_cons (x : UInt8) (r : List UInt8) : isL (x :: r) = (decide (x.toNat + 2 ≤ r.length) && decide (lineF (r.take x.toNat) = 0) && decide (x :: r.take (x.toNat + 2) = pk (r.take x.toNat))) := by
  simp [isL, n0, lnT]
theorem isL_bd {d : List UInt8} (h : isL d = true) : n0 d + 3 ≤ d.length ∧ lineF (lnT d) = 0 ∧ 1 ≤ n0 d := by
  simp only [isL, Bool.and_eq_true, decide_eq_true_eq] at h
  obtain ⟨⟨h1, h2⟩, _⟩ := h
  refine ⟨h1, h2, ?_⟩
  have h3 := lnT_len h1
  rcases Nat.eq_zero_or_pos (n0 d) with h0 | h0
  · rw [lineF_bad (by omega)] at h2; cases h2
  · exact h0

def rdL : Nat → List UInt8 → List (List UInt8) × Nat
  | 0, _ => ([], 0)
  | f + 1, d => if isL d = true then (lnT d :: (rdL f (d.drop (n0 d + 3))).1, n0 d + 3 + (rdL f (d.drop (n0 d + 3))).2) else ([], 0)
def rd (d : List UInt8) : List (List UInt8) × Nat := rdL d.length d
theorem rdL_more : ∀ (n m : Nat) (d : List UInt8), d.length ≤ n → d.length ≤ m → rdL n d = rdL m d := by
  intro n
  induction n with
  | zero =>
    intro m d h _
    have : d = [] := List.eq_nil_of_length_eq_zero (by omega)
    subst this
    cases m with
    | zero => rfl
    | succ m => simp [rdL, isL_nil]
  | succ n ih =>
    intro m d h h2
    cases m with
    | zero =>
      have : d = [] := List.eq_nil_of_length_eq_zero (by omega)
      subst this
      simp [rdL, isL_nil]
    | succ m =>
      simp only [rdL]
      split
      · rename_i hl
        have := isL_bd hl
        rw [ih m (d.drop (n0 d + 3)) (by simp; omega) (by simp; omega)]
      · rfl
theorem rd_yes {d : List UInt8} (h : isL d = true) : rd d = (lnT d :: (rd (d.drop (n0 d + 3))).1, n0 d + 3 + (rd (d.drop (n0 d + 3))).2) := by
  have hb := isL_bd h
  obtain ⟨m, hm⟩ : ∃ m, d.length = m + 1 := ⟨d.length - 1, by omega⟩
  unfold rd
  rw [hm]
  simp only [rdL]
  rw [if_pos h, rdL_more m (d.drop (n0 d + 3)).length (d.drop (n0 d + 3)) (by simp; omega) (Nat.le_refl _)]
theorem rd_no {d : List UInt8} (h : isL d = false) : rd d = ([], 0) := by
  unfold rd
  cases d.length with
  | zero => rfl
  | succ m => simp [rdL, h]
theorem rd_bd : ∀ (n : Nat) (d : List UInt8), d.length ≤ n → (rd d).2 ≤ d.length ∧ 4 * (rd d).1.length ≤ (rd d).2 := by
  intro n
  induction n with
  | zero =>
    intro d h
    have : d = [] := List.eq_nil_of_length_eq_zero (by omega)
    subst this
    rw [rd_no isL_nil]; simp
  | succ n ih =>
    intro d h
    by_cases hl : isL d = true
    · have hb := isL_bd hl
      have := ih (d.drop (n0 d + 3)) (by simp; omega)
      rw [rd_yes hl]
      simp at this ⊢
      omega
    · rw [rd_no (by simpa using hl)]; simp
theorem rd_le (d : List UInt8) : (rd d).2 ≤ d.length := (rd_bd _ d (Nat.le_refl _)).1
theorem rd_lines (d : List UInt8) : 4 * (rd d).1.length ≤ d.length := by have := rd_bd _ d (Nat.le_refl _); omega

def whole (d : List UInt8) : Bool := decide ((rd d).2 = d.length)
def jouF (j : TJournal) : Int := if 2400 < j.sure.length + j.loose.length then 2 else if whole j.sure && whole j.loose then 0 else 5

@[go_sem] theorem mapM_B1 (s : List UInt8) : List.mapM byteOfCell (s.map B1) = some s := decB_B1 s
@[go_sem] theorem mapM_B1_t (s : List UInt8) (a : Nat) : List.mapM byteOfCell (List.take a (s.map B1)) = some (List.take a s) := decB_t s a
@[go_sem] theorem mapM_B1_d (s : List UInt8) (a : Nat) : List.mapM byteOfCell (List.drop a (s.map B1)) = some (List.drop a s) := decB_d s a
@[go_sem high] theorem mapM_comp (s : List UInt8) : List.mapM (byteOfCell ∘ B1) s = some s := by rw [← List.mapM_map]; exact decB_B1 s
theorem isL_iff {x : UInt8} {r : List UInt8} : isL (x :: r) = true ↔ x.toNat + 2 ≤ r.length ∧ lineF (r.take x.toNat) = 0 ∧ pk (r.take x.toNat) = x :: r.take (x.toNat + 2) := by
  rw [isL_cons]; simp only [Bool.and_eq_true, decide_eq_true_eq, and_assoc]
  constructor
  · rintro ⟨h1, h2, h3⟩; exact ⟨h1, h2, h3.symm⟩
  · rintro ⟨h1, h2, h3⟩; exact ⟨h1, h2, h3.symm⟩
theorem isL_not {x : UInt8} {r : List UInt8} (h : x.toNat + 2 ≤ r.length → lineF (r.take x.toNat) = 0 → pk (r.take x.toNat) = x :: r.take (x.toNat + 2) → 1 ≤ x.toNat → False) : isL (x :: r) = false := by
  rw [← Bool.not_eq_true]
  intro hL
  have hb := isL_bd hL
  obtain ⟨h1, h2, h3⟩ := isL_iff.1 hL
  exact h h1 h2 h3 hb.2.2
def lnA (d : List UInt8) : List UInt8 := if n0 d + 3 ≤ d.length then lnT d else []
theorem lnA_cons (x : UInt8) (r : List UInt8) : lnA (x :: r) = if x.toNat + 2 ≤ r.length then r.take x.toNat else [] := by
  unfold lnA; rw [lnT_cons, n0_cons]; simp
theorem lnA_yes {d : List UInt8} (h : isL d = true) : lnA d = lnT d := by unfold lnA; rw [if_pos (isL_bd h).1]
theorem hasP_pk {x : UInt8} {r : List UInt8} (h : x.toNat + 2 ≤ r.length) : hasP (x :: r) (pk (r.take x.toNat)) = decide (x :: r.take (x.toNat + 2) = pk (r.take x.toNat)) := by
  unfold hasP
  have e : (pk (r.take x.toNat)).length = x.toNat + 3 := by rw [pk_len]; simp; omega
  rw [e, Bool.eq_iff_iff]
  simp [h]
  exact decide_eq_true_iff
theorem whole_eq (d : List UInt8) : whole d = decide (d.length - (rd d).2 = 0) := by
  have := rd_le d
  unfold whole
  rw [Bool.eq_iff_iff]; simp; omega
/-- is there a line behind the first byte? -/
def brk (e : List UInt8) (i : Nat) : Bool := (List.range i).any fun k => decide (1 ≤ k) && isL (e.drop k)
theorem brk_step {e : List UInt8} {i : Nat} (h : 1 ≤ i) : brk e (i + 1) = (brk e i || isL (e.drop i)) := by
  unfold brk; rw [List.range_succ, List.any_append]; simp [h]
theorem brk_one (e : List UInt8) : brk e 1 = false := by simp [brk]
theorem brk_zero (e : List UInt8) : brk e 0 = false := by simp [brk]
theorem brk_mono {e : List UInt8} {i j : Nat} (h : i ≤ j) (hb : brk e i = true) : brk e j = true := by
  unfold brk at *
  simp only [List.any_eq_true, List.mem_range] at *
  obtain ⟨k, h1, h2⟩ := hb
  exact ⟨k, by omega, h2⟩
theorem brk_end {e : List UInt8} {i n : Nat} (h1 : 1 ≤ i) (h2 : n ≤ i) (h3 : i = 1 ∨ i ≤ n) : brk e i = brk e n := by
  rcases h3 with rfl | h3
  · rw [brk_one]
    rcases Nat.eq_zero_or_pos n with h | h
    · subst h; rw [brk_zero]
    · obtain rfl : n = 1 := by omega
      rw [brk_one]
  · rw [show i = n by omega]
def linesR (d : List UInt8) : TLinesResult := if 2400 < d.length then ⟨2, false, []⟩ else ⟨0, brk (d.drop (rd d).2) (d.drop (rd d).2).length, (rd d).1⟩
end Go.AM
