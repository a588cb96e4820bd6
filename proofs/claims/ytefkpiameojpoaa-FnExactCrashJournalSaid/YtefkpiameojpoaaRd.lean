/- What the laws are given, read. -/
import Derived.Test.YtefkpiameojpoaaAm23
import Derived.Test.YtefkpiameojpoaaTy
set_option linter.unusedVariables false
set_option linter.unusedSimpArgs false
namespace Go.AM
open Go.Proofs
open Go.ChangeShapes Go.WideShapes Go.RowKit
set_option linter.unusedVariables false

abbrev rd_2 := Rd.int (t := 2) (cellsOf_of tiOk ti_2) Try.underlying2
abbrev rd_24 := Rd.slice (t := 24) rd_2 (by decide) (cellsOf_of tiOk ti_24) Try.underlying24
theorem rd_26 : Rd Try.prog 26 TChart TChart.ro TChart.gok 5 := by
  refine ⟨cellsOf_of tiOk ti_26, ?_⟩
  intro H enc w base spare held fuel cs x h
  obtain ⟨xs, n, rfl, rfl, hl, hn, hf⟩ := DataW.trod_struct Try.underlying26 h
  have hl : cs.length = 5 := by rw [hl]; exact cellsOf_of tiOk ti_26
  have e0 : DataW.trod enc Try.prog w base spare held n 2 ((cs.drop 0).take (Try.prog.cellsOf 2)) = xs[0]? := hf 0 _ rfl
  obtain ⟨y0, hy0⟩ : ∃ y, xs[0]? = some y := ⟨xs[0]'(by rw [hn]; decide), List.getElem?_eq_getElem _⟩
  rw [hy0, rd_2.size] at e0
  obtain ⟨a0, o0, r0, _⟩ := rd_2.read enc w base spare held n _ _ e0
  have e1 : DataW.trod enc Try.prog w base spare held n 2 ((cs.drop 1).take (Try.prog.cellsOf 2)) = xs[1]? := hf 1 _ rfl
  obtain ⟨y1, hy1⟩ : ∃ y, xs[1]? = some y := ⟨xs[1]'(by rw [hn]; decide), List.getElem?_eq_getElem _⟩
  rw [hy1, rd_2.size] at e1
  obtain ⟨a1, o1, r1, _⟩ := rd_2.read enc w base spare held n _ _ e1
  have e2 : DataW.trod enc Try.prog w base spare held n 24 ((cs.drop 2).take (Try.prog.cellsOf 24)) = xs[2]? := hf 2 _ rfl
  obtain ⟨y2, hy2⟩ : ∃ y, xs[2]? = some y := ⟨xs[2]'(by rw [hn]; decide), List.getElem?_eq_getElem _⟩
  rw [hy2, rd_24.size] at e2
  obtain ⟨a2, o2, r2, _⟩ := rd_24.read enc w base spare held n _ _ e2
  have e3 : DataW.trod enc Try.prog w base spare held n 24 ((cs.drop 3).take (Try.prog.cellsOf 24)) = xs[3]? := hf 3 _ rfl
  obtain ⟨y3, hy3⟩ : ∃ y, xs[3]? = some y := ⟨xs[3]'(by rw [hn]; decide), List.getElem?_eq_getElem _⟩
  rw [hy3, rd_24.size] at e3
  obtain ⟨a3, o3, r3, _⟩ := rd_24.read enc w base spare held n _ _ e3
  have e4 : DataW.trod enc Try.prog w base spare held n 24 ((cs.drop 4).take (Try.prog.cellsOf 24)) = xs[4]? := hf 4 _ rfl
  obtain ⟨y4, hy4⟩ : ∃ y, xs[4]? = some y := ⟨xs[4]'(by rw [hn]; decide), List.getElem?_eq_getElem _⟩
  rw [hy4, rd_24.size] at e4
  obtain ⟨a4, o4, r4, _⟩ := rd_24.read enc w base spare held n _ _ e4
  refine ⟨⟨a0, a1, a2, a3, a4⟩, ⟨o2.1, o3.1, o4.1⟩, ?_, hl⟩
  exact RdC.cons (o := 0) (s := 1) r0 (RdC.cons (o := 1) (s := 1) r1 (RdC.cons (o := 2) (s := 1) r2 (RdC.cons (o := 3) (s := 1) r3 (RdC.cons (o := 4) (s := 1) r4 (RdC.nil (List.drop_eq_nil_of_le (show cs.length ≤ 5 by omega)))))))
theorem rd_33 : Rd Try.prog 33 TRun TRun.ro TRun.gok 5 := by
  refine ⟨cellsOf_of tiOk ti_33, ?_⟩
  intro H enc w base spare held fuel cs x h
  obtain ⟨xs, n, rfl, rfl, hl, hn, hf⟩ := DataW.trod_struct Try.underlying33 h
  have hl : cs.length = 5 := by rw [hl]; exact cellsOf_of tiOk ti_33
  have e0 : DataW.trod enc Try.prog w base spare held n 2 ((cs.drop 0).take (Try.prog.cellsOf 2)) = xs[0]? := hf 0 _ rfl
  obtain ⟨y0, hy0⟩ : ∃ y, xs[0]? = some y := ⟨xs[0]'(by rw [hn]; decide), List.getElem?_eq_getElem _⟩
  rw [hy0, rd_2.size] at e0
  obtain ⟨a0, o0, r0, _⟩ := rd_2.read enc w base spare held n _ _ e0
  have e1 : DataW.trod enc Try.prog w base spare held n 2 ((cs.drop 1).take (Try.prog.cellsOf 2)) = xs[1]? := hf 1 _ rfl
  obtain ⟨y1, hy1⟩ : ∃ y, xs[1]? = some y := ⟨xs[1]'(by rw [hn]; decide), List.getElem?_eq_getElem _⟩
  rw [hy1, rd_2.size] at e1
  obtain ⟨a1, o1, r1, _⟩ := rd_2.read enc w base spare held n _ _ e1
  have e2 : DataW.trod enc Try.prog w base spare held n 24 ((cs.drop 2).take (Try.prog.cellsOf 24)) = xs[2]? := hf 2 _ rfl
  obtain ⟨y2, hy2⟩ : ∃ y, xs[2]? = some y := ⟨xs[2]'(by rw [hn]; decide), List.getElem?_eq_getElem _⟩
  rw [hy2, rd_24.size] at e2
  obtain ⟨a2, o2, r2, _⟩ := rd_24.read enc w base spare held n _ _ e2
  have e3 : DataW.trod enc Try.prog w base spare held n 24 ((cs.drop 3).take (Try.prog.cellsOf 24)) = xs[3]? := hf 3 _ rfl
  obtain ⟨y3, hy3⟩ : ∃ y, xs[3]? = some y := ⟨xs[3]'(by rw [hn]; decide), List.getElem?_eq_getElem _⟩
  rw [hy3, rd_24.size] at e3
  obtain ⟨a3, o3, r3, _⟩ := rd_24.read enc w base spare held n _ _ e3
  have e4 : DataW.trod enc Try.prog w base spare held n 24 ((cs.drop 4).take (Try.prog.cellsOf 24)) = xs[4]? := hf 4 _ rfl
  obtain ⟨y4, hy4⟩ : ∃ y, xs[4]? = some y := ⟨xs[4]'(by rw [hn]; decide), List.getElem?_eq_getElem _⟩
  rw [hy4, rd_24.size] at e4
  obtain ⟨a4, o4, r4, _⟩ := rd_24.read enc w base spare held n _ _ e4
  refine ⟨⟨a0, a1, a2, a3, a4⟩, ⟨o2.1, o3.1, o4.1⟩, ?_, hl⟩
  exact RdC.cons (o := 0) (s := 1) r0 (RdC.cons (o := 1) (s := 1) r1 (RdC.cons (o := 2) (s := 1) r2 (RdC.cons (o := 3) (s := 1) r3 (RdC.cons (o := 4) (s := 1) r4 (RdC.nil (List.drop_eq_nil_of_le (show cs.length ≤ 5 by omega)))))))
theorem rd_40 : Rd Try.prog 40 TAct TAct.ro TAct.gok 3 := by
  refine ⟨cellsOf_of tiOk ti_40, ?_⟩
  intro H enc w base spare held fuel cs x h
  obtain ⟨xs, n, rfl, rfl, hl, hn, hf⟩ := DataW.trod_struct Try.underlying40 h
  have hl : cs.length = 3 := by rw [hl]; exact cellsOf_of tiOk ti_40
  have e0 : DataW.trod enc Try.prog w base spare held n 2 ((cs.drop 0).take (Try.prog.cellsOf 2)) = xs[0]? := hf 0 _ rfl
  obtain ⟨y0, hy0⟩ : ∃ y, xs[0]? = some y := ⟨xs[0]'(by rw [hn]; decide), List.getElem?_eq_getElem _⟩
  rw [hy0, rd_2.size] at e0
  obtain ⟨a0, o0, r0, _⟩ := rd_2.read enc w base spare held n _ _ e0
  have e1 : DataW.trod enc Try.prog w base spare held n 2 ((cs.drop 1).take (Try.prog.cellsOf 2)) = xs[1]? := hf 1 _ rfl
  obtain ⟨y1, hy1⟩ : ∃ y, xs[1]? = some y := ⟨xs[1]'(by rw [hn]; decide), List.getElem?_eq_getElem _⟩
  rw [hy1, rd_2.size] at e1
  obtain ⟨a1, o1, r1, _⟩ := rd_2.read enc w base spare held n _ _ e1
  have e2 : DataW.trod enc Try.prog w base spare held n 24 ((cs.drop 2).take (Try.prog.cellsOf 24)) = xs[2]? := hf 2 _ rfl
  obtain ⟨y2, hy2⟩ : ∃ y, xs[2]? = some y := ⟨xs[2]'(by rw [hn]; decide), List.getElem?_eq_getElem _⟩
  rw [hy2, rd_24.size] at e2
  obtain ⟨a2, o2, r2, _⟩ := rd_24.read enc w base spare held n _ _ e2
  refine ⟨⟨a0, a1, a2⟩, o2.1, ?_, hl⟩
  exact RdC.cons (o := 0) (s := 1) r0 (RdC.cons (o := 1) (s := 1) r1 (RdC.cons (o := 2) (s := 1) r2 (RdC.nil (List.drop_eq_nil_of_le (show cs.length ≤ 3 by omega)))))
abbrev rd_9 := Rd.str (t := 9) (cellsOf_of tiOk ti_9) Try.underlying9
abbrev rd_5 := Rd.byte (t := 5) (cellsOf_of tiOk ti_5) Try.underlying5
abbrev rd_47 := Rd.slice (t := 47) rd_5 (by decide) (cellsOf_of tiOk ti_47) Try.underlying47
theorem rd_54 : Rd Try.prog 54 TJournal TJournal.ro TJournal.gok 2 := by
  refine ⟨cellsOf_of tiOk ti_54, ?_⟩
  intro H enc w base spare held fuel cs x h
  obtain ⟨xs, n, rfl, rfl, hl, hn, hf⟩ := DataW.trod_struct Try.underlying54 h
  have hl : cs.length = 2 := by rw [hl]; exact cellsOf_of tiOk ti_54
  have e0 : DataW.trod enc Try.prog w base spare held n 47 ((cs.drop 0).take (Try.prog.cellsOf 47)) = xs[0]? := hf 0 _ rfl
  obtain ⟨y0, hy0⟩ : ∃ y, xs[0]? = some y := ⟨xs[0]'(by rw [hn]; decide), List.getElem?_eq_getElem _⟩
  rw [hy0, rd_47.size] at e0
  obtain ⟨a0, o0, r0, _⟩ := rd_47.read enc w base spare held n _ _ e0
  have e1 : DataW.trod enc Try.prog w base spare held n 47 ((cs.drop 1).take (Try.prog.cellsOf 47)) = xs[1]? := hf 1 _ rfl
  obtain ⟨y1, hy1⟩ : ∃ y, xs[1]? = some y := ⟨xs[1]'(by rw [hn]; decide), List.getElem?_eq_getElem _⟩
  rw [hy1, rd_47.size] at e1
  obtain ⟨a1, o1, r1, _⟩ := rd_47.read enc w base spare held n _ _ e1
  refine ⟨⟨a0, a1⟩, ⟨o0.1, o1.1⟩, ?_, hl⟩
  exact RdC.cons (o := 0) (s := 1) r0 (RdC.cons (o := 1) (s := 1) r1 (RdC.nil (List.drop_eq_nil_of_le (show cs.length ≤ 2 by omega))))
theorem rd_201 : Rd Try.prog 201 TNode TNode.ro (fun _ => True) 4 := by
  refine ⟨cellsOf_of tiOk ti_201, ?_⟩
  intro H enc w base spare held fuel cs x h
  obtain ⟨xs, n, rfl, rfl, hl, hn, hf⟩ := DataW.trod_struct Try.underlying201 h
  have hl : cs.length = 4 := by rw [hl]; exact cellsOf_of tiOk ti_201
  have e0 : DataW.trod enc Try.prog w base spare held n 2 ((cs.drop 0).take (Try.prog.cellsOf 2)) = xs[0]? := hf 0 _ rfl
  obtain ⟨y0, hy0⟩ : ∃ y, xs[0]? = some y := ⟨xs[0]'(by rw [hn]; decide), List.getElem?_eq_getElem _⟩
  rw [hy0, rd_2.size] at e0
  obtain ⟨a0, o0, r0, _⟩ := rd_2.read enc w base spare held n _ _ e0
  have e1 : DataW.trod enc Try.prog w base spare held n 2 ((cs.drop 1).take (Try.prog.cellsOf 2)) = xs[1]? := hf 1 _ rfl
  obtain ⟨y1, hy1⟩ : ∃ y, xs[1]? = some y := ⟨xs[1]'(by rw [hn]; decide), List.getElem?_eq_getElem _⟩
  rw [hy1, rd_2.size] at e1
  obtain ⟨a1, o1, r1, _⟩ := rd_2.read enc w base spare held n _ _ e1
  have e2 : DataW.trod enc Try.prog w base spare held n 2 ((cs.drop 2).take (Try.prog.cellsOf 2)) = xs[2]? := hf 2 _ rfl
  obtain ⟨y2, hy2⟩ : ∃ y, xs[2]? = some y := ⟨xs[2]'(by rw [hn]; decide), List.getElem?_eq_getElem _⟩
  rw [hy2, rd_2.size] at e2
  obtain ⟨a2, o2, r2, _⟩ := rd_2.read enc w base spare held n _ _ e2
  have e3 : DataW.trod enc Try.prog w base spare held n 2 ((cs.drop 3).take (Try.prog.cellsOf 2)) = xs[3]? := hf 3 _ rfl
  obtain ⟨y3, hy3⟩ : ∃ y, xs[3]? = some y := ⟨xs[3]'(by rw [hn]; decide), List.getElem?_eq_getElem _⟩
  rw [hy3, rd_2.size] at e3
  obtain ⟨a3, o3, r3, _⟩ := rd_2.read enc w base spare held n _ _ e3
  refine ⟨⟨a0, a1, a2, a3⟩, trivial, ?_, hl⟩
  exact RdC.cons (o := 0) (s := 1) r0 (RdC.cons (o := 1) (s := 1) r1 (RdC.cons (o := 2) (s := 1) r2 (RdC.cons (o := 3) (s := 1) r3 (RdC.nil (List.drop_eq_nil_of_le (show cs.length ≤ 4 by omega))))))
abbrev rd_194 := Rd.slice (t := 194) rd_201 (by decide) (cellsOf_of tiOk ti_194) Try.underlying194
theorem rd_196 : Rd Try.prog 196 TStep TStep.ro TStep.gok 6 := by
  refine ⟨cellsOf_of tiOk ti_196, ?_⟩
  intro H enc w base spare held fuel cs x h
  obtain ⟨xs, n, rfl, rfl, hl, hn, hf⟩ := DataW.trod_struct Try.underlying196 h
  have hl : cs.length = 6 := by rw [hl]; exact cellsOf_of tiOk ti_196
  have e0 : DataW.trod enc Try.prog w base spare held n 2 ((cs.drop 0).take (Try.prog.cellsOf 2)) = xs[0]? := hf 0 _ rfl
  obtain ⟨y0, hy0⟩ : ∃ y, xs[0]? = some y := ⟨xs[0]'(by rw [hn]; decide), List.getElem?_eq_getElem _⟩
  rw [hy0, rd_2.size] at e0
  obtain ⟨a0, o0, r0, _⟩ := rd_2.read enc w base spare held n _ _ e0
  have e1 : DataW.trod enc Try.prog w base spare held n 2 ((cs.drop 1).take (Try.prog.cellsOf 2)) = xs[1]? := hf 1 _ rfl
  obtain ⟨y1, hy1⟩ : ∃ y, xs[1]? = some y := ⟨xs[1]'(by rw [hn]; decide), List.getElem?_eq_getElem _⟩
  rw [hy1, rd_2.size] at e1
  obtain ⟨a1, o1, r1, _⟩ := rd_2.read enc w base spare held n _ _ e1
  have e2 : DataW.trod enc Try.prog w base spare held n 9 ((cs.drop 2).take (Try.prog.cellsOf 9)) = xs[2]? := hf 2 _ rfl
  obtain ⟨y2, hy2⟩ : ∃ y, xs[2]? = some y := ⟨xs[2]'(by rw [hn]; decide), List.getElem?_eq_getElem _⟩
  rw [hy2, rd_9.size] at e2
  obtain ⟨a2, o2, r2, _⟩ := rd_9.read enc w base spare held n _ _ e2
  have e3 : DataW.trod enc Try.prog w base spare held n 2 ((cs.drop 3).take (Try.prog.cellsOf 2)) = xs[3]? := hf 3 _ rfl
  obtain ⟨y3, hy3⟩ : ∃ y, xs[3]? = some y := ⟨xs[3]'(by rw [hn]; decide), List.getElem?_eq_getElem _⟩
  rw [hy3, rd_2.size] at e3
  obtain ⟨a3, o3, r3, _⟩ := rd_2.read enc w base spare held n _ _ e3
  have e4 : DataW.trod enc Try.prog w base spare held n 194 ((cs.drop 4).take (Try.prog.cellsOf 194)) = xs[4]? := hf 4 _ rfl
  obtain ⟨y4, hy4⟩ : ∃ y, xs[4]? = some y := ⟨xs[4]'(by rw [hn]; decide), List.getElem?_eq_getElem _⟩
  rw [hy4, rd_194.size] at e4
  obtain ⟨a4, o4, r4, _⟩ := rd_194.read enc w base spare held n _ _ e4
  have e5 : DataW.trod enc Try.prog w base spare held n 194 ((cs.drop 5).take (Try.prog.cellsOf 194)) = xs[5]? := hf 5 _ rfl
  obtain ⟨y5, hy5⟩ : ∃ y, xs[5]? = some y := ⟨xs[5]'(by rw [hn]; decide), List.getElem?_eq_getElem _⟩
  rw [hy5, rd_194.size] at e5
  obtain ⟨a5, o5, r5, _⟩ := rd_194.read enc w base spare held n _ _ e5
  refine ⟨⟨a0, a1, a2, a3, a4, a5⟩, ⟨o2, o4.1, o5.1⟩, ?_, hl⟩
  exact RdC.cons (o := 0) (s := 1) r0 (RdC.cons (o := 1) (s := 1) r1 (RdC.cons (o := 2) (s := 1) r2 (RdC.cons (o := 3) (s := 1) r3 (RdC.cons (o := 4) (s := 1) r4 (RdC.cons (o := 5) (s := 1) r5 (RdC.nil (List.drop_eq_nil_of_le (show cs.length ≤ 6 by omega))))))))
abbrev rd_170 := Rd.slice (t := 170) rd_196 (by decide) (cellsOf_of tiOk ti_170) Try.underlying170
theorem rd_172 : Rd Try.prog 172 TProc TProc.ro TProc.gok 1 := by
  refine ⟨cellsOf_of tiOk ti_172, ?_⟩
  intro H enc w base spare held fuel cs x h
  obtain ⟨xs, n, rfl, rfl, hl, hn, hf⟩ := DataW.trod_struct Try.underlying172 h
  have hl : cs.length = 1 := by rw [hl]; exact cellsOf_of tiOk ti_172
  have e0 : DataW.trod enc Try.prog w base spare held n 170 ((cs.drop 0).take (Try.prog.cellsOf 170)) = xs[0]? := hf 0 _ rfl
  obtain ⟨y0, hy0⟩ : ∃ y, xs[0]? = some y := ⟨xs[0]'(by rw [hn]; decide), List.getElem?_eq_getElem _⟩
  rw [hy0, rd_170.size] at e0
  obtain ⟨a0, o0, r0, _⟩ := rd_170.read enc w base spare held n _ _ e0
  refine ⟨⟨a0⟩, o0, ?_, hl⟩
  exact RdC.cons (o := 0) (s := 1) r0 (RdC.nil (List.drop_eq_nil_of_le (show cs.length ≤ 1 by omega)))
abbrev rd_87 := Rd.slice (t := 87) rd_172 (by decide) (cellsOf_of tiOk ti_87) Try.underlying87
theorem rd_175 : Rd Try.prog 175 TInst TInst.ro TInst.gok 6 := by
  refine ⟨cellsOf_of tiOk ti_175, ?_⟩
  intro H enc w base spare held fuel cs x h
  obtain ⟨xs, n, rfl, rfl, hl, hn, hf⟩ := DataW.trod_struct Try.underlying175 h
  have hl : cs.length = 6 := by rw [hl]; exact cellsOf_of tiOk ti_175
  have e0 : DataW.trod enc Try.prog w base spare held n 2 ((cs.drop 0).take (Try.prog.cellsOf 2)) = xs[0]? := hf 0 _ rfl
  obtain ⟨y0, hy0⟩ : ∃ y, xs[0]? = some y := ⟨xs[0]'(by rw [hn]; decide), List.getElem?_eq_getElem _⟩
  rw [hy0, rd_2.size] at e0
  obtain ⟨a0, o0, r0, _⟩ := rd_2.read enc w base spare held n _ _ e0
  have e1 : DataW.trod enc Try.prog w base spare held n 26 ((cs.drop 1).take (Try.prog.cellsOf 26)) = xs[1]? := hf 1 _ rfl
  obtain ⟨y1, hy1⟩ : ∃ y, xs[1]? = some y := ⟨xs[1]'(by rw [hn]; decide), List.getElem?_eq_getElem _⟩
  rw [hy1, rd_26.size] at e1
  obtain ⟨a1, o1, r1, _⟩ := rd_26.read enc w base spare held n _ _ e1
  refine ⟨⟨a0, a1⟩, o1, ?_, hl⟩
  exact RdC.cons (o := 0) (s := 1) r0 (RdC.cons (o := 1) (s := 5) r1 (RdC.nil (List.drop_eq_nil_of_le (show cs.length ≤ 6 by omega))))
abbrev rd_88 := Rd.slice (t := 88) rd_175 (by decide) (cellsOf_of tiOk ti_88) Try.underlying88
theorem rd_90 : Rd Try.prog 90 TEngine TEngine.ro TEngine.gok 3 := by
  refine ⟨cellsOf_of tiOk ti_90, ?_⟩
  intro H enc w base spare held fuel cs x h
  obtain ⟨xs, n, rfl, rfl, hl, hn, hf⟩ := DataW.trod_struct Try.underlying90 h
  have hl : cs.length = 3 := by rw [hl]; exact cellsOf_of tiOk ti_90
  have e0 : DataW.trod enc Try.prog w base spare held n 87 ((cs.drop 0).take (Try.prog.cellsOf 87)) = xs[0]? := hf 0 _ rfl
  obtain ⟨y0, hy0⟩ : ∃ y, xs[0]? = some y := ⟨xs[0]'(by rw [hn]; decide), List.getElem?_eq_getElem _⟩
  rw [hy0, rd_87.size] at e0
  obtain ⟨a0, o0, r0, _⟩ := rd_87.read enc w base spare held n _ _ e0
  have e1 : DataW.trod enc Try.prog w base spare held n 88 ((cs.drop 1).take (Try.prog.cellsOf 88)) = xs[1]? := hf 1 _ rfl
  obtain ⟨y1, hy1⟩ : ∃ y, xs[1]? = some y := ⟨xs[1]'(by rw [hn]; decide), List.getElem?_eq_getElem _⟩
  rw [hy1, rd_88.size] at e1
  obtain ⟨a1, o1, r1, _⟩ := rd_88.read enc w base spare held n _ _ e1
  have e2 : DataW.trod enc Try.prog w base spare held n 2 ((cs.drop 2).take (Try.prog.cellsOf 2)) = xs[2]? := hf 2 _ rfl
  obtain ⟨y2, hy2⟩ : ∃ y, xs[2]? = some y := ⟨xs[2]'(by rw [hn]; decide), List.getElem?_eq_getElem _⟩
  rw [hy2, rd_2.size] at e2
  obtain ⟨a2, o2, r2, _⟩ := rd_2.read enc w base spare held n _ _ e2
  refine ⟨⟨a0, a1, a2⟩, ⟨o0, o1⟩, ?_, hl⟩
  exact RdC.cons (o := 0) (s := 1) r0 (RdC.cons (o := 1) (s := 1) r1 (RdC.cons (o := 2) (s := 1) r2 (RdC.nil (List.drop_eq_nil_of_le (show cs.length ≤ 3 by omega)))))
theorem rd_186 : Rd Try.prog 186 TClaim TClaim.ro (fun _ => True) 3 := by
  refine ⟨cellsOf_of tiOk ti_186, ?_⟩
  intro H enc w base spare held fuel cs x h
  obtain ⟨xs, n, rfl, rfl, hl, hn, hf⟩ := DataW.trod_struct Try.underlying186 h
  have hl : cs.length = 3 := by rw [hl]; exact cellsOf_of tiOk ti_186
  have e0 : DataW.trod enc Try.prog w base spare held n 2 ((cs.drop 0).take (Try.prog.cellsOf 2)) = xs[0]? := hf 0 _ rfl
  obtain ⟨y0, hy0⟩ : ∃ y, xs[0]? = some y := ⟨xs[0]'(by rw [hn]; decide), List.getElem?_eq_getElem _⟩
  rw [hy0, rd_2.size] at e0
  obtain ⟨a0, o0, r0, _⟩ := rd_2.read enc w base spare held n _ _ e0
  have e1 : DataW.trod enc Try.prog w base spare held n 2 ((cs.drop 1).take (Try.prog.cellsOf 2)) = xs[1]? := hf 1 _ rfl
  obtain ⟨y1, hy1⟩ : ∃ y, xs[1]? = some y := ⟨xs[1]'(by rw [hn]; decide), List.getElem?_eq_getElem _⟩
  rw [hy1, rd_2.size] at e1
  obtain ⟨a1, o1, r1, _⟩ := rd_2.read enc w base spare held n _ _ e1
  have e2 : DataW.trod enc Try.prog w base spare held n 2 ((cs.drop 2).take (Try.prog.cellsOf 2)) = xs[2]? := hf 2 _ rfl
  obtain ⟨y2, hy2⟩ : ∃ y, xs[2]? = some y := ⟨xs[2]'(by rw [hn]; decide), List.getElem?_eq_getElem _⟩
  rw [hy2, rd_2.size] at e2
  obtain ⟨a2, o2, r2, _⟩ := rd_2.read enc w base spare held n _ _ e2
  refine ⟨⟨a0, a1, a2⟩, trivial, ?_, hl⟩
  exact RdC.cons (o := 0) (s := 1) r0 (RdC.cons (o := 1) (s := 1) r1 (RdC.cons (o := 2) (s := 1) r2 (RdC.nil (List.drop_eq_nil_of_le (show cs.length ≤ 3 by omega)))))
abbrev rd_99 := Rd.slice (t := 99) rd_186 (by decide) (cellsOf_of tiOk ti_99) Try.underlying99
theorem rd_101 : Rd Try.prog 101 TDesk TDesk.ro TDesk.gok 4 := by
  refine ⟨cellsOf_of tiOk ti_101, ?_⟩
  intro H enc w base spare held fuel cs x h
  obtain ⟨xs, n, rfl, rfl, hl, hn, hf⟩ := DataW.trod_struct Try.underlying101 h
  have hl : cs.length = 4 := by rw [hl]; exact cellsOf_of tiOk ti_101
  have e0 : DataW.trod enc Try.prog w base spare held n 90 ((cs.drop 0).take (Try.prog.cellsOf 90)) = xs[0]? := hf 0 _ rfl
  obtain ⟨y0, hy0⟩ : ∃ y, xs[0]? = some y := ⟨xs[0]'(by rw [hn]; decide), List.getElem?_eq_getElem _⟩
  rw [hy0, rd_90.size] at e0
  obtain ⟨a0, o0, r0, _⟩ := rd_90.read enc w base spare held n _ _ e0
  have e1 : DataW.trod enc Try.prog w base spare held n 99 ((cs.drop 3).take (Try.prog.cellsOf 99)) = xs[1]? := hf 1 _ rfl
  obtain ⟨y1, hy1⟩ : ∃ y, xs[1]? = some y := ⟨xs[1]'(by rw [hn]; decide), List.getElem?_eq_getElem _⟩
  rw [hy1, rd_99.size] at e1
  obtain ⟨a1, o1, r1, _⟩ := rd_99.read enc w base spare held n _ _ e1
  refine ⟨⟨a0, a1⟩, ⟨o0, o1.1⟩, ?_, hl⟩
  exact RdC.cons (o := 0) (s := 3) r0 (RdC.cons (o := 3) (s := 1) r1 (RdC.nil (List.drop_eq_nil_of_le (show cs.length ≤ 4 by omega))))
end Go.AM
