/- The struct types of the loaded program, read as arguments. No conditions. -/
import Derived.Test.YtejjamifnombhaaRecs
import Derived.Test.YtejjamifnombhaaOpen
import Derived.KernelRfl
namespace Go.Proofs.Ytejjamifnombhaa
open Go Hw
set_option linter.unusedSimpArgs false
set_option linter.unusedVariables false
set_option maxRecDepth 100000
section
variable {H : Type} {enc : TypeId × Value → H} {W : World} {base : Nat} {sp : Nat → Bool} {held : Bool}
theorem Vote.openT {fuel : Nat} {cs : List Value} {y : DataW H × List MemPlace} (h : DataW.trod enc Try.prog W base sp held fuel 72 cs = some y) : ∃ x : Vote, x.ok ∧ cs = x.cells ∧ ((Lit.int .i64 x.fPhase).wf = true) := by
  obtain ⟨xs, n, _, _, h4, h5, h6⟩ := DataW.trod_struct Try.underlying72 h
  rw [show Try.prog.cellsOf 72 = 132 by kernel_rfl] at h4
  have c0 : Try.prog.cellsOf 24 = 1 := by kernel_rfl
  have c1 : Try.prog.cellsOf 24 = 1 := by kernel_rfl
  have c2 : Try.prog.cellsOf 3 = 1 := by kernel_rfl
  have c3 : Try.prog.cellsOf 25 = 32 := by kernel_rfl
  have c4 : Try.prog.cellsOf 24 = 1 := by kernel_rfl
  have c5 : Try.prog.cellsOf 23 = 32 := by kernel_rfl
  have c6 : Try.prog.cellsOf 29 = 64 := by kernel_rfl
  have g0 : DataW.trod enc Try.prog W base sp held n 24 ((cs.drop 0).take (Try.prog.cellsOf 24)) = some (xs[0]'(by rw [h5]; decide)) := by rw [← List.getElem?_eq_getElem]; exact h6 0 _ rfl
  rw [c0] at g0
  obtain ⟨a0, e0, _, w0⟩ := DataW.trod_int Try.underlying24 g0
  obtain ⟨v0, rfl⟩ := Hw.u64_back w0
  have g1 : DataW.trod enc Try.prog W base sp held n 24 ((cs.drop 1).take (Try.prog.cellsOf 24)) = some (xs[1]'(by rw [h5]; decide)) := by rw [← List.getElem?_eq_getElem]; exact h6 1 _ rfl
  rw [c1] at g1
  obtain ⟨a1, e1, _, w1⟩ := DataW.trod_int Try.underlying24 g1
  obtain ⟨v1, rfl⟩ := Hw.u64_back w1
  have g2 : DataW.trod enc Try.prog W base sp held n 3 ((cs.drop 2).take (Try.prog.cellsOf 3)) = some (xs[2]'(by rw [h5]; decide)) := by rw [← List.getElem?_eq_getElem]; exact h6 2 _ rfl
  rw [c2] at g2
  obtain ⟨v2, e2, _, w2⟩ := DataW.trod_int Try.underlying3 g2
  have g3 : DataW.trod enc Try.prog W base sp held n 25 ((cs.drop 3).take (Try.prog.cellsOf 25)) = some (xs[3]'(by rw [h5]; decide)) := by rw [← List.getElem?_eq_getElem]; exact h6 3 _ rfl
  rw [c3] at g3
  obtain ⟨v3, e3, l3⟩ := Hw.open_bytesT Try.underlying25 Try.underlying5 (by kernel_rfl) (by kernel_rfl) g3
  have g4 : DataW.trod enc Try.prog W base sp held n 24 ((cs.drop 35).take (Try.prog.cellsOf 24)) = some (xs[4]'(by rw [h5]; decide)) := by rw [← List.getElem?_eq_getElem]; exact h6 4 _ rfl
  rw [c4] at g4
  obtain ⟨a4, e4, _, w4⟩ := DataW.trod_int Try.underlying24 g4
  obtain ⟨v4, rfl⟩ := Hw.u64_back w4
  have g5 : DataW.trod enc Try.prog W base sp held n 23 ((cs.drop 36).take (Try.prog.cellsOf 23)) = some (xs[5]'(by rw [h5]; decide)) := by rw [← List.getElem?_eq_getElem]; exact h6 5 _ rfl
  rw [c5] at g5
  obtain ⟨v5, e5, l5⟩ := Hw.open_bytesT Try.underlying23 Try.underlying5 (by kernel_rfl) (by kernel_rfl) g5
  have g6 : DataW.trod enc Try.prog W base sp held n 29 ((cs.drop 68).take (Try.prog.cellsOf 29)) = some (xs[6]'(by rw [h5]; decide)) := by rw [← List.getElem?_eq_getElem]; exact h6 6 _ rfl
  rw [c6] at g6
  obtain ⟨v6, e6, l6⟩ := Hw.open_bytesT Try.underlying29 Try.underlying5 (by kernel_rfl) (by kernel_rfl) g6
  refine ⟨⟨v0, v1, v2, v3, v4, v5, v6⟩, ⟨l3, l5, l6⟩, ?_, w2⟩
  rw [← List.drop_zero (l := cs)]
  exact (Hw.cat 1 e0 rfl (Hw.cat 2 e1 rfl (Hw.cat 3 e2 rfl (Hw.cat 35 e3 rfl (Hw.cat 36 e4 rfl (Hw.cat 68 e5 rfl (Hw.cat_last e6 h4)))))))
theorem Vote.openV {r : Reach} {b0 : Nat} {v : Value} {d : DataW H} {ps : List MemPlace} (hval : Value.okWide Try.prog W r b0 72 v) (hd : DataW.Trod enc Try.prog W base sp held 72 v d ps) : ∃ x : Vote, x.ok ∧ v = agg x.cells ∧ ((Lit.int .i64 x.fPhase).wf = true) := by
  simp only [Value.okWide, Try.underlying72] at hval
  obtain ⟨cs, rfl, _⟩ := hval
  obtain ⟨fuel, hf⟩ := hd
  obtain ⟨x, h1, h2, h3⟩ := Vote.openT hf
  refine ⟨x, h1, ?_, h3⟩
  simp only [Value.cells] at h2
  rw [agg, ← h2]
end
section
variable {H : Type} {enc : TypeId × Value → H} {W : World} {base : Nat} {sp : Nat → Bool} {held : Bool}
theorem Block.openT {fuel : Nat} {cs : List Value} {y : DataW H × List MemPlace} (h : DataW.trod enc Try.prog W base sp held fuel 31 cs = some y) : ∃ x : Block, x.ok ∧ cs = x.cells ∧ (∃ ls, Hw.RowsAt W x.fLinks 32 ls) ∧ (∃ l, Hw.BytesAt W x.fData l) := by
  obtain ⟨xs, n, _, _, h4, h5, h6⟩ := DataW.trod_struct Try.underlying31 h
  rw [show Try.prog.cellsOf 31 = 131 by kernel_rfl] at h4
  have c0 : Try.prog.cellsOf 23 = 32 := by kernel_rfl
  have c1 : Try.prog.cellsOf 24 = 1 := by kernel_rfl
  have c2 : Try.prog.cellsOf 25 = 32 := by kernel_rfl
  have c3 : Try.prog.cellsOf 26 = 1 := by kernel_rfl
  have c4 : Try.prog.cellsOf 27 = 1 := by kernel_rfl
  have c5 : Try.prog.cellsOf 29 = 64 := by kernel_rfl
  have g0 : DataW.trod enc Try.prog W base sp held n 23 ((cs.drop 0).take (Try.prog.cellsOf 23)) = some (xs[0]'(by rw [h5]; decide)) := by rw [← List.getElem?_eq_getElem]; exact h6 0 _ rfl
  rw [c0] at g0
  obtain ⟨v0, e0, l0⟩ := Hw.open_bytesT Try.underlying23 Try.underlying5 (by kernel_rfl) (by kernel_rfl) g0
  have g1 : DataW.trod enc Try.prog W base sp held n 24 ((cs.drop 32).take (Try.prog.cellsOf 24)) = some (xs[1]'(by rw [h5]; decide)) := by rw [← List.getElem?_eq_getElem]; exact h6 1 _ rfl
  rw [c1] at g1
  obtain ⟨a1, e1, _, w1⟩ := DataW.trod_int Try.underlying24 g1
  obtain ⟨v1, rfl⟩ := Hw.u64_back w1
  have g2 : DataW.trod enc Try.prog W base sp held n 25 ((cs.drop 33).take (Try.prog.cellsOf 25)) = some (xs[2]'(by rw [h5]; decide)) := by rw [← List.getElem?_eq_getElem]; exact h6 2 _ rfl
  rw [c2] at g2
  obtain ⟨v2, e2, l2⟩ := Hw.open_bytesT Try.underlying25 Try.underlying5 (by kernel_rfl) (by kernel_rfl) g2
  have g3 : DataW.trod enc Try.prog W base sp held n 26 ((cs.drop 65).take (Try.prog.cellsOf 26)) = some (xs[3]'(by rw [h5]; decide)) := by rw [← List.getElem?_eq_getElem]; exact h6 3 _ rfl
  rw [c3] at g3
  obtain ⟨v3, b3, e3, q3⟩ := Hw.open_rowsS Try.underlying26 Try.underlying25 Try.underlying5 (by kernel_rfl) (by kernel_rfl) (by decide) g3
  have g4 : DataW.trod enc Try.prog W base sp held n 27 ((cs.drop 66).take (Try.prog.cellsOf 27)) = some (xs[4]'(by rw [h5]; decide)) := by rw [← List.getElem?_eq_getElem]; exact h6 4 _ rfl
  rw [c4] at g4
  obtain ⟨v4, b4, e4, q4⟩ := Hw.open_bytesS Try.underlying27 Try.underlying5 (by kernel_rfl) g4
  have g5 : DataW.trod enc Try.prog W base sp held n 29 ((cs.drop 67).take (Try.prog.cellsOf 29)) = some (xs[5]'(by rw [h5]; decide)) := by rw [← List.getElem?_eq_getElem]; exact h6 5 _ rfl
  rw [c5] at g5
  obtain ⟨v5, e5, l5⟩ := Hw.open_bytesT Try.underlying29 Try.underlying5 (by kernel_rfl) (by kernel_rfl) g5
  refine ⟨⟨v0, v1, v2, v3, v4, v5⟩, ⟨l0, l2, l5⟩, ?_, ⟨b3, q3⟩, ⟨b4, q4⟩⟩
  rw [← List.drop_zero (l := cs)]
  exact (Hw.cat 32 e0 rfl (Hw.cat 33 e1 rfl (Hw.cat 65 e2 rfl (Hw.cat 66 e3 rfl (Hw.cat 67 e4 rfl (Hw.cat_last e5 h4))))))
theorem Block.openV {r : Reach} {b0 : Nat} {v : Value} {d : DataW H} {ps : List MemPlace} (hval : Value.okWide Try.prog W r b0 31 v) (hd : DataW.Trod enc Try.prog W base sp held 31 v d ps) : ∃ x : Block, x.ok ∧ v = agg x.cells ∧ (∃ ls, Hw.RowsAt W x.fLinks 32 ls) ∧ (∃ l, Hw.BytesAt W x.fData l) := by
  simp only [Value.okWide, Try.underlying31] at hval
  obtain ⟨cs, rfl, _⟩ := hval
  obtain ⟨fuel, hf⟩ := hd
  obtain ⟨x, h1, h2, h3⟩ := Block.openT hf
  refine ⟨x, h1, ?_, h3⟩
  simp only [Value.cells] at h2
  rw [agg, ← h2]
end
-- no opening of Reader (field fSelf)
end Go.Proofs.Ytejjamifnombhaa
