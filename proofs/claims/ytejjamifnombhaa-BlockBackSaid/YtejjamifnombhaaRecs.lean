/- The struct types of the loaded program as Lean structures: cells, lengths, reads, writes. No conditions. -/
import Derived.Test.YtejjamifnombhaaTypes
import Derived.Test.YtejjamifnombhaaSplit
import Derived.KernelRfl
namespace Go.Proofs.Ytejjamifnombhaa
open Go Hw
set_option linter.unusedSimpArgs false
set_option linter.unusedVariables false
set_option maxRecDepth 100000
/-! ### Vote: 132 cells -/
structure Vote where
  fHeight : UInt64
  fRound : UInt64
  fPhase : Int
  fValue : List UInt8
  fProof : UInt64
  fVoter : List UInt8
  fSig : List UInt8
def Vote.cells (x : Vote) : List Value := [u64 x.fHeight] ++ ([u64 x.fRound] ++ ([i64 x.fPhase] ++ (bytesV x.fValue ++ ([u64 x.fProof] ++ (bytesV x.fVoter ++ (bytesV x.fSig))))))
structure Vote.ok (x : Vote) : Prop where
  l_fValue : x.fValue.length = 32
  l_fVoter : x.fVoter.length = 32
  l_fSig : x.fSig.length = 64
theorem Vote.length {x : Vote} (h : x.ok) : x.cells.length = 132 := by simp [Vote.cells, bytesV, h.l_fValue, h.l_fVoter, h.l_fSig]
theorem Vote.isCell {x : Vote} (h : x.ok) : ∀ u ∈ x.cells, isCell u = true := by
  intro u hu
  simp only [Vote.cells, List.mem_append, List.mem_singleton, bytesV, List.mem_map] at hu
  rcases hu with rfl | rfl | rfl | ⟨_, _, rfl⟩ | rfl | ⟨_, _, rfl⟩ | ⟨_, _, rfl⟩ <;> rfl
theorem Vote.get_fHeight {x : Vote} (h : x.ok) : x.cells[0]? = some (u64 x.fHeight) := by simp [Vote.cells, bytesV, h.l_fValue, h.l_fVoter, h.l_fSig, List.getElem?_append]
theorem Vote.set_fHeight {x : Vote} (h : x.ok) (v : UInt64) : x.cells.set 0 (u64 v) = ({ x with fHeight := v }).cells := by simp [Vote.cells, bytesV, h.l_fValue, h.l_fVoter, h.l_fSig, List.set_append]
theorem Vote.get_fRound {x : Vote} (h : x.ok) : x.cells[1]? = some (u64 x.fRound) := by simp [Vote.cells, bytesV, h.l_fValue, h.l_fVoter, h.l_fSig, List.getElem?_append]
theorem Vote.set_fRound {x : Vote} (h : x.ok) (v : UInt64) : x.cells.set 1 (u64 v) = ({ x with fRound := v }).cells := by simp [Vote.cells, bytesV, h.l_fValue, h.l_fVoter, h.l_fSig, List.set_append]
theorem Vote.get_fPhase {x : Vote} (h : x.ok) : x.cells[2]? = some (i64 x.fPhase) := by simp [Vote.cells, bytesV, h.l_fValue, h.l_fVoter, h.l_fSig, List.getElem?_append]
theorem Vote.set_fPhase {x : Vote} (h : x.ok) (v : Int) : x.cells.set 2 (i64 v) = ({ x with fPhase := v }).cells := by simp [Vote.cells, bytesV, h.l_fValue, h.l_fVoter, h.l_fSig, List.set_append]
theorem Vote.row_fValue {x : Vote} (h : x.ok) : (x.cells.drop 3).take 32 = bytesV x.fValue := by simp [Vote.cells, bytesV, h.l_fValue, h.l_fVoter, h.l_fSig, List.drop_append, List.take_append, List.drop_of_length_le, List.take_of_length_le]
theorem Vote.rl_fValue {x : Vote} (h : x.ok) : (bytesV x.fValue).length = 32 := by simp [bytesV, h.l_fValue]
theorem Vote.upd_fValue {x : Vote} (h : x.ok) (l : List UInt8) (hl : l.length = 32) : upd x.cells 3 (bytesV l) = ({ x with fValue := l }).cells := by
  simp [upd, Vote.cells, bytesV, h.l_fValue, h.l_fVoter, h.l_fSig, hl, List.drop_append, List.take_append, List.drop_of_length_le, List.take_of_length_le]
theorem Vote.see_fValue {x : Vote} (h : x.ok) : ∀ (j : Nat) (v : Value), (bytesV x.fValue)[j]? = some v → x.cells[3 + j]? = some v := fun j v hj => by
  rw [← Vote.row_fValue h, List.getElem?_take] at hj
  split at hj
  · rwa [List.getElem?_drop] at hj
  · cases hj
theorem Vote.get_fProof {x : Vote} (h : x.ok) : x.cells[35]? = some (u64 x.fProof) := by simp [Vote.cells, bytesV, h.l_fValue, h.l_fVoter, h.l_fSig, List.getElem?_append]
theorem Vote.set_fProof {x : Vote} (h : x.ok) (v : UInt64) : x.cells.set 35 (u64 v) = ({ x with fProof := v }).cells := by simp [Vote.cells, bytesV, h.l_fValue, h.l_fVoter, h.l_fSig, List.set_append]
theorem Vote.row_fVoter {x : Vote} (h : x.ok) : (x.cells.drop 36).take 32 = bytesV x.fVoter := by simp [Vote.cells, bytesV, h.l_fValue, h.l_fVoter, h.l_fSig, List.drop_append, List.take_append, List.drop_of_length_le, List.take_of_length_le]
theorem Vote.rl_fVoter {x : Vote} (h : x.ok) : (bytesV x.fVoter).length = 32 := by simp [bytesV, h.l_fVoter]
theorem Vote.upd_fVoter {x : Vote} (h : x.ok) (l : List UInt8) (hl : l.length = 32) : upd x.cells 36 (bytesV l) = ({ x with fVoter := l }).cells := by
  simp [upd, Vote.cells, bytesV, h.l_fValue, h.l_fVoter, h.l_fSig, hl, List.drop_append, List.take_append, List.drop_of_length_le, List.take_of_length_le]
theorem Vote.see_fVoter {x : Vote} (h : x.ok) : ∀ (j : Nat) (v : Value), (bytesV x.fVoter)[j]? = some v → x.cells[36 + j]? = some v := fun j v hj => by
  rw [← Vote.row_fVoter h, List.getElem?_take] at hj
  split at hj
  · rwa [List.getElem?_drop] at hj
  · cases hj
theorem Vote.row_fSig {x : Vote} (h : x.ok) : (x.cells.drop 68).take 64 = bytesV x.fSig := by simp [Vote.cells, bytesV, h.l_fValue, h.l_fVoter, h.l_fSig, List.drop_append, List.take_append, List.drop_of_length_le, List.take_of_length_le]
theorem Vote.rl_fSig {x : Vote} (h : x.ok) : (bytesV x.fSig).length = 64 := by simp [bytesV, h.l_fSig]
theorem Vote.upd_fSig {x : Vote} (h : x.ok) (l : List UInt8) (hl : l.length = 64) : upd x.cells 68 (bytesV l) = ({ x with fSig := l }).cells := by
  simp [upd, Vote.cells, bytesV, h.l_fValue, h.l_fVoter, h.l_fSig, hl, List.drop_append, List.take_append, List.drop_of_length_le, List.take_of_length_le]
theorem Vote.see_fSig {x : Vote} (h : x.ok) : ∀ (j : Nat) (v : Value), (bytesV x.fSig)[j]? = some v → x.cells[68 + j]? = some v := fun j v hj => by
  rw [← Vote.row_fSig h, List.getElem?_take] at hj
  split at hj
  · rwa [List.getElem?_drop] at hj
  · cases hj
def Vote.zero : Vote := ⟨0, 0, 0, List.replicate 32 0, 0, List.replicate 32 0, List.replicate 64 0⟩
theorem Vote.zero_ok : Vote.zero.ok := by constructor <;> simp [Vote.zero]
theorem Vote.zr : Zr Try.prog 72 (agg Vote.zero.cells) := by unfold Zr; kernel_rfl
theorem Vote.eqq {x y : Vote} (hx : x.ok) (hy : y.ok) (w : World) : (Op.equalIn 10000 72 (agg x.cells) (agg y.cells)).run Try.prog w = .ok (decide ((x.fHeight.toNat : Int) = (y.fHeight.toNat : Int)) && (decide ((x.fRound.toNat : Int) = (y.fRound.toNat : Int)) && (decide (x.fPhase = y.fPhase) && (decide (x.fValue = y.fValue) && (decide ((x.fProof.toNat : Int) = (y.fProof.toNat : Int)) && (decide (x.fVoter = y.fVoter) && (decide (x.fSig = y.fSig) && (true)))))))) w := by
  rw [show (10000 : Nat) = 9999 + 1 from rfl, run_equalIn_struct w 9999 72 x.cells.toArray y.cells.toArray (by kernel_rfl) (by kernel_rfl)]
  exact (eqFields_step (by decide) (run_part1 Try.underlying24 rfl (Vote.get_fHeight hx)) (run_part1 Try.underlying24 rfl (Vote.get_fHeight hy)) (eq_int Try.underlying24) (eqFields_step (by decide) (run_part1 Try.underlying24 rfl (Vote.get_fRound hx)) (run_part1 Try.underlying24 rfl (Vote.get_fRound hy)) (eq_int Try.underlying24) (eqFields_step (by decide) (run_part1 Try.underlying3 rfl (Vote.get_fPhase hx)) (run_part1 Try.underlying3 rfl (Vote.get_fPhase hy)) (eq_int Try.underlying3) (eqFields_step (by decide) (run_partN Try.underlying25 rfl Sz25 (Vote.row_fValue hx)) (run_partN Try.underlying25 rfl Sz25 (Vote.row_fValue hy)) (eq_bytesA Try.underlying25 Try.underlying5 Sz5 hx.l_fValue hy.l_fValue) (eqFields_step (by decide) (run_part1 Try.underlying24 rfl (Vote.get_fProof hx)) (run_part1 Try.underlying24 rfl (Vote.get_fProof hy)) (eq_int Try.underlying24) (eqFields_step (by decide) (run_partN Try.underlying23 rfl Sz23 (Vote.row_fVoter hx)) (run_partN Try.underlying23 rfl Sz23 (Vote.row_fVoter hy)) (eq_bytesA Try.underlying23 Try.underlying5 Sz5 hx.l_fVoter hy.l_fVoter) (eqFields_step (by decide) (run_partN Try.underlying29 rfl Sz29 (Vote.row_fSig hx)) (run_partN Try.underlying29 rfl Sz29 (Vote.row_fSig hy)) (eq_bytesA Try.underlying29 Try.underlying5 Sz5 hx.l_fSig hy.l_fSig) eqFields_nil)))))))
theorem Vote.eq_run {x y : Vote} (hx : x.ok) (hy : y.ok) (w : World) [Decidable (x = y)] : (Op.equalIn 10000 72 (agg x.cells) (agg y.cells)).run Try.prog w = .ok (decide (x = y)) w := by
  rw [Vote.eqq hx hy]
  congr 1
  obtain ⟨x0, x1, x2, x3, x4, x5, x6⟩ := x
  obtain ⟨y0, y1, y2, y3, y4, y5, y6⟩ := y
  rw [Bool.eq_iff_iff]
  simp only [Bool.and_eq_true, decide_eq_true_eq, Vote.mk.injEq, and_true]
  have eu : ∀ a b : UInt64, ((a.toNat : Int) = (b.toNat : Int)) ↔ a = b := fun a b => ⟨fun h => UInt64.toNat_inj.1 (by omega), fun h => by rw [h]⟩
  simp only [eu]
theorem Vote.eq_runC {x y : Vote} (hx : x.ok) (hy : y.ok) (w : World) : (Op.equalIn 10000 72 (agg x.cells) (agg y.cells)).run Try.prog w = .ok (@decide (x = y) (Classical.propDecidable (x = y))) w := @Vote.eq_run x y hx hy w (Classical.propDecidable (x = y))
theorem Vote.eg : Try.prog.eqGuardType Try.prog.depth 72 = false := by kernel_rfl
/-! ### Block: 131 cells -/
structure Block where
  fWriter : List UInt8
  fSeq : UInt64
  fPrev : List UInt8
  fLinks : Sl
  fData : Sl
  fSig : List UInt8
def Block.cells (x : Block) : List Value := bytesV x.fWriter ++ ([u64 x.fSeq] ++ (bytesV x.fPrev ++ ([x.fLinks.v] ++ ([x.fData.v] ++ (bytesV x.fSig)))))
structure Block.ok (x : Block) : Prop where
  l_fWriter : x.fWriter.length = 32
  l_fPrev : x.fPrev.length = 32
  l_fSig : x.fSig.length = 64
theorem Block.length {x : Block} (h : x.ok) : x.cells.length = 131 := by simp [Block.cells, bytesV, h.l_fWriter, h.l_fPrev, h.l_fSig]
theorem Block.isCell {x : Block} (h : x.ok) : ∀ u ∈ x.cells, isCell u = true := by
  intro u hu
  simp only [Block.cells, List.mem_append, List.mem_singleton, bytesV, List.mem_map] at hu
  rcases hu with ⟨_, _, rfl⟩ | rfl | ⟨_, _, rfl⟩ | rfl | rfl | ⟨_, _, rfl⟩ <;> rfl
theorem Block.row_fWriter {x : Block} (h : x.ok) : (x.cells.drop 0).take 32 = bytesV x.fWriter := by simp [Block.cells, bytesV, h.l_fWriter, h.l_fPrev, h.l_fSig, List.drop_append, List.take_append, List.drop_of_length_le, List.take_of_length_le]
theorem Block.rl_fWriter {x : Block} (h : x.ok) : (bytesV x.fWriter).length = 32 := by simp [bytesV, h.l_fWriter]
theorem Block.upd_fWriter {x : Block} (h : x.ok) (l : List UInt8) (hl : l.length = 32) : upd x.cells 0 (bytesV l) = ({ x with fWriter := l }).cells := by
  simp [upd, Block.cells, bytesV, h.l_fWriter, h.l_fPrev, h.l_fSig, hl, List.drop_append, List.take_append, List.drop_of_length_le, List.take_of_length_le]
theorem Block.see_fWriter {x : Block} (h : x.ok) : ∀ (j : Nat) (v : Value), (bytesV x.fWriter)[j]? = some v → x.cells[0 + j]? = some v := fun j v hj => by
  rw [← Block.row_fWriter h, List.getElem?_take] at hj
  split at hj
  · rwa [List.getElem?_drop] at hj
  · cases hj
theorem Block.get_fSeq {x : Block} (h : x.ok) : x.cells[32]? = some (u64 x.fSeq) := by simp [Block.cells, bytesV, h.l_fWriter, h.l_fPrev, h.l_fSig, List.getElem?_append]
theorem Block.set_fSeq {x : Block} (h : x.ok) (v : UInt64) : x.cells.set 32 (u64 v) = ({ x with fSeq := v }).cells := by simp [Block.cells, bytesV, h.l_fWriter, h.l_fPrev, h.l_fSig, List.set_append]
theorem Block.row_fPrev {x : Block} (h : x.ok) : (x.cells.drop 33).take 32 = bytesV x.fPrev := by simp [Block.cells, bytesV, h.l_fWriter, h.l_fPrev, h.l_fSig, List.drop_append, List.take_append, List.drop_of_length_le, List.take_of_length_le]
theorem Block.rl_fPrev {x : Block} (h : x.ok) : (bytesV x.fPrev).length = 32 := by simp [bytesV, h.l_fPrev]
theorem Block.upd_fPrev {x : Block} (h : x.ok) (l : List UInt8) (hl : l.length = 32) : upd x.cells 33 (bytesV l) = ({ x with fPrev := l }).cells := by
  simp [upd, Block.cells, bytesV, h.l_fWriter, h.l_fPrev, h.l_fSig, hl, List.drop_append, List.take_append, List.drop_of_length_le, List.take_of_length_le]
theorem Block.see_fPrev {x : Block} (h : x.ok) : ∀ (j : Nat) (v : Value), (bytesV x.fPrev)[j]? = some v → x.cells[33 + j]? = some v := fun j v hj => by
  rw [← Block.row_fPrev h, List.getElem?_take] at hj
  split at hj
  · rwa [List.getElem?_drop] at hj
  · cases hj
theorem Block.get_fLinks {x : Block} (h : x.ok) : x.cells[65]? = some (x.fLinks.v) := by simp [Block.cells, bytesV, h.l_fWriter, h.l_fPrev, h.l_fSig, List.getElem?_append]
theorem Block.set_fLinks {x : Block} (h : x.ok) (v : Sl) : x.cells.set 65 (v.v) = ({ x with fLinks := v }).cells := by simp [Block.cells, bytesV, h.l_fWriter, h.l_fPrev, h.l_fSig, List.set_append]
theorem Block.setS_fLinks {x : Block} (h : x.ok) (p : Option Addr) (n c : Nat) : x.cells.set 65 (.slice p n c) = ({ x with fLinks := ⟨p, n, c⟩ }).cells := Block.set_fLinks h ⟨p, n, c⟩
theorem Block.get_fData {x : Block} (h : x.ok) : x.cells[66]? = some (x.fData.v) := by simp [Block.cells, bytesV, h.l_fWriter, h.l_fPrev, h.l_fSig, List.getElem?_append]
theorem Block.set_fData {x : Block} (h : x.ok) (v : Sl) : x.cells.set 66 (v.v) = ({ x with fData := v }).cells := by simp [Block.cells, bytesV, h.l_fWriter, h.l_fPrev, h.l_fSig, List.set_append]
theorem Block.setS_fData {x : Block} (h : x.ok) (p : Option Addr) (n c : Nat) : x.cells.set 66 (.slice p n c) = ({ x with fData := ⟨p, n, c⟩ }).cells := Block.set_fData h ⟨p, n, c⟩
theorem Block.row_fSig {x : Block} (h : x.ok) : (x.cells.drop 67).take 64 = bytesV x.fSig := by simp [Block.cells, bytesV, h.l_fWriter, h.l_fPrev, h.l_fSig, List.drop_append, List.take_append, List.drop_of_length_le, List.take_of_length_le]
theorem Block.rl_fSig {x : Block} (h : x.ok) : (bytesV x.fSig).length = 64 := by simp [bytesV, h.l_fSig]
theorem Block.upd_fSig {x : Block} (h : x.ok) (l : List UInt8) (hl : l.length = 64) : upd x.cells 67 (bytesV l) = ({ x with fSig := l }).cells := by
  simp [upd, Block.cells, bytesV, h.l_fWriter, h.l_fPrev, h.l_fSig, hl, List.drop_append, List.take_append, List.drop_of_length_le, List.take_of_length_le]
theorem Block.see_fSig {x : Block} (h : x.ok) : ∀ (j : Nat) (v : Value), (bytesV x.fSig)[j]? = some v → x.cells[67 + j]? = some v := fun j v hj => by
  rw [← Block.row_fSig h, List.getElem?_take] at hj
  split at hj
  · rwa [List.getElem?_drop] at hj
  · cases hj
def Block.zero : Block := ⟨List.replicate 32 0, 0, List.replicate 32 0, Sl.nil, Sl.nil, List.replicate 64 0⟩
theorem Block.zero_ok : Block.zero.ok := by constructor <;> simp [Block.zero]
theorem Block.zr : Zr Try.prog 31 (agg Block.zero.cells) := by unfold Zr; kernel_rfl
/-! ### Reader: 4 cells -/
structure Reader where
  fSelf : Value
  fB : Sl
  fAt : Int
  fErr : Int
def Reader.cells (x : Reader) : List Value := [x.fSelf] ++ ([x.fB.v] ++ ([i64 x.fAt] ++ ([i64 x.fErr])))
structure Reader.ok (x : Reader) : Prop where
  c_fSelf : isCell x.fSelf = true
theorem Reader.length {x : Reader} (h : x.ok) : x.cells.length = 4 := by simp [Reader.cells, bytesV]
theorem Reader.isCell {x : Reader} (h : x.ok) : ∀ u ∈ x.cells, isCell u = true := by
  intro u hu
  simp only [Reader.cells, List.mem_append, List.mem_singleton, bytesV, List.mem_map] at hu
  rcases hu with rfl | rfl | rfl | rfl <;> first | rfl | exact h.c_fSelf
theorem Reader.get_fSelf {x : Reader} (h : x.ok) : x.cells[0]? = some (x.fSelf) := by simp [Reader.cells, bytesV, List.getElem?_append]
theorem Reader.set_fSelf {x : Reader} (h : x.ok) (v : Value) : x.cells.set 0 (v) = ({ x with fSelf := v }).cells := by simp [Reader.cells, bytesV, List.set_append]
theorem Reader.get_fB {x : Reader} (h : x.ok) : x.cells[1]? = some (x.fB.v) := by simp [Reader.cells, bytesV, List.getElem?_append]
theorem Reader.set_fB {x : Reader} (h : x.ok) (v : Sl) : x.cells.set 1 (v.v) = ({ x with fB := v }).cells := by simp [Reader.cells, bytesV, List.set_append]
theorem Reader.setS_fB {x : Reader} (h : x.ok) (p : Option Addr) (n c : Nat) : x.cells.set 1 (.slice p n c) = ({ x with fB := ⟨p, n, c⟩ }).cells := Reader.set_fB h ⟨p, n, c⟩
theorem Reader.get_fAt {x : Reader} (h : x.ok) : x.cells[2]? = some (i64 x.fAt) := by simp [Reader.cells, bytesV, List.getElem?_append]
theorem Reader.set_fAt {x : Reader} (h : x.ok) (v : Int) : x.cells.set 2 (i64 v) = ({ x with fAt := v }).cells := by simp [Reader.cells, bytesV, List.set_append]
theorem Reader.get_fErr {x : Reader} (h : x.ok) : x.cells[3]? = some (i64 x.fErr) := by simp [Reader.cells, bytesV, List.getElem?_append]
theorem Reader.set_fErr {x : Reader} (h : x.ok) (v : Int) : x.cells.set 3 (i64 v) = ({ x with fErr := v }).cells := by simp [Reader.cells, bytesV, List.set_append]
def Reader.zero : Reader := ⟨(.pointer none), Sl.nil, 0, 0⟩
theorem Reader.zero_ok : Reader.zero.ok := by constructor <;> simp [Reader.zero, Hw.isCell]
theorem Reader.zr : Zr Try.prog 137 (agg Reader.zero.cells) := by unfold Zr; kernel_rfl
end Go.Proofs.Ytejjamifnombhaa
