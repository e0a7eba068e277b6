/- The operations of the model, one law each, for the logic of the core text. It proves no statement by itself; it has no conditions. -/
import Derived.Test.YtejjamifnombhaaCore
import Derived.IntWalk
import Derived.Laws.StructEq
namespace Hw
open Go Go.RowKit
set_option linter.unusedSimpArgs false
set_option linter.unusedVariables false

/-! ### typed values -/
abbrev u8 (x : UInt8) : Value := .int .u8 (x.toNat : Int)
abbrev u64 (x : UInt64) : Value := .int .u64 (x.toNat : Int)
abbrev u32 (x : UInt32) : Value := .int .u32 (x.toNat : Int)
abbrev i64 (n : Int) : Value := .int .i64 n
abbrev ptr (b o : Nat) : Value := .pointer (some ⟨b, o, none⟩)
abbrev agg (l : List Value) : Value := .agg l.toArray

abbrev bytesV (l : List UInt8) : List Value := l.map u8
abbrev wordsV (l : List UInt64) : List Value := l.map u64
abbrev intsV (l : List Int) : List Value := l.map i64

theorem get_bytes {l : List UInt8} {o : Nat} (h : o < l.length) : (bytesV l)[o]? = some (u8 (l.getD o 0)) := by
  simp [bytesV, List.getElem?_map, List.getD, h]
theorem get_words {l : List UInt64} {o : Nat} (h : o < l.length) : (wordsV l)[o]? = some (u64 (l.getD o 0)) := by
  simp [wordsV, List.getElem?_map, List.getD, h]
theorem get_ints {l : List Int} {o : Nat} (h : o < l.length) : (intsV l)[o]? = some (i64 (l.getD o 0)) := by
  simp [intsV, List.getElem?_map, List.getD, h]
theorem set_bytes (l : List UInt8) (o : Nat) (v : UInt8) : (bytesV l).set o (u8 v) = bytesV (l.set o v) := by simp [bytesV, List.map_set]
theorem set_words (l : List UInt64) (o : Nat) (v : UInt64) : (wordsV l).set o (u64 v) = wordsV (l.set o v) := by simp [wordsV, List.map_set]
theorem set_ints (l : List Int) (o : Nat) (v : Int) : (intsV l).set o (i64 v) = intsV (l.set o v) := by simp [intsV, List.map_set]
theorem toNat_back {i : Int} (h : 0 ≤ i) : i = (i.toNat : Int) := by omega

section
variable {α : Type} {a b c d e f g h x : α} {l : List α}
theorem mem0 : a ∈ a :: l := .head _
theorem mem1 : a ∈ b :: a :: l := .tail _ mem0
theorem mem2 : a ∈ b :: c :: a :: l := .tail _ mem1
theorem mem3 : a ∈ b :: c :: d :: a :: l := .tail _ mem2
theorem mem4 : a ∈ b :: c :: d :: e :: a :: l := .tail _ mem3
theorem mem5 : a ∈ b :: c :: d :: e :: f :: a :: l := .tail _ mem4
theorem mem6 : a ∈ b :: c :: d :: e :: f :: g :: a :: l := .tail _ mem5
theorem mem7 : a ∈ b :: c :: d :: e :: f :: g :: h :: a :: l := .tail _ mem6
end

/-- class and slot are in order -/
def okD (c d N : Nat) : Bool := !Nat.beq c 2 && Nat.blt d N
def okL (c d N : Nat) : Bool := !Nat.beq c 2 && !Nat.beq c 0 && Nat.blt d N
def okN (c d N : Nat) : Bool := (Nat.beq c 2 || Nat.beq c 4) && Nat.blt d N
def okG (c d N : Nat) : Bool := (Nat.beq c 3 || Nat.beq c 4) && Nat.blt d N

theorem nbeq {a b : Nat} (h : (!Nat.beq a b) = true) : a ≠ b := fun e => by subst e; simp at h
theorem nbeq' {a b : Nat} (h : Nat.beq a b = true) : a = b := Nat.eq_of_beq_eq_true h
theorem nblt {a b : Nat} (h : Nat.blt a b = true) : a < b := by simpa [Nat.blt_eq] using h

section
variable {C : Cx} {ops : Array Oper} {c : Nat} {d : Nat} {ty : TypeId} {pos : String} {af : Array Edge} {rest : List (Nat × Oper)} {sl : List (Nat × Value)} {hp : List Blk} {Q : St → Prop}

theorem dst_some {N d : Nat} {op : Op} {g : Option (Nat × Bool)} (h : d < N) : dstOk N ⟨some d, op, ty, pos, af, g⟩ := fun t ht => by cases ht; exact h
theorem dst_none {N : Nat} {op : Op} {g : Option (Nat × Bool)} : dstOk N ⟨none, op, ty, pos, af, g⟩ := fun t ht => by cases ht

theorem known1 {x : Operand} {v : Value} (h : evIn sl x = some v) : ∀ y ∈ #[x], (evIn sl y).isSome := fun y hy => by
  simp at hy; subst hy; simp [h]

/-- a guard that holds -/
def guardOk (ops : Array Oper) (sl : List (Nat × Value)) : Option (Nat × Bool) → Bool
  | none => true
  | some (j, want) =>
    match (ops[j]?).bind (·.dst) with
    | some d => match look sl d with | some (.bool b) => b == want | _ => false
    | none => false

theorem wantS_of_guardOk {o : Oper} (h : guardOk ops sl o.guard = true) : wantS ops sl o = some true := by
  unfold guardOk at h
  unfold wantS
  cases hg : o.guard with
  | none => rfl
  | some g =>
    obtain ⟨j, want⟩ := g
    simp only [hg] at h ⊢
    cases hb : (ops[j]?).bind (·.dst) with
    | none => simp [hb] at h
    | some t =>
      simp only [hb] at h ⊢
      cases hl : look sl t with
      | none => simp [hl] at h
      | some v =>
        simp only [hl] at h ⊢
        cases v <;> simp at h ⊢
        exact h

variable {g : Option (Nat × Bool)}

/-- the operation is not wanted -/
theorem Tr.skp {op : Op} (hk : okD c d C.N = true) (hw : wantS ops sl ⟨some d, op, ty, pos, af, g⟩ = some false) (k : Tr C ops rest ⟨(d, undef) :: sl, hp⟩ Q) : Tr C ops ((c, ⟨some d, op, ty, pos, af, g⟩) :: rest) ⟨sl, hp⟩ Q := by
  simp only [okD, Bool.and_eq_true] at hk
  exact .skip (nbeq hk.1) hw (dst_some (nblt hk.2)) k

theorem Tr.skp0 {op : Op} (hk : Nat.beq c 2 = false) (hw : wantS ops sl ⟨none, op, ty, pos, af, g⟩ = some false) (k : Tr C ops rest ⟨sl, hp⟩ Q) : Tr C ops ((c, ⟨none, op, ty, pos, af, g⟩) :: rest) ⟨sl, hp⟩ Q :=
  .skip (fun e => by rw [e] at hk; simp at hk) hw dst_none k

theorem Tr.pv {op : Op} {v : Value} (hg : guardOk ops sl g = true) (hk : okD c d C.N = true) (hv : PureV C.P sl ⟨some d, op, ty, pos, af, g⟩ v) (k : Tr C ops rest ⟨(d, v) :: sl, hp⟩ Q) :
    Tr C ops ((c, ⟨some d, op, ty, pos, af, g⟩) :: rest) ⟨sl, hp⟩ Q := by
  simp only [okD, Bool.and_eq_true] at hk
  exact .pure v (nbeq hk.1) (wantS_of_guardOk hg) (dst_some (nblt hk.2)) hv k

theorem Tr.move {x : Operand} {v : Value} (hg : guardOk ops sl g = true) (hk : okD c d C.N = true) (hx : evIn sl x = some v) (k : Tr C ops rest ⟨(d, v) :: sl, hp⟩ Q) :
    Tr C ops ((c, ⟨some d, .move x, ty, pos, af, g⟩) :: rest) ⟨sl, hp⟩ Q :=
  .pv hg hk ⟨known1 hx, fun ρ hf w => by
    have := hf x (by simp [Op.operands]); rw [hx] at this; cases this; rfl⟩ k

theorem Tr.assign {x : Operand} {v : Value} (hg : guardOk ops sl g = true) (hk : okD c d C.N = true) (hx : evIn sl x = some v) (k : Tr C ops rest ⟨(d, v) :: sl, hp⟩ Q) :
    Tr C ops ((c, ⟨some d, .assign x, ty, pos, af, g⟩) :: rest) ⟨sl, hp⟩ Q :=
  .pv hg hk ⟨known1 hx, fun ρ hf w => by
    have := hf x (by simp [Op.operands]); rw [hx] at this; cases this; rfl⟩ k

theorem known2 {x y : Operand} {v u : Value} (h : evIn sl x = some v) (h2 : evIn sl y = some u) : ∀ z ∈ #[x, y], (evIn sl z).isSome := fun z hz => by
  simp at hz; rcases hz with rfl | rfl <;> simp [h, h2]

/-- an integer operation whose result the model reckons -/
theorem Tr.bin {op : BinOp} {xT yT : TypeId} {x y : Operand} {v : Value} {kx ky : IntKind} {a b : Int} (hg : guardOk ops sl g = true) (hk : okD c d C.N = true) (hx : evIn sl x = some (.int kx a)) (hy : evIn sl y = some (.int ky b))
    (hr : ∀ w, (binOp op xT (.int kx a) (.int ky b)).run C.P w = .ok v w) (k : Tr C ops rest ⟨(d, v) :: sl, hp⟩ Q) :
    Tr C ops ((c, ⟨some d, .binOp op xT x y yT, ty, pos, af, g⟩) :: rest) ⟨sl, hp⟩ Q :=
  .pv hg hk ⟨known2 hx hy, fun ρ hf w => by
    have h1 := hf x (by simp [Op.operands]); rw [hx] at h1
    have h2 := hf y (by simp [Op.operands]); rw [hy] at h2
    simp only [Option.some.injEq] at h1 h2
    have hr := hr w
    cases op <;> simp [execOp, eqGuard, ← h1, ← h2, hr]⟩ k


/-- the value of one cell -/
def isCell : Value → Bool
  | .agg _ | .tuple _ => false
  | _ => true

/-! ### integers -/

theorem i64_wrap {n : Int} (h : -9223372036854775808 ≤ n ∧ n ≤ 9223372036854775807) : IntKind.i64.wrap n = n := IntWalk.i64_in n h
def byteOf (n : Int) : UInt8 := UInt8.ofNat (n % 256).toNat
def wordOf (n : Int) : UInt64 := UInt64.ofNat (n % 18446744073709551616).toNat
def halfOf (n : Int) : UInt32 := UInt32.ofNat (n % 4294967296).toNat
def shl64 (x : UInt64) (n : Nat) : UInt64 := UInt64.ofNat (x.toNat * 2 ^ n)
def shr64 (x : UInt64) (n : Nat) : UInt64 := UInt64.ofNat (x.toNat / 2 ^ n)

theorem wrap_u8 (n : Int) : IntKind.u8.wrap n = ((byteOf n).toNat : Int) := by
  rw [IntKind.wrap_u8]; simp only [byteOf, UInt8.toNat_ofNat']; omega
theorem wrap_u64' (n : Int) : IntKind.u64.wrap n = n % 18446744073709551616 := by
  simp [IntKind.wrap, IntKind.bits, IntKind.signed]
theorem wrap_u64 (n : Int) : IntKind.u64.wrap n = ((wordOf n).toNat : Int) := by
  rw [wrap_u64']; simp only [wordOf, UInt64.toNat_ofNat']; omega
theorem wrap_u32 (n : Int) : IntKind.u32.wrap n = ((halfOf n).toNat : Int) := by
  rw [IntKind.wrap_u32]; simp only [halfOf, UInt32.toNat_ofNat']; omega

theorem add64 (x y : UInt64) : IntKind.u64.wrap ((x.toNat : Int) + y.toNat) = ((x + y).toNat : Int) := by
  rw [wrap_u64', UInt64.toNat_add]; omega
theorem sub64 (x y : UInt64) : IntKind.u64.wrap ((x.toNat : Int) - y.toNat) = ((x - y).toNat : Int) := by
  have := x.toNat_lt; have := y.toNat_lt
  rw [wrap_u64', UInt64.toNat_sub]; omega
theorem mul64 (x y : UInt64) : IntKind.u64.wrap ((x.toNat : Int) * y.toNat) = ((x * y).toNat : Int) := by
  rw [wrap_u64', UInt64.toNat_mul]
  have : ((x.toNat : Int) * y.toNat) = ((x.toNat * y.toNat : Nat) : Int) := by simp
  rw [this]; omega
theorem shl64_eq (x : UInt64) (n : Nat) : IntKind.u64.wrap ((x.toNat : Int) * 2 ^ n) = ((shl64 x n).toNat : Int) := by
  rw [wrap_u64', shl64, UInt64.toNat_ofNat']
  have : ((x.toNat : Int) * 2 ^ n) = ((x.toNat * 2 ^ n : Nat) : Int) := by simp
  rw [this]; omega
theorem shr64_eq (x : UInt64) (n : Nat) : ((x.toNat : Int).fdiv (2 ^ n)) = ((shr64 x n).toNat : Int) := by
  have h : x.toNat / 2 ^ n ≤ x.toNat := Nat.div_le_self _ _
  have := x.toNat_lt
  rw [shr64, UInt64.toNat_ofNat', Nat.mod_eq_of_lt (by omega)]
  have e : ((2 : Int) ^ n) = ((2 ^ n : Nat) : Int) := by simp
  rw [e, Int.fdiv_eq_ediv_of_nonneg _ (Int.natCast_nonneg _)]
  simp

theorem ofInt64 (x : UInt64) : BitVec.ofInt 64 (x.toNat : Int) = x.toBitVec := by
  apply BitVec.eq_of_toNat_eq
  simp
theorem bits64 (f : BitVec 64 → BitVec 64 → BitVec 64) (g : UInt64 → UInt64 → UInt64) (h : ∀ x y, (g x y).toBitVec = f x.toBitVec y.toBitVec) (x y : UInt64) :
    IntKind.u64.wrap ((f (BitVec.ofInt 64 (x.toNat : Int)) (BitVec.ofInt 64 (y.toNat : Int))).toNat : Int) = ((g x y).toNat : Int) := by
  rw [ofInt64, ofInt64, ← h, wrap_u64']
  have := (g x y).toNat_lt
  simp only [UInt64.toNat_toBitVec]
  omega

theorem ofInt8 (x : UInt8) : BitVec.ofInt 8 (x.toNat : Int) = x.toBitVec := by
  apply BitVec.eq_of_toNat_eq
  simp
theorem bits8 (f : BitVec 8 → BitVec 8 → BitVec 8) (g : UInt8 → UInt8 → UInt8) (h : ∀ x y, (g x y).toBitVec = f x.toBitVec y.toBitVec) (x y : UInt8) :
    IntKind.u8.wrap ((f (BitVec.ofInt 8 (x.toNat : Int)) (BitVec.ofInt 8 (y.toNat : Int))).toNat : Int) = ((g x y).toNat : Int) := by
  rw [ofInt8, ofInt8, ← h, IntKind.wrap_u8]
  have := (g x y).toNat_lt
  simp only [UInt8.toNat_toBitVec]
  omega

section
variable {xT yT : TypeId} {x y : Operand} {a b : Int}

theorem Tr.add_i64 (hg : guardOk ops sl g = true) (hk : okD c d C.N = true) (hx : evIn sl x = some (i64 a)) (hy : evIn sl y = some (i64 b)) (hr : -9223372036854775808 ≤ a + b ∧ a + b ≤ 9223372036854775807)
    (k : Tr C ops rest ⟨(d, i64 (a + b)) :: sl, hp⟩ Q) : Tr C ops ((c, ⟨some d, .binOp .add xT x y yT, ty, pos, af, g⟩) :: rest) ⟨sl, hp⟩ Q :=
  .bin hg hk hx hy (fun w => by simp [binOp, Op.intArith, i64_wrap hr]) k
theorem Tr.sub_i64 (hg : guardOk ops sl g = true) (hk : okD c d C.N = true) (hx : evIn sl x = some (i64 a)) (hy : evIn sl y = some (i64 b)) (hr : -9223372036854775808 ≤ a - b ∧ a - b ≤ 9223372036854775807)
    (k : Tr C ops rest ⟨(d, i64 (a - b)) :: sl, hp⟩ Q) : Tr C ops ((c, ⟨some d, .binOp .sub xT x y yT, ty, pos, af, g⟩) :: rest) ⟨sl, hp⟩ Q :=
  .bin hg hk hx hy (fun w => by simp [binOp, Op.intArith, i64_wrap hr]) k
theorem Tr.mul_i64 (hg : guardOk ops sl g = true) (hk : okD c d C.N = true) (hx : evIn sl x = some (i64 a)) (hy : evIn sl y = some (i64 b)) (hr : -9223372036854775808 ≤ a * b ∧ a * b ≤ 9223372036854775807)
    (k : Tr C ops rest ⟨(d, i64 (a * b)) :: sl, hp⟩ Q) : Tr C ops ((c, ⟨some d, .binOp .mul xT x y yT, ty, pos, af, g⟩) :: rest) ⟨sl, hp⟩ Q :=
  .bin hg hk hx hy (fun w => by simp [binOp, Op.intArith, i64_wrap hr]) k
theorem Tr.quo_i64 (hg : guardOk ops sl g = true) (hk : okD c d C.N = true) (hx : evIn sl x = some (i64 a)) (hy : evIn sl y = some (i64 b)) (hr : 0 ≤ a ∧ a ≤ 9223372036854775807 ∧ 1 ≤ b)
    (k : Tr C ops rest ⟨(d, i64 (a / b)) :: sl, hp⟩ Q) : Tr C ops ((c, ⟨some d, .binOp .quo xT x y yT, ty, pos, af, g⟩) :: rest) ⟨sl, hp⟩ Q :=
  .bin hg hk hx hy (fun w => by simp [binOp, Op.intDiv, show b ≠ 0 by omega, IntWalk.i64_quo _ _ hr]) k
theorem Tr.rem_i64 (hg : guardOk ops sl g = true) (hk : okD c d C.N = true) (hx : evIn sl x = some (i64 a)) (hy : evIn sl y = some (i64 b)) (hr : 0 ≤ a ∧ 1 ≤ b)
    (k : Tr C ops rest ⟨(d, i64 (a % b)) :: sl, hp⟩ Q) : Tr C ops ((c, ⟨some d, .binOp .rem xT x y yT, ty, pos, af, g⟩) :: rest) ⟨sl, hp⟩ Q :=
  .bin hg hk hx hy (fun w => by simp [binOp, Op.intDiv, show b ≠ 0 by omega, Int.tmod_eq_emod_of_nonneg hr.1]) k

/-- comparisons of any integers -/
theorem Tr.lss {kx : IntKind} (hg : guardOk ops sl g = true) (hk : okD c d C.N = true) (hx : evIn sl x = some (.int kx a)) (hy : evIn sl y = some (.int kx b)) {r : Bool} (hr : (decide (a < b)) = r)
    (k : Tr C ops rest ⟨(d, .bool r) :: sl, hp⟩ Q) : Tr C ops ((c, ⟨some d, .binOp .lss xT x y yT, ty, pos, af, g⟩) :: rest) ⟨sl, hp⟩ Q :=
  .bin hg hk hx hy (fun w => by subst hr; simp [binOp, Op.intCmp]) k
theorem Tr.leq {kx : IntKind} (hg : guardOk ops sl g = true) (hk : okD c d C.N = true) (hx : evIn sl x = some (.int kx a)) (hy : evIn sl y = some (.int kx b)) {r : Bool} (hr : (decide (a ≤ b)) = r)
    (k : Tr C ops rest ⟨(d, .bool r) :: sl, hp⟩ Q) : Tr C ops ((c, ⟨some d, .binOp .leq xT x y yT, ty, pos, af, g⟩) :: rest) ⟨sl, hp⟩ Q :=
  .bin hg hk hx hy (fun w => by subst hr; simp [binOp, Op.intCmp]) k
theorem Tr.gtr {kx : IntKind} (hg : guardOk ops sl g = true) (hk : okD c d C.N = true) (hx : evIn sl x = some (.int kx a)) (hy : evIn sl y = some (.int kx b)) {r : Bool} (hr : (decide (b < a)) = r)
    (k : Tr C ops rest ⟨(d, .bool r) :: sl, hp⟩ Q) : Tr C ops ((c, ⟨some d, .binOp .gtr xT x y yT, ty, pos, af, g⟩) :: rest) ⟨sl, hp⟩ Q :=
  .bin hg hk hx hy (fun w => by subst hr; simp [binOp, Op.intCmp]) k
theorem Tr.geq {kx : IntKind} (hg : guardOk ops sl g = true) (hk : okD c d C.N = true) (hx : evIn sl x = some (.int kx a)) (hy : evIn sl y = some (.int kx b)) {r : Bool} (hr : (decide (b ≤ a)) = r)
    (k : Tr C ops rest ⟨(d, .bool r) :: sl, hp⟩ Q) : Tr C ops ((c, ⟨some d, .binOp .geq xT x y yT, ty, pos, af, g⟩) :: rest) ⟨sl, hp⟩ Q :=
  .bin hg hk hx hy (fun w => by subst hr; simp [binOp, Op.intCmp]) k
theorem Tr.eqi {kx : IntKind} (hg : guardOk ops sl g = true) (hk : okD c d C.N = true) (hx : evIn sl x = some (.int kx a)) (hy : evIn sl y = some (.int kx b)) {r : Bool} (hr : (decide (a = b)) = r)
    (k : Tr C ops rest ⟨(d, .bool r) :: sl, hp⟩ Q) : Tr C ops ((c, ⟨some d, .binOp .eql xT x y yT, ty, pos, af, g⟩) :: rest) ⟨sl, hp⟩ Q :=
  .bin hg hk hx hy (fun w => by subst hr; simp [binOp, Op.intCmp]; rfl) k
theorem Tr.nei {kx : IntKind} (hg : guardOk ops sl g = true) (hk : okD c d C.N = true) (hx : evIn sl x = some (.int kx a)) (hy : evIn sl y = some (.int kx b)) {r : Bool} (hr : (!decide (a = b)) = r)
    (k : Tr C ops rest ⟨(d, .bool r) :: sl, hp⟩ Q) : Tr C ops ((c, ⟨some d, .binOp .neq xT x y yT, ty, pos, af, g⟩) :: rest) ⟨sl, hp⟩ Q :=
  .bin hg hk hx hy (fun w => by subst hr; simp [binOp, Op.intCmp]; rfl) k

variable {p q : UInt64}
theorem Tr.add_u64 (hg : guardOk ops sl g = true) (hk : okD c d C.N = true) (hx : evIn sl x = some (u64 p)) (hy : evIn sl y = some (u64 q))
    (k : Tr C ops rest ⟨(d, u64 (p + q)) :: sl, hp⟩ Q) : Tr C ops ((c, ⟨some d, .binOp .add xT x y yT, ty, pos, af, g⟩) :: rest) ⟨sl, hp⟩ Q :=
  .bin hg hk hx hy (fun w => by simp only [binOp, Op.intArith, add64]; rfl) k
theorem Tr.sub_u64 (hg : guardOk ops sl g = true) (hk : okD c d C.N = true) (hx : evIn sl x = some (u64 p)) (hy : evIn sl y = some (u64 q))
    (k : Tr C ops rest ⟨(d, u64 (p - q)) :: sl, hp⟩ Q) : Tr C ops ((c, ⟨some d, .binOp .sub xT x y yT, ty, pos, af, g⟩) :: rest) ⟨sl, hp⟩ Q :=
  .bin hg hk hx hy (fun w => by simp only [binOp, Op.intArith, sub64]; rfl) k
theorem Tr.mul_u64 (hg : guardOk ops sl g = true) (hk : okD c d C.N = true) (hx : evIn sl x = some (u64 p)) (hy : evIn sl y = some (u64 q))
    (k : Tr C ops rest ⟨(d, u64 (p * q)) :: sl, hp⟩ Q) : Tr C ops ((c, ⟨some d, .binOp .mul xT x y yT, ty, pos, af, g⟩) :: rest) ⟨sl, hp⟩ Q :=
  .bin hg hk hx hy (fun w => by simp only [binOp, Op.intArith, mul64]; rfl) k
theorem Tr.and_u64 (hg : guardOk ops sl g = true) (hk : okD c d C.N = true) (hx : evIn sl x = some (u64 p)) (hy : evIn sl y = some (u64 q))
    (k : Tr C ops rest ⟨(d, u64 (p &&& q)) :: sl, hp⟩ Q) : Tr C ops ((c, ⟨some d, .binOp .and xT x y yT, ty, pos, af, g⟩) :: rest) ⟨sl, hp⟩ Q :=
  .bin hg hk hx hy (fun w => congrArg (fun n => Result.ok (Value.int .u64 n) w) (bits64 (· &&& ·) (· &&& ·) (fun _ _ => rfl) p q)) k
theorem Tr.or_u64 (hg : guardOk ops sl g = true) (hk : okD c d C.N = true) (hx : evIn sl x = some (u64 p)) (hy : evIn sl y = some (u64 q))
    (k : Tr C ops rest ⟨(d, u64 (p ||| q)) :: sl, hp⟩ Q) : Tr C ops ((c, ⟨some d, .binOp .or xT x y yT, ty, pos, af, g⟩) :: rest) ⟨sl, hp⟩ Q :=
  .bin hg hk hx hy (fun w => congrArg (fun n => Result.ok (Value.int .u64 n) w) (bits64 (· ||| ·) (· ||| ·) (fun _ _ => rfl) p q)) k
theorem Tr.xor_u64 (hg : guardOk ops sl g = true) (hk : okD c d C.N = true) (hx : evIn sl x = some (u64 p)) (hy : evIn sl y = some (u64 q))
    (k : Tr C ops rest ⟨(d, u64 (p ^^^ q)) :: sl, hp⟩ Q) : Tr C ops ((c, ⟨some d, .binOp .xor xT x y yT, ty, pos, af, g⟩) :: rest) ⟨sl, hp⟩ Q :=
  .bin hg hk hx hy (fun w => congrArg (fun n => Result.ok (Value.int .u64 n) w) (bits64 (· ^^^ ·) (· ^^^ ·) (fun _ _ => rfl) p q)) k
theorem Tr.shl_u64 {ky : IntKind} (hg : guardOk ops sl g = true) (hk : okD c d C.N = true) (hx : evIn sl x = some (u64 p)) (hy : evIn sl y = some (.int ky b)) (n : Nat) (hn : b = n) (hr : n ≤ 64)
    (k : Tr C ops rest ⟨(d, u64 (shl64 p n)) :: sl, hp⟩ Q) : Tr C ops ((c, ⟨some d, .binOp .shl xT x y yT, ty, pos, af, g⟩) :: rest) ⟨sl, hp⟩ Q :=
  .bin hg hk hx hy (fun w => by
    subst hn
    simp only [binOp, Op.shift, IntKind.bits]; rw [if_neg (by omega), Int.toNat_natCast, Nat.min_eq_left hr, shl64_eq]; rfl) k
theorem Tr.shr_u64 {ky : IntKind} (hg : guardOk ops sl g = true) (hk : okD c d C.N = true) (hx : evIn sl x = some (u64 p)) (hy : evIn sl y = some (.int ky b)) (n : Nat) (hn : b = n) (hr : n ≤ 64)
    (k : Tr C ops rest ⟨(d, u64 (shr64 p n)) :: sl, hp⟩ Q) : Tr C ops ((c, ⟨some d, .binOp .shr xT x y yT, ty, pos, af, g⟩) :: rest) ⟨sl, hp⟩ Q :=
  .bin hg hk hx hy (fun w => by
    subst hn
    simp only [binOp, Op.shift, IntKind.bits]; rw [if_neg (by omega), Int.toNat_natCast, Nat.min_eq_left hr, shr64_eq]; rfl) k

/-! ### conversions, bools, picks -/

theorem Tr.conv {src dst : TypeId} {kx kd : IntKind} {v : Value} {td : TypeDesc} (hg : guardOk ops sl g = true) (hk : okD c d C.N = true) (hx : evIn sl x = some (.int kx a)) (hs : C.P.underlying src = some td) (hu : C.P.underlying dst = some (.int kd)) (hr : Value.int kd (kd.wrap a) = v)
    (k : Tr C ops rest ⟨(d, v) :: sl, hp⟩ Q) : Tr C ops ((c, ⟨some d, .convert src dst x, ty, pos, af, g⟩) :: rest) ⟨sl, hp⟩ Q :=
  .pv hg hk ⟨known1 hx, fun ρ hf w => by
    have h1 := hf x (by simp [Op.operands]); rw [hx] at h1
    simp only [Option.some.injEq] at h1
    subst hr
    simp [execOp, convert, run_underlying hs, run_underlying hu, ← h1, Conv.intToInt]⟩ k

theorem cv_u8_u64 (x : UInt8) : Value.int .u64 (IntKind.u64.wrap (x.toNat : Int)) = u64 x.toUInt64 := by
  rw [wrap_u64']; have := x.toNat_lt; simp [u64]; omega
theorem cv_u8_i64 (x : UInt8) : Value.int .i64 (IntKind.i64.wrap (x.toNat : Int)) = i64 (x.toNat : Int) := by
  rw [i64_wrap]; have := x.toNat_lt; omega
theorem cv_u64_u8 (x : UInt64) : Value.int .u8 (IntKind.u8.wrap (x.toNat : Int)) = u8 x.toUInt8 := by
  rw [IntKind.wrap_u8]; simp [u8]
theorem cv_i64_u8 (n : Int) : Value.int .u8 (IntKind.u8.wrap n) = u8 (byteOf n) := by rw [wrap_u8]
theorem cv_i64_u64 (n : Int) : Value.int .u64 (IntKind.u64.wrap n) = u64 (wordOf n) := by rw [wrap_u64]
theorem cv_u32_u64 (x : UInt32) : Value.int .u64 (IntKind.u64.wrap (x.toNat : Int)) = u64 x.toUInt64 := by
  rw [wrap_u64']; have := x.toNat_lt; simp [u64]; omega
theorem cv_i64_i64 {n : Int} (h : -9223372036854775808 ≤ n ∧ n ≤ 9223372036854775807) : Value.int .i64 (IntKind.i64.wrap n) = i64 n := by rw [i64_wrap h]
theorem cv_u64_i64 {x : UInt64} (h : x.toNat ≤ 9223372036854775807) : Value.int .i64 (IntKind.i64.wrap (x.toNat : Int)) = i64 (x.toNat : Int) := by
  rw [i64_wrap]; omega

theorem Tr.not {v : Bool} (hg : guardOk ops sl g = true) (hk : okD c d C.N = true) (hx : evIn sl x = some (.bool v))
    (k : Tr C ops rest ⟨(d, .bool (!v)) :: sl, hp⟩ Q) : Tr C ops ((c, ⟨some d, .unOp .not xT x, ty, pos, af, g⟩) :: rest) ⟨sl, hp⟩ Q :=
  .pv hg hk ⟨known1 hx, fun ρ hf w => by
    have h1 := hf x (by simp [Op.operands]); rw [hx] at h1
    simp only [Option.some.injEq] at h1
    simp [execOp, Op.unary, ← h1]⟩ k

theorem Tr.neg_i64 (hg : guardOk ops sl g = true) (hk : okD c d C.N = true) (hx : evIn sl x = some (i64 a)) (hr : -9223372036854775807 ≤ a ∧ a ≤ 9223372036854775807)
    (k : Tr C ops rest ⟨(d, i64 (-a)) :: sl, hp⟩ Q) : Tr C ops ((c, ⟨some d, .unOp .neg xT x, ty, pos, af, g⟩) :: rest) ⟨sl, hp⟩ Q :=
  .pv hg hk ⟨known1 hx, fun ρ hf w => by
    have h1 := hf x (by simp [Op.operands]); rw [hx] at h1
    simp only [Option.some.injEq] at h1
    have : IntKind.i64.wrap (-a) = -a := i64_wrap (by omega)
    simp [execOp, Op.unary, Op.intArith, ← h1, this]⟩ k

theorem known3 {x y z : Operand} {v u t : Value} (h : evIn sl x = some v) (h2 : evIn sl y = some u) (h3 : evIn sl z = some t) : ∀ r ∈ #[x, y, z], (evIn sl r).isSome := fun r hr => by
  simp at hr; rcases hr with rfl | rfl | rfl <;> simp [h, h2, h3]

theorem Tr.pick {z : Operand} {b : Bool} {v u r : Value} (hg : guardOk ops sl g = true) (hk : okD c d C.N = true) (hx : evIn sl x = some (.bool b)) (hy : evIn sl y = some v) (hz : evIn sl z = some u) (hr : (bif b then v else u) = r)
    (k : Tr C ops rest ⟨(d, r) :: sl, hp⟩ Q) : Tr C ops ((c, ⟨some d, .pick x y z, ty, pos, af, g⟩) :: rest) ⟨sl, hp⟩ Q :=
  .pv hg hk ⟨known3 hx hy hz, fun ρ hf w => by
    have h1 := hf x (by simp [Op.operands]); rw [hx] at h1
    have h2 := hf y (by simp [Op.operands]); rw [hy] at h2
    have h3 := hf z (by simp [Op.operands]); rw [hz] at h3
    simp only [Option.some.injEq] at h1 h2 h3
    subst hr
    cases b <;> simp [execOp, ← h1, asBool, ← h2, ← h3]⟩ k

theorem Tr.extract {vs : Array Value} {i : Nat} {v : Value} (hg : guardOk ops sl g = true) (hk : okD c d C.N = true) (hx : evIn sl x = some (.tuple vs)) (hv : vs[i]? = some v)
    (k : Tr C ops rest ⟨(d, v) :: sl, hp⟩ Q) : Tr C ops ((c, ⟨some d, .extract x i, ty, pos, af, g⟩) :: rest) ⟨sl, hp⟩ Q :=
  .pv hg hk ⟨known1 hx, fun ρ hf w => by
    have h1 := hf x (by simp [Op.operands]); rw [hx] at h1
    simp only [Option.some.injEq] at h1
    simp [execOp, Instr.extract, ← h1, hv]⟩ k
end


/-! ### addresses -/

def Sz (P : Program) (T : TypeId) (n : Nat) : Prop := (P.info? T).map (·.size) = some n
def Zr (P : Program) (T : TypeId) (v : Value) : Prop := (P.info? T).bind (·.zero) = some v

theorem run_sz {P : Program} {T : TypeId} {n : Nat} (h : Sz P T n) (w : World) : (Go.sizeOf T).run P w = .ok n w := by
  unfold Sz at h
  cases h1 : P.info? T with
  | none => simp [h1] at h
  | some i => simp [h1] at h; simp [Go.sizeOf, typeInfo, h1, h]
theorem run_zr {P : Program} {T : TypeId} {v : Value} (h : Zr P T v) (w : World) : (zeroValue T).run P w = .ok v w := by
  unfold Zr at h
  cases h1 : P.info? T with
  | none => simp [h1] at h
  | some i => simp [h1] at h; simp [zeroValue, typeInfo, h1, h]

theorem add_addr (b o k : Nat) : (⟨b, o, none⟩ : Addr).add k = ⟨b, o + k, none⟩ := by
  unfold Addr.add
  split
  · rename_i h; subst h; rfl
  · rfl

section
variable {xT : TypeId} {x y : Operand} {b o : Nat} {len : Nat} {E : TypeId} {ki : IntKind} {i : Int}

theorem Tr.idxArr (sz : Nat) (hg : guardOk ops sl g = true) (hk : okD c d C.N = true) (hx : evIn sl x = some (ptr b o)) (hy : evIn sl y = some (.int ki i)) (hu : C.P.underlying xT = some (.array len E)) (hs : Sz C.P E sz) (j : Nat) (hj : i = j) (hlt : j < len)
    (k : Tr C ops rest ⟨(d, ptr b (o + j * sz)) :: sl, hp⟩ Q) : Tr C ops ((c, ⟨some d, .indexAddr xT x y, ty, pos, af, g⟩) :: rest) ⟨sl, hp⟩ Q :=
  .pv hg hk ⟨known2 hx hy, fun ρ hf w => by
    have h1 := hf x (by simp [Op.operands]); rw [hx] at h1
    have h2 := hf y (by simp [Op.operands]); rw [hy] at h2
    simp only [Option.some.injEq] at h1 h2
    subst hj
    simp [execOp, Instr.indexAt, ← h1, ← h2, asIntOf, run_underlying hu, Instr.sureAddr, hlt, run_sz hs, add_addr]⟩ k

theorem Tr.idxArr1 (hg : guardOk ops sl g = true) (hk : okD c d C.N = true) (hx : evIn sl x = some (ptr b 0)) (hy : evIn sl y = some (.int ki i)) (hu : C.P.underlying xT = some (.array len E)) (hs : Sz C.P E 1) (j : Nat) (hj : i = j) (hlt : j < len)
    (k : Tr C ops rest ⟨(d, ptr b j) :: sl, hp⟩ Q) : Tr C ops ((c, ⟨some d, .indexAddr xT x y, ty, pos, af, g⟩) :: rest) ⟨sl, hp⟩ Q :=
  .idxArr 1 hg hk hx hy hu hs j hj hlt (by simpa using k)

theorem Tr.idxArrO (hg : guardOk ops sl g = true) (hk : okD c d C.N = true) (hx : evIn sl x = some (ptr b o)) (hy : evIn sl y = some (.int ki i)) (hu : C.P.underlying xT = some (.array len E)) (hs : Sz C.P E 1) (j : Nat) (hj : i = j) (hlt : j < len)
    (k : Tr C ops rest ⟨(d, ptr b (o + j)) :: sl, hp⟩ Q) : Tr C ops ((c, ⟨some d, .indexAddr xT x y, ty, pos, af, g⟩) :: rest) ⟨sl, hp⟩ Q :=
  .idxArr 1 hg hk hx hy hu hs j hj hlt (by simpa using k)

variable {n cap : Nat}
theorem Tr.idxSl (sz : Nat) (hg : guardOk ops sl g = true) (hk : okD c d C.N = true) (hx : evIn sl x = some (.slice (some ⟨b, o, none⟩) n cap)) (hy : evIn sl y = some (.int ki i)) (hu : C.P.underlying xT = some (.slice E)) (hs : Sz C.P E sz) (j : Nat) (hj : i = j) (hlt : j < n)
    (k : Tr C ops rest ⟨(d, ptr b (o + j * sz)) :: sl, hp⟩ Q) : Tr C ops ((c, ⟨some d, .indexAddr xT x y, ty, pos, af, g⟩) :: rest) ⟨sl, hp⟩ Q :=
  .pv hg hk ⟨known2 hx hy, fun ρ hf w => by
    have h1 := hf x (by simp [Op.operands]); rw [hx] at h1
    have h2 := hf y (by simp [Op.operands]); rw [hy] at h2
    simp only [Option.some.injEq] at h1 h2
    subst hj
    simp [execOp, Instr.indexAt, ← h1, ← h2, asIntOf, run_underlying hu, hlt, run_sz hs, add_addr]⟩ k

theorem Tr.idxSl1 (hg : guardOk ops sl g = true) (hk : okD c d C.N = true) (hx : evIn sl x = some (.slice (some ⟨b, 0, none⟩) n cap)) (hy : evIn sl y = some (.int ki i)) (hu : C.P.underlying xT = some (.slice E)) (hs : Sz C.P E 1) (j : Nat) (hj : i = j) (hlt : j < n)
    (k : Tr C ops rest ⟨(d, ptr b j) :: sl, hp⟩ Q) : Tr C ops ((c, ⟨some d, .indexAddr xT x y, ty, pos, af, g⟩) :: rest) ⟨sl, hp⟩ Q :=
  .idxSl 1 hg hk hx hy hu hs j hj hlt (by simpa using k)

theorem Tr.idxSlO (hg : guardOk ops sl g = true) (hk : okD c d C.N = true) (hx : evIn sl x = some (.slice (some ⟨b, o, none⟩) n cap)) (hy : evIn sl y = some (.int ki i)) (hu : C.P.underlying xT = some (.slice E)) (hs : Sz C.P E 1) (j : Nat) (hj : i = j) (hlt : j < n)
    (k : Tr C ops rest ⟨(d, ptr b (o + j)) :: sl, hp⟩ Q) : Tr C ops ((c, ⟨some d, .indexAddr xT x y, ty, pos, af, g⟩) :: rest) ⟨sl, hp⟩ Q :=
  .idxSl 1 hg hk hx hy hu hs j hj hlt (by simpa using k)

/-- a field's place; fields of no size are not served -/
theorem Tr.fld {fs : Array Field} {f : Nat} {fd : Field} {sz : Nat} (hg : guardOk ops sl g = true) (hk : okD c d C.N = true) (hx : evIn sl x = some (ptr b o)) (hu : C.P.underlying xT = some (.struct fs)) (hf : fs[f]? = some fd) (hs : Sz C.P fd.type sz) (hz : sz ≠ 0) (o' : Nat) (ho : o + fd.offset = o')
    (k : Tr C ops rest ⟨(d, ptr b o') :: sl, hp⟩ Q) : Tr C ops ((c, ⟨some d, .fieldAddr xT x f, ty, pos, af, g⟩) :: rest) ⟨sl, hp⟩ Q :=
  .pv hg hk ⟨known1 hx, fun ρ hfi w => by
    have h1 := hfi x (by simp [Op.operands]); rw [hx] at h1
    simp only [Option.some.injEq] at h1
    subst ho
    simp [execOp, Instr.fieldAt, ← h1, run_underlying hu, hf, Instr.sureAddr, fieldPlace, run_sz hs, hz, add_addr]⟩ k

/-- the whole of an array as a slice -/
theorem Tr.sliceArr (hg : guardOk ops sl g = true) (hk : okD c d C.N = true) (hx : evIn sl x = some (ptr b o)) (hu : C.P.underlying xT = some (.array len E)) {sz : Nat} (hs : Sz C.P E sz)
    (k : Tr C ops rest ⟨(d, .slice (some ⟨b, o, none⟩) len len) :: sl, hp⟩ Q) : Tr C ops ((c, ⟨some d, .slice xT x none none none, ty, pos, af, g⟩) :: rest) ⟨sl, hp⟩ Q :=
  .pv hg hk ⟨known1 hx, fun ρ hfi w => by
    have h1 := hfi x (by simp [Op.operands]); rw [hx] at h1
    simp only [Option.some.injEq] at h1
    simp [execOp, Instr.sliceAt, ← h1, run_underlying hu, Instr.sureAddr, Instr.sliceBounds, run_sz hs, add_addr]⟩ k

/-- an array from a place on, as a slice -/
theorem Tr.sliceArrLo {lo : Operand} {kl : IntKind} {l : Int} (j : Nat) (hg : guardOk ops sl g = true) (hk : okD c d C.N = true) (hx : evIn sl x = some (ptr b o)) (hlo : evIn sl lo = some (.int kl l)) (hj : l = j) (hlt : j < len) (hu : C.P.underlying xT = some (.array len E)) {sz : Nat} (hs : Sz C.P E sz)
    (k : Tr C ops rest ⟨(d, .slice (some ⟨b, o + j * sz, none⟩) (len - j) (len - j)) :: sl, hp⟩ Q) : Tr C ops ((c, ⟨some d, .slice xT x (some lo) none none, ty, pos, af, g⟩) :: rest) ⟨sl, hp⟩ Q :=
  .pv hg hk ⟨by simpa [Known, Op.operands] using known2 hx hlo, fun ρ hfi w => by
    have h1 := hfi x (by simp [Op.operands]); rw [hx] at h1
    have h2 := hfi lo (by simp [Op.operands]); rw [hlo] at h2
    simp only [Option.some.injEq] at h1 h2
    subst hj
    have e : ¬ (len = j) := by omega
    have e1 : j ≤ len := by omega
    simp [execOp, Instr.sliceAt, ← h1, ← h2, run_underlying hu, Instr.sureAddr, Instr.sliceBounds, Instr.sliceBound, asIntOf, run_sz hs, add_addr, e, e1]⟩ k

theorem Tr.lenSl {ad : Option Addr} {T : TypeId} (hg : guardOk ops sl g = true) (hk : okD c d C.N = true) (hx : evIn sl x = some (.slice ad n cap)) (hu : C.P.underlying T = some (.slice E))
    (k : Tr C ops rest ⟨(d, i64 (n : Int)) :: sl, hp⟩ Q) : Tr C ops ((c, ⟨some d, .call { callee := .builtin .len, args := #[x], argTypes := #[T] }, ty, pos, af, g⟩) :: rest) ⟨sl, hp⟩ Q :=
  .pv hg hk ⟨by simpa [Known, Op.operands, Call.operands] using known1 hx, fun ρ hfi w => by
    have h1 := hfi x (by simp [Op.operands, Call.operands]); rw [hx] at h1
    simp only [Option.some.injEq] at h1
    simp [execOp, resolve, invoke, builtin, Builtin.len_, ← h1, run_underlying hu, goInt]⟩ k
end

/-! ### memory: reading -/

theorem BlkAt.cell {w : World} {b : Blk} {full : Array Value} {fr : Nat × Nat} (h : BlkAt w b full fr) {o : Nat} {v : Value} (hv : b.cs[o]? = some v) : w.cell? ⟨b.n, o, none⟩ = some v := by
  have h2 : full.toList[o]? = some v := by
    obtain ⟨t, ht⟩ := h.pre
    rw [← ht, List.getElem?_append_left (by
      rcases Nat.lt_or_ge o b.cs.length with h1 | h1
      · exact h1
      · rw [List.getElem?_eq_none h1] at hv; cases hv)]
    exact hv
  simp only [World.cell?, h.heap]
  simpa using h2

theorem BlkOk.cell {w : World} {b : Blk} (h : BlkOk w b) {o : Nat} {v : Value} (hv : b.cs[o]? = some v) : w.cell? ⟨b.n, o, none⟩ = some v := by
  obtain ⟨full, fr, h⟩ := h
  exact h.cell hv

theorem BlkAt.unfrozen {w : World} {b : Blk} {full : Array Value} {fr : Nat × Nat} (h : BlkAt w b full fr) {o : Nat} (ho : o < b.m) : w.frozen? ⟨b.n, o, none⟩ = false := by
  simp only [World.frozen?, h.heap]
  exact h.free.at' o ho

/-- a type of one cell that is no struct and no array -/
def plainDesc : TypeDesc → Bool
  | .struct _ | .array _ _ => false
  | _ => true

theorem run_isAgg_plain {P : Program} {T : TypeId} {td : TypeDesc} (hu : P.underlying T = some td) (hp : plainDesc td = true) (w : World) : (isAgg T).run P w = .ok false w := by
  cases td <;> simp [plainDesc] at hp <;> simp [isAgg, run_underlying hu]
theorem run_isAgg_arr {P : Program} {T : TypeId} {td : TypeDesc} (hu : P.underlying T = some td) (hp : plainDesc td = false) (w : World) : (isAgg T).run P w = .ok true w := by
  cases td <;> simp [plainDesc] at hp <;> simp [isAgg, run_underlying hu]

theorem run_row {P : Program} {w : World} {b o n : Nat} {cs : List Value} (hn : cs.length = n) (h : ∀ j v, cs[j]? = some v → w.cell? ⟨b, o + j, none⟩ = some v) : (loadCells ⟨b, o, none⟩ n).run P w = .ok cs.toArray w := by
  subst hn
  exact run_loadCells_list w ⟨b, o, none⟩ cs fun j v hj => by rw [add_addr]; exact h j v hj

section
variable {T : TypeId} {td : TypeDesc} {x : Operand} {b o : Nat} {v : Value} {cs : List Value} {BT : TypeId} {m : Nat}

theorem Tr.ld {op : Op} {v : Value} (hg : guardOk ops sl g = true) (hk : okL c d C.N = true) (hv : LoadV C ⟨sl, hp⟩ ⟨some d, op, ty, pos, af, g⟩ v) (k : Tr C ops rest ⟨(d, v) :: sl, hp⟩ Q) :
    Tr C ops ((c, ⟨some d, op, ty, pos, af, g⟩) :: rest) ⟨sl, hp⟩ Q := by
  simp only [okL, Bool.and_eq_true] at hk
  exact .load v (nbeq hk.1.1) (nbeq hk.1.2) (wantS_of_guardOk hg) (dst_some (nblt hk.2)) hv k

theorem Tr.loadAny (hg : guardOk ops sl g = true) (hk : okL c d C.N = true) (hx : evIn sl x = some (ptr b o)) (hv : ∀ w, HRep C hp w → (loadVar T ⟨b, o, none⟩).run C.P w = .ok v w)
    (k : Tr C ops rest ⟨(d, v) :: sl, hp⟩ Q) : Tr C ops ((c, ⟨some d, .load T x, ty, pos, af, g⟩) :: rest) ⟨sl, hp⟩ Q :=
  .ld hg hk ⟨known1 hx, fun ρ hf w hr => by
    have h1 := hf x (by simp [Op.operands]); rw [hx] at h1
    simp only [Option.some.injEq] at h1
    simp [execOp, Instr.loadAt, ← h1, Instr.sureAddr, hv w hr]⟩ k

/-- one cell of an own block -/
theorem Tr.load1 (hg : guardOk ops sl g = true) (hk : okL c d C.N = true) (hx : evIn sl x = some (ptr b o)) (hu : C.P.underlying T = some td) (hp' : plainDesc td = true) (hb : (⟨b, cs, BT, m⟩ : Blk) ∈ hp) (hv : cs[o]? = some v)
    (k : Tr C ops rest ⟨(d, v) :: sl, hp⟩ Q) : Tr C ops ((c, ⟨some d, .load T x, ty, pos, af, g⟩) :: rest) ⟨sl, hp⟩ Q :=
  .loadAny hg hk hx (fun w hr => by
    have := (hr.cells _ hb).cell (o := o) hv
    simp [loadVar, run_isAgg_plain hu hp', load, Sem.run, this]) k

/-- a row of cells of an own block -/
theorem Tr.loadN {n : Nat} (r : List Value) (hg : guardOk ops sl g = true) (hk : okL c d C.N = true) (hx : evIn sl x = some (ptr b o)) (hu : C.P.underlying T = some td) (hp' : plainDesc td = false) (hs : Sz C.P T n) (hb : (⟨b, cs, BT, m⟩ : Blk) ∈ hp) (hr : (cs.drop o).take n = r) (hn : r.length = n)
    (k : Tr C ops rest ⟨(d, agg r) :: sl, hp⟩ Q) : Tr C ops ((c, ⟨some d, .load T x, ty, pos, af, g⟩) :: rest) ⟨sl, hp⟩ Q :=
  .loadAny hg hk hx (fun w hh => by
    have := run_row (P := C.P) (w := w) (b := b) (o := o) hn fun j v hj => by
      refine (hh.cells _ hb).cell (b := ⟨b, cs, BT, m⟩) (o := o + j) ?_
      rw [← hr, List.getElem?_take] at hj
      split at hj
      · rwa [List.getElem?_drop] at hj
      · cases hj
    simp [loadVar, run_isAgg_arr hu hp', run_sz hs, this]) k

/-- the whole of an own block -/
theorem Tr.loadAll {n : Nat} (hg : guardOk ops sl g = true) (hk : okL c d C.N = true) (hx : evIn sl x = some (ptr b 0)) (hu : C.P.underlying T = some td) (hp' : plainDesc td = false) (hs : Sz C.P T n) (hb : (⟨b, cs, BT, m⟩ : Blk) ∈ hp) (hn : cs.length = n)
    (k : Tr C ops rest ⟨(d, agg cs) :: sl, hp⟩ Q) : Tr C ops ((c, ⟨some d, .load T x, ty, pos, af, g⟩) :: rest) ⟨sl, hp⟩ Q :=
  .loadN cs hg hk hx hu hp' hs hb (by simp [← hn]) hn k

theorem Keeps.cell {ex : List Nat} {w w' : World} (h : Keeps ex w w') {p : Addr} {v : Value} (hn : p.block ∉ ex) (hv : w.cell? p = some v) : w'.cell? p = some v := by
  have hlt : p.block < w.heap.size := by
    rcases Nat.lt_or_ge p.block w.heap.size with h1 | h1
    · exact h1
    · simp [World.cell?, Array.getElem?_eq_none h1] at hv
  have := h.block p.block hlt hn
  simp only [World.cell?, this]
  exact hv

/-- one cell of the memory that came in -/
theorem Tr.loadE (hg : guardOk ops sl g = true) (hk : okL c d C.N = true) (hx : evIn sl x = some (ptr b o)) (hu : C.P.underlying T = some td) (hp' : plainDesc td = true) (hb : b ∉ C.lent) (hv : C.W0.cell? ⟨b, o, none⟩ = some v)
    (k : Tr C ops rest ⟨(d, v) :: sl, hp⟩ Q) : Tr C ops ((c, ⟨some d, .load T x, ty, pos, af, g⟩) :: rest) ⟨sl, hp⟩ Q :=
  .loadAny hg hk hx (fun w hr => by
    have := hr.keeps.cell (p := ⟨b, o, none⟩) hb hv
    simp [loadVar, run_isAgg_plain hu hp', load, Sem.run, this]) k

/-- a row of cells of the memory that came in -/
theorem Tr.loadEN {n : Nat} (r : List Value) (hg : guardOk ops sl g = true) (hk : okL c d C.N = true) (hx : evIn sl x = some (ptr b o)) (hu : C.P.underlying T = some td) (hp' : plainDesc td = false) (hs : Sz C.P T n) (hb : b ∉ C.lent) (hn : r.length = n)
    (hv : ∀ j v, r[j]? = some v → C.W0.cell? ⟨b, o + j, none⟩ = some v)
    (k : Tr C ops rest ⟨(d, agg r) :: sl, hp⟩ Q) : Tr C ops ((c, ⟨some d, .load T x, ty, pos, af, g⟩) :: rest) ⟨sl, hp⟩ Q :=
  .loadAny hg hk hx (fun w hh => by
    have := run_row (P := C.P) (w := w) (b := b) (o := o) hn fun j v hj => hh.keeps.cell (p := ⟨b, o + j, none⟩) hb (hv j v hj)
    simp [loadVar, run_isAgg_arr hu hp', run_sz hs, this]) k

/-! ### reads of what stays as it is -/

theorem BlkOk.cell0 {w : World} {b o : Nat} {cs : List Value} {T : TypeId} {m : Nat} {v : Value} (h : BlkOk w ⟨b, cs, T, m⟩) (hv : cs[o]? = some v) : w.cell? ⟨b, o, none⟩ = some v := BlkOk.cell (b := ⟨b, cs, T, m⟩) h hv

theorem Tr.kld {op : Op} {v : Value} (hg : guardOk ops sl g = true) (hk : okD c d C.N = true) (hv : KLoadV C sl ⟨some d, op, ty, pos, af, g⟩ v) (k : Tr C ops rest ⟨(d, v) :: sl, hp⟩ Q) :
    Tr C ops ((c, ⟨some d, op, ty, pos, af, g⟩) :: rest) ⟨sl, hp⟩ Q := by
  simp only [okD, Bool.and_eq_true] at hk
  exact .kload v (nbeq hk.1) (wantS_of_guardOk hg) (dst_some (nblt hk.2)) hv k

theorem Tr.kloadAny (hg : guardOk ops sl g = true) (hk : okD c d C.N = true) (hx : evIn sl x = some (ptr b o)) (hv : ∀ w, (∀ b ∈ C.kb, BlkOk w b) → Keeps C.lent C.W0 w → (loadVar T ⟨b, o, none⟩).run C.P w = .ok v w)
    (k : Tr C ops rest ⟨(d, v) :: sl, hp⟩ Q) : Tr C ops ((c, ⟨some d, .load T x, ty, pos, af, g⟩) :: rest) ⟨sl, hp⟩ Q :=
  .kld hg hk ⟨known1 hx, fun ρ hf w hr hq => by
    have h1 := hf x (by simp [Op.operands]); rw [hx] at h1
    simp only [Option.some.injEq] at h1
    simp [execOp, Instr.loadAt, ← h1, Instr.sureAddr, hv w hr hq]⟩ k

theorem Tr.kload1 (hg : guardOk ops sl g = true) (hk : okD c d C.N = true) (hx : evIn sl x = some (ptr b o)) (hu : C.P.underlying T = some td) (hp' : plainDesc td = true) (hb : (⟨b, cs, BT, m⟩ : Blk) ∈ C.kb) (hv : cs[o]? = some v)
    (k : Tr C ops rest ⟨(d, v) :: sl, hp⟩ Q) : Tr C ops ((c, ⟨some d, .load T x, ty, pos, af, g⟩) :: rest) ⟨sl, hp⟩ Q :=
  .kloadAny hg hk hx (fun w hr _ => by
    have := (hr _ hb).cell0 (o := o) hv
    simp [loadVar, run_isAgg_plain hu hp', load, Sem.run, this]) k

theorem Tr.kloadN {n : Nat} (r : List Value) (hg : guardOk ops sl g = true) (hk : okD c d C.N = true) (hx : evIn sl x = some (ptr b o)) (hu : C.P.underlying T = some td) (hp' : plainDesc td = false) (hs : Sz C.P T n) (hb : (⟨b, cs, BT, m⟩ : Blk) ∈ C.kb) (hr : (cs.drop o).take n = r) (hn : r.length = n)
    (k : Tr C ops rest ⟨(d, agg r) :: sl, hp⟩ Q) : Tr C ops ((c, ⟨some d, .load T x, ty, pos, af, g⟩) :: rest) ⟨sl, hp⟩ Q :=
  .kloadAny hg hk hx (fun w hh _ => by
    have := run_row (P := C.P) (w := w) (b := b) (o := o) hn fun j v hj => by
      refine (hh _ hb).cell0 (o := o + j) ?_
      rw [← hr, List.getElem?_take] at hj
      split at hj
      · rwa [List.getElem?_drop] at hj
      · cases hj
    simp [loadVar, run_isAgg_arr hu hp', run_sz hs, this]) k

theorem Tr.kloadAll {n : Nat} (hg : guardOk ops sl g = true) (hk : okD c d C.N = true) (hx : evIn sl x = some (ptr b 0)) (hu : C.P.underlying T = some td) (hp' : plainDesc td = false) (hs : Sz C.P T n) (hb : (⟨b, cs, BT, m⟩ : Blk) ∈ C.kb) (hn : cs.length = n)
    (k : Tr C ops rest ⟨(d, agg cs) :: sl, hp⟩ Q) : Tr C ops ((c, ⟨some d, .load T x, ty, pos, af, g⟩) :: rest) ⟨sl, hp⟩ Q :=
  .kloadN cs hg hk hx hu hp' hs hb (by simp [← hn]) hn k

theorem Tr.kloadE (hg : guardOk ops sl g = true) (hk : okD c d C.N = true) (hx : evIn sl x = some (ptr b o)) (hu : C.P.underlying T = some td) (hp' : plainDesc td = true) (hb : b ∉ C.lent) (hv : C.W0.cell? ⟨b, o, none⟩ = some v)
    (k : Tr C ops rest ⟨(d, v) :: sl, hp⟩ Q) : Tr C ops ((c, ⟨some d, .load T x, ty, pos, af, g⟩) :: rest) ⟨sl, hp⟩ Q :=
  .kloadAny hg hk hx (fun w _ hq => by
    have := hq.cell (p := ⟨b, o, none⟩) hb hv
    simp [loadVar, run_isAgg_plain hu hp', load, Sem.run, this]) k

theorem Tr.kloadEN {n : Nat} (r : List Value) (hg : guardOk ops sl g = true) (hk : okD c d C.N = true) (hx : evIn sl x = some (ptr b o)) (hu : C.P.underlying T = some td) (hp' : plainDesc td = false) (hs : Sz C.P T n) (hb : b ∉ C.lent) (hn : r.length = n)
    (hv : ∀ j v, r[j]? = some v → C.W0.cell? ⟨b, o + j, none⟩ = some v)
    (k : Tr C ops rest ⟨(d, agg r) :: sl, hp⟩ Q) : Tr C ops ((c, ⟨some d, .load T x, ty, pos, af, g⟩) :: rest) ⟨sl, hp⟩ Q :=
  .kloadAny hg hk hx (fun w _ hq => by
    have := run_row (P := C.P) (w := w) (b := b) (o := o) hn fun j v hj => hq.cell (p := ⟨b, o + j, none⟩) hb (hv j v hj)
    simp [loadVar, run_isAgg_arr hu hp', run_sz hs, this]) k

/-! ### memory: new blocks -/

theorem Tr.nw {op : Op} (hk : okN c d C.N = true) (hv : NewV C ⟨sl, hp⟩ ⟨some d, op, ty, pos, af, none⟩ cs T)
    (k : ∀ n, C.W0.heap.size ≤ n → (∀ b ∈ hp, b.n ≠ n) → Tr C ops rest ⟨(d, ptr n 0) :: sl, blk n cs T :: hp⟩ Q) : Tr C ops ((c, ⟨some d, op, ty, pos, af, none⟩) :: rest) ⟨sl, hp⟩ Q := by
  simp only [okN, Bool.and_eq_true, Bool.or_eq_true] at hk
  exact .new cs T (hk.1.imp nbeq' nbeq') rfl (dst_some (nblt hk.2)) hv k

theorem Tr.alloc {z : Value} (hk : okN c d C.N = true) (hz : Zr C.P T z) (hc : z.cells.toList = cs)
    (k : ∀ n, C.W0.heap.size ≤ n → (∀ b ∈ hp, b.n ≠ n) → Tr C ops rest ⟨(d, ptr n 0) :: sl, blk n cs T :: hp⟩ Q) : Tr C ops ((c, ⟨some d, .alloc T, ty, pos, af, none⟩) :: rest) ⟨sl, hp⟩ Q :=
  .nw hk ⟨fun x hx => by simp [Op.operands] at hx, fun ρ hf w => by
    subst hc
    simp [execOp, Instr.alloc, run_zr hz, newVar, newRow, newObj, Sem.run]⟩ k

theorem Tr.boxA {l : List Value} (hk : okN c d C.N = true) (hx : evIn sl x = some (agg l))
    (k : ∀ n, C.W0.heap.size ≤ n → (∀ b ∈ hp, b.n ≠ n) → Tr C ops rest ⟨(d, ptr n 0) :: sl, blk n l T :: hp⟩ Q) : Tr C ops ((c, ⟨some d, .box T x, ty, pos, af, none⟩) :: rest) ⟨sl, hp⟩ Q :=
  .nw hk ⟨known1 hx, fun ρ hf w => by
    have h1 := hf x (by simp [Op.operands]); rw [hx] at h1
    simp only [Option.some.injEq] at h1
    simp [execOp, Instr.box, newVar, newRow, newObj, Sem.run, ← h1, Value.cells]⟩ k

theorem Tr.box1 (hk : okN c d C.N = true) (hx : evIn sl x = some v) (hv : isCell v = true)
    (k : ∀ n, C.W0.heap.size ≤ n → (∀ b ∈ hp, b.n ≠ n) → Tr C ops rest ⟨(d, ptr n 0) :: sl, blk n [v] T :: hp⟩ Q) : Tr C ops ((c, ⟨some d, .box T x, ty, pos, af, none⟩) :: rest) ⟨sl, hp⟩ Q :=
  .nw hk ⟨known1 hx, fun ρ hf w => by
    have h1 := hf x (by simp [Op.operands]); rw [hx] at h1
    simp only [Option.some.injEq] at h1
    have : v.cells = #[v] := by cases v <;> simp [isCell] at hv <;> rfl
    simp [execOp, Instr.box, newVar, newRow, newObj, Sem.run, ← h1, this]⟩ k

theorem Tr.box (hk : okN c d C.N = true) (hx : evIn sl x = some v) (hc : v.cells.toList = cs)
    (k : ∀ n, C.W0.heap.size ≤ n → (∀ b ∈ hp, b.n ≠ n) → Tr C ops rest ⟨(d, ptr n 0) :: sl, blk n cs T :: hp⟩ Q) : Tr C ops ((c, ⟨some d, .box T x, ty, pos, af, none⟩) :: rest) ⟨sl, hp⟩ Q :=
  .nw hk ⟨known1 hx, fun ρ hf w => by
    have h1 := hf x (by simp [Op.operands]); rw [hx] at h1
    simp only [Option.some.injEq] at h1
    subst hc
    simp [execOp, Instr.box, newVar, newRow, newObj, Sem.run, ← h1]⟩ k

end


/-! ### memory: writing -/

inductive Upd : List Blk → Nat → List Value → TypeId → Nat → List Value → List Blk → Prop
  | head {b cs T m cs' l} : Upd (⟨b, cs, T, m⟩ :: l) b cs T m cs' (⟨b, cs', T, m⟩ :: l)
  | tail {x l b cs T m cs' l'} (h : Upd l b cs T m cs' l') : Upd (x :: l) b cs T m cs' (x :: l')

section
variable {l l' : List Blk} {x0 x1 x2 x3 x4 x5 x6 : Blk} {b : Nat} {cs cs' : List Value} {T : TypeId} {m : Nat}
theorem upd0 : Upd (⟨b, cs, T, m⟩ :: l) b cs T m cs' (⟨b, cs', T, m⟩ :: l) := .head
theorem upd1 : Upd (x0 :: ⟨b, cs, T, m⟩ :: l) b cs T m cs' (x0 :: ⟨b, cs', T, m⟩ :: l) := .tail upd0
theorem upd2 : Upd (x1 :: x0 :: ⟨b, cs, T, m⟩ :: l) b cs T m cs' (x1 :: x0 :: ⟨b, cs', T, m⟩ :: l) := .tail upd1
theorem upd3 : Upd (x2 :: x1 :: x0 :: ⟨b, cs, T, m⟩ :: l) b cs T m cs' (x2 :: x1 :: x0 :: ⟨b, cs', T, m⟩ :: l) := .tail upd2
theorem upd4 : Upd (x3 :: x2 :: x1 :: x0 :: ⟨b, cs, T, m⟩ :: l) b cs T m cs' (x3 :: x2 :: x1 :: x0 :: ⟨b, cs', T, m⟩ :: l) := .tail upd3
theorem upd5 : Upd (x4 :: x3 :: x2 :: x1 :: x0 :: ⟨b, cs, T, m⟩ :: l) b cs T m cs' (x4 :: x3 :: x2 :: x1 :: x0 :: ⟨b, cs', T, m⟩ :: l) := .tail upd4
theorem upd6 : Upd (x5 :: x4 :: x3 :: x2 :: x1 :: x0 :: ⟨b, cs, T, m⟩ :: l) b cs T m cs' (x5 :: x4 :: x3 :: x2 :: x1 :: x0 :: ⟨b, cs', T, m⟩ :: l) := .tail upd5
theorem upd7 : Upd (x6 :: x5 :: x4 :: x3 :: x2 :: x1 :: x0 :: ⟨b, cs, T, m⟩ :: l) b cs T m cs' (x6 :: x5 :: x4 :: x3 :: x2 :: x1 :: x0 :: ⟨b, cs', T, m⟩ :: l) := .tail upd6
end

theorem Upd.mem {l l' : List Blk} {b : Nat} {cs cs' : List Value} {T : TypeId} {m : Nat} (h : Upd l b cs T m cs' l') : (⟨b, cs, T, m⟩ : Blk) ∈ l := by
  induction h with
  | head => exact List.mem_cons_self
  | tail h ih => exact List.mem_cons_of_mem _ ih

theorem Upd.names {l l' : List Blk} {b : Nat} {cs cs' : List Value} {T : TypeId} {m : Nat} (h : Upd l b cs T m cs' l') : l'.map (·.n) = l.map (·.n) := by
  induction h with
  | head => rfl
  | tail h ih => simp [ih]

theorem Upd.of_mem {l l' : List Blk} {b : Nat} {cs cs' : List Value} {T : TypeId} {m : Nat} (h : Upd l b cs T m cs' l') (hn : (l.map (·.n)).Nodup) :
    ∀ x ∈ l', x = ⟨b, cs', T, m⟩ ∨ (x ∈ l ∧ x.n ≠ b) := by
  induction h with
  | @head b cs T m cs' l =>
    intro x hx
    rcases List.mem_cons.1 hx with rfl | hx
    · exact .inl rfl
    · refine .inr ⟨List.mem_cons_of_mem _ hx, fun e => ?_⟩
      have := (List.nodup_cons.1 hn).1
      exact this (by simpa [← e] using List.mem_map.2 ⟨x, hx, rfl⟩)
  | @tail y l b cs T m cs' l' h ih =>
    intro x hx
    rcases List.mem_cons.1 hx with rfl | hx
    · refine .inr ⟨List.mem_cons_self, fun e => ?_⟩
      have := (List.nodup_cons.1 hn).1
      exact this (by simpa [e] using List.mem_map.2 ⟨_, h.mem, rfl⟩)
    · rcases ih (List.nodup_cons.1 hn).2 x hx with h1 | ⟨h1, h2⟩
      · exact .inl h1
      · exact .inr ⟨List.mem_cons_of_mem _ h1, h2⟩

/-- the world with block b replaced -/
def setBlk (w : World) (b : Nat) (full : Array Value) (T : TypeId) (fr : Nat × Nat) : World := { w with heap := w.heap.setIfInBounds b (.cells full T fr) }

theorem setBlk_ne {w : World} {b k : Nat} {full : Array Value} {T : TypeId} {fr : Nat × Nat} (h : k ≠ b) : (setBlk w b full T fr).heap[k]? = w.heap[k]? := by
  simp [setBlk, Array.getElem?_setIfInBounds_ne (Ne.symm h)]
theorem setBlk_eq {w : World} {b : Nat} {full : Array Value} {T : TypeId} {fr : Nat × Nat} (h : b < w.heap.size) : (setBlk w b full T fr).heap[b]? = some (.cells full T fr) := by
  simp [setBlk, h]

theorem HRep.upd {hp hp' : List Blk} {w : World} {b : Nat} {cs cs' : List Value} {T : TypeId} {m : Nat} {full' : Array Value} {fr : Nat × Nat} (h : HRep C hp w) (hu : Upd hp b cs T m cs' hp')
    (hb : b < w.heap.size) (h1 : full'.size = m) (h2 : cs' <+: full'.toList) (h3 : Free fr m) : HRep C hp' (setBlk w b full' T fr) := by
  have hlt : b < w.heap.size := hb
  refine ⟨fun x hx => ?_, by rw [hu.names]; exact h.nodup, fun x hx => ?_, ?_, fun k hk => (h.kok k hk).of_heap (setBlk_ne fun e => h.kd _ hu.mem k hk e.symm), fun x hx k hk => ?_⟩
  · rcases hu.of_mem h.nodup x hx with rfl | ⟨hx, hne⟩
    · exact ⟨full', fr, setBlk_eq hlt, h1, h2, h3⟩
    · exact (h.cells x hx).of_heap (setBlk_ne hne)
  · rcases hu.of_mem h.nodup x hx with rfl | ⟨hx, hne⟩
    · exact (h.own _ hu.mem : C.W0.heap.size ≤ b ∨ b ∈ C.lent)
    · exact h.own x hx
  · refine ⟨h.keeps.os, h.keeps.tape, h.keeps.output, by simp [setBlk]; exact h.keeps.size, fun k hk hn => ?_⟩
    have hne : k ≠ b := by
      rintro rfl
      rcases h.own _ hu.mem with h1 | h1
      · exact absurd hk (by simpa using h1)
      · exact hn h1
    rw [setBlk_ne hne]
    exact h.keeps.block k hk hn
  · rcases hu.of_mem h.nodup x hx with rfl | ⟨hx, hne⟩
    · exact h.kd _ hu.mem k hk
    · exact h.kd x hx k hk

def putAll (full : Array Value) : Nat → List Value → Array Value
  | _, [] => full
  | k, v :: vs => putAll (full.setIfInBounds k v) (k + 1) vs

theorem putAll_size : ∀ (vs : List Value) (full : Array Value) (k : Nat), (putAll full k vs).size = full.size
  | [], _, _ => rfl
  | v :: vs, full, k => by rw [putAll, putAll_size vs]; simp

/-- cells written from a place on -/
def upd (cs : List Value) (o : Nat) (vs : List Value) : List Value := cs.take o ++ vs ++ cs.drop (o + vs.length)

theorem putAll_get : ∀ (vs : List Value) (full : Array Value) (k j : Nat), k + vs.length ≤ full.size →
    (putAll full k vs)[j]? = if k ≤ j ∧ j < k + vs.length then vs[j - k]? else full[j]?
  | [], full, k, j, h => by simp [putAll]; omega
  | v :: vs, full, k, j, h => by
    simp only [List.length_cons] at h
    rw [putAll, putAll_get vs _ _ _ (by simp; omega)]
    by_cases hj : j = k
    · subst hj
      have : j < full.size := by omega
      rw [if_neg (by omega), if_pos (by simp)]
      simp [this]
    · by_cases h1 : k + 1 ≤ j ∧ j < k + 1 + vs.length
      · have e : j - k = (j - (k + 1)) + 1 := by omega
        rw [if_pos h1, if_pos (by simp; omega), e, List.getElem?_cons_succ]
      · rw [if_neg h1, if_neg (by simp; omega), Array.getElem?_setIfInBounds_ne (by omega)]

theorem upd_get (cs : List Value) (o : Nat) (vs : List Value) (j : Nat) (h : o + vs.length ≤ cs.length) :
    (upd cs o vs)[j]? = if o ≤ j ∧ j < o + vs.length then vs[j - o]? else cs[j]? := by
  unfold upd
  rw [List.append_assoc, List.getElem?_append]
  have hl : (cs.take o).length = o := by simp; omega
  rw [hl]
  by_cases h1 : j < o
  · rw [if_pos h1, if_neg (by omega), List.getElem?_take, if_pos h1]
  · rw [if_neg h1, List.getElem?_append]
    by_cases h2 : j - o < vs.length
    · rw [if_pos h2, if_pos (by omega)]
    · rw [if_neg h2, if_neg (by omega), List.getElem?_drop]
      congr 1
      omega

theorem prefix_iff {l1 l2 : List Value} : l1 <+: l2 ↔ ∀ (j : Nat) (v : Value), l1[j]? = some v → l2[j]? = some v := by
  constructor
  · rintro ⟨t, rfl⟩ j v h
    rw [List.getElem?_append_left (by
      rcases Nat.lt_or_ge j l1.length with h1 | h1
      · exact h1
      · rw [List.getElem?_eq_none h1] at h; cases h)]
    exact h
  · intro h
    induction l1 generalizing l2 with
    | nil => exact List.nil_prefix
    | cons x l1 ih =>
      cases l2 with
      | nil => have := h 0 x (by simp); simp at this
      | cons y l2 =>
        have h0 := h 0 x (by simp)
        simp at h0
        subst h0
        exact List.cons_prefix_cons.2 ⟨rfl, ih fun j v hj => by simpa using h (j + 1) v (by simpa using hj)⟩

theorem upd_pre {cs : List Value} {full : Array Value} {o : Nat} {vs : List Value} (hp : cs <+: full.toList) (h : o + vs.length ≤ cs.length) : upd cs o vs <+: (putAll full o vs).toList := by
  have hl := hp.length_le
  simp only [Array.length_toList] at hl
  refine prefix_iff.2 fun j v hj => ?_
  rw [upd_get _ _ _ _ h] at hj
  rw [Array.getElem?_toList, putAll_get _ _ _ _ (by omega)]
  split
  · rename_i h1; rwa [if_pos h1] at hj
  · rename_i h1
    rw [if_neg h1] at hj
    simpa using prefix_iff.1 hp j v hj

theorem upd_one (cs : List Value) (o : Nat) (v : Value) (h : o < cs.length) : upd cs o [v] = cs.set o v := by
  apply List.ext_getElem?
  intro j
  rw [upd_get _ _ _ _ (by simp; omega), List.getElem?_set]
  by_cases hj : o = j
  · subst hj; simp [h]
  · rw [if_neg hj, if_neg (by simp; omega)]

theorem upd_all (cs vs : List Value) (h : vs.length = cs.length) : upd cs 0 vs = vs := by
  simp [upd, h]


theorem run_store {P : Program} {w : World} {a : Addr} {v : Value} (hc : (w.cell? a).isSome) (hf : w.frozen? a = false) (hv : isCell v = true) : (store a v).run P w = .ok () (w.setCell a v) := by
  cases hw : w.cell? a with
  | none => simp [hw] at hc
  | some u =>
    unfold store
    cases v <;> simp [isCell] at hv <;> simp [Sem.run, hw, hf]

theorem setCell_setBlk {w : World} {b o : Nat} {v : Value} {full : Array Value} {T : TypeId} {fr : Nat × Nat} (h : w.heap[b]? = some (.cells full T fr)) :
    w.setCell ⟨b, o, none⟩ v = setBlk w b (full.setIfInBounds o v) T fr := by
  have hlt : b < w.heap.size := by
    rcases Nat.lt_or_ge b w.heap.size with h1 | h1
    · exact h1
    · rw [Array.getElem?_eq_none h1] at h; cases h
  unfold World.setCell setBlk
  congr 1
  apply Array.ext_getElem?
  intro k
  rw [Array.getElem?_modify, Array.getElem?_setIfInBounds]
  by_cases hk : b = k
  · subst hk
    rw [if_pos rfl, h]
    simp [hlt]
  · rw [if_neg hk, if_neg hk]

theorem setBlk_setBlk {w : World} {b : Nat} {f1 f2 : Array Value} {T : TypeId} {fr : Nat × Nat} : setBlk (setBlk w b f1 T fr) b f2 T fr = setBlk w b f2 T fr := by
  unfold setBlk
  congr 1
  apply Array.ext_getElem?
  intro k
  simp only [Array.getElem?_setIfInBounds]
  split
  · simp
  · rfl

theorem run_storeCells {P : Program} {b o : Nat} {T : TypeId} {fr : Nat × Nat} : ∀ (vs : List Value) (i : Nat) (w : World) (full : Array Value), w.heap[b]? = some (.cells full T fr) → o + i + vs.length ≤ full.size →
    Free fr full.size → (∀ v ∈ vs, isCell v = true) → (storeCells ⟨b, o, none⟩ vs i).run P w = .ok () (setBlk w b (putAll full (o + i) vs) T fr)
  | [], i, w, full, h, hl, hf, hv => by
    have : setBlk w b full T fr = w := by
      unfold setBlk
      have hlt : b < w.heap.size := by
        rcases Nat.lt_or_ge b w.heap.size with h1 | h1
        · exact h1
        · rw [Array.getElem?_eq_none h1] at h; cases h
      have : w.heap.setIfInBounds b (.cells full T fr) = w.heap := by
        apply Array.ext_getElem?
        intro k
        rw [Array.getElem?_setIfInBounds]
        by_cases hk : b = k
        · subst hk; simp [hlt, ← h]
        · rw [if_neg hk]
      rw [this]
    simp [storeCells, putAll, this]
  | v :: vs, i, w, full, h, hl, hf, hv => by
    simp only [List.length_cons] at hl
    have hlt : b < w.heap.size := by
      rcases Nat.lt_or_ge b w.heap.size with h1 | h1
      · exact h1
      · rw [Array.getElem?_eq_none h1] at h; cases h
    have hc : (w.cell? ⟨b, o + i, none⟩).isSome := by simp [World.cell?, h]; omega
    have hfr : w.frozen? ⟨b, o + i, none⟩ = false := by simp only [World.frozen?, h]; exact hf.at' _ (by omega)
    have hs := run_store (P := P) hc hfr (hv v List.mem_cons_self)
    rw [setCell_setBlk h] at hs
    have ih := run_storeCells (P := P) (b := b) (o := o) vs (i + 1) (setBlk w b (full.setIfInBounds (o + i) v) T fr) (full.setIfInBounds (o + i) v) (setBlk_eq hlt) (by simp; omega) (by simpa using hf) (fun u hu => hv u (List.mem_cons_of_mem _ hu))
    rw [setBlk_setBlk] at ih
    simp only [storeCells, add_addr, Sem.run_bind, hs, Result.andThen]
    rw [ih]
    rfl

section
variable {T : TypeId} {x y : Operand} {b o : Nat} {v : Value} {cs : List Value} {BT : TypeId} {m n : Nat} {hp' : List Blk}

/-- a store of whatever cells into an own block -/
theorem Tr.storeN (vs : List Value) {cs' : List Value} (hg : guardOk ops sl g = true) (hc : Nat.beq c 4 = true) (hx : evIn sl x = some (ptr b o)) (hy : evIn sl y = some v) (hvs : v.cells.toList = vs) (hcell : ∀ u ∈ vs, isCell u = true) (hs : Sz C.P T n) (hn : vs.length = n)
    (_hb : (⟨b, cs, BT, m⟩ : Blk) ∈ hp) (hl : o + vs.length ≤ cs.length) (hcs : upd cs o vs = cs') (hu : Upd hp b cs BT m cs' hp')
    (k : Tr C ops rest ⟨sl, hp'⟩ Q) : Tr C ops ((c, ⟨none, .store T x y, ty, pos, af, g⟩) :: rest) ⟨sl, hp⟩ Q := by
  refine Tr.act (ρ := Unit) (fun _ => True) (fun _ => undef) (fun _ => hp') (nbeq' hc) (wantS_of_guardOk hg) dst_none ⟨known2 hx hy, fun a w hf hh => ?_⟩ (fun _ _ => k)
  have h1 := hf x (by simp [Op.operands]); rw [hx] at h1
  have h2 := hf y (by simp [Op.operands]); rw [hy] at h2
  simp only [Option.some.injEq] at h1 h2
  obtain ⟨full, fr, hb⟩ := hh.cells _ hu.mem
  have hpl := hb.pre.length_le
  simp only [Array.length_toList] at hpl
  have hlt := (hh.cells _ hu.mem).lt
  have hst := run_storeCells (P := C.P) (b := b) (o := o) vs 0 w full hb.heap (by omega) (by rw [hb.size]; exact hb.free) hcell
  have hsz : v.cells.size = n := by rw [← hn, ← hvs]; simp
  have hrun : (execOp a.eval ⟨none, .store T x y, ty, pos, af, g⟩).run C.P w = .ok .skip (setBlk w b (putAll full o vs) BT fr) := by
    simp [execOp, Instr.storeAt, ← h1, ← h2, Instr.sureAddr, storeVar, run_sz hs, hsz, hvs, hst]
  unfold Oper.wp
  rw [hrun]
  refine ⟨(), trivial, rfl, hh.upd hu hlt (by rw [putAll_size]; exact hb.size) ?_ hb.free⟩
  rw [← hcs]
  exact upd_pre hb.pre hl

/-- a store of one cell -/
theorem Tr.store1 {cs' : List Value} (hg : guardOk ops sl g = true) (hc : Nat.beq c 4 = true) (hx : evIn sl x = some (ptr b o)) (hy : evIn sl y = some v) (hcell : isCell v = true) (hs : Sz C.P T 1)
    (_hb : (⟨b, cs, BT, m⟩ : Blk) ∈ hp) (hl : o < cs.length) (hcs : cs.set o v = cs') (hu : Upd hp b cs BT m cs' hp')
    (k : Tr C ops rest ⟨sl, hp'⟩ Q) : Tr C ops ((c, ⟨none, .store T x y, ty, pos, af, g⟩) :: rest) ⟨sl, hp⟩ Q :=
  .storeN [v] hg hc hx hy (by cases v <;> simp [isCell] at hcell <;> rfl) (by simpa using hcell) hs rfl _hb (by simp; omega) ((upd_one cs o v hl).trans hcs) hu k

/-- a store over a whole block -/
theorem Tr.storeAll {vs : List Value} (hg : guardOk ops sl g = true) (hc : Nat.beq c 4 = true) (hx : evIn sl x = some (ptr b 0)) (hy : evIn sl y = some (agg vs)) (hcell : ∀ u ∈ vs, isCell u = true) (hs : Sz C.P T n) (hn : vs.length = n)
    (_hb : (⟨b, cs, BT, m⟩ : Blk) ∈ hp) (hl : cs.length = n) (hu : Upd hp b cs BT m vs hp')
    (k : Tr C ops rest ⟨sl, hp'⟩ Q) : Tr C ops ((c, ⟨none, .store T x y, ty, pos, af, g⟩) :: rest) ⟨sl, hp⟩ Q :=
  .storeN vs hg hc hx hy rfl hcell hs hn _hb (by omega) (upd_all _ _ (by omega)) hu k
end

/-- the builtin copy, from an own block into an own block, elements of one cell, as many as both hold -/
theorem Tr.copy1 {x y : Operand} {b o b2 o2 n cap1 cap2 : Nat} {cs cs2 vs cs' : List Value} {BT BT2 T T2 E : TypeId} {m m2 : Nat} {hp' : List Blk} (hg : guardOk ops sl g = true) (hc : Nat.beq c 4 = true) (hd : Nat.blt d C.N = true)
    (hx : evIn sl x = some (.slice (some ⟨b, o, none⟩) n cap1)) (hy : evIn sl y = some (.slice (some ⟨b2, o2, none⟩) n cap2)) (hu : C.P.underlying T = some (.slice E)) (hs : Sz C.P E 1)
    (hb2 : (⟨b2, cs2, BT2, m2⟩ : Blk) ∈ hp) (hvs : (cs2.drop o2).take n = vs) (hn : vs.length = n) (hcell : ∀ u ∈ vs, isCell u = true) (hb : (⟨b, cs, BT, m⟩ : Blk) ∈ hp) (hl : o + vs.length ≤ cs.length) (hcs : upd cs o vs = cs') (hup : Upd hp b cs BT m cs' hp')
    (k : Tr C ops rest ⟨(d, i64 (n : Int)) :: sl, hp'⟩ Q) : Tr C ops ((c, ⟨some d, .call { callee := .builtin .copy, args := #[x, y], argTypes := #[T, T2] }, ty, pos, af, g⟩) :: rest) ⟨sl, hp⟩ Q := by
  refine Tr.act (ρ := Unit) (fun _ => True) (fun _ => i64 (n : Int)) (fun _ => hp') (nbeq' hc) (wantS_of_guardOk hg) (dst_some (nblt hd)) ⟨by simpa [Known, Op.operands, Call.operands] using known2 hx hy, fun a w hf hh => ?_⟩ (fun _ _ => k)
  have h1 := hf x (by simp [Op.operands, Call.operands]); rw [hx] at h1
  have h2 := hf y (by simp [Op.operands, Call.operands]); rw [hy] at h2
  simp only [Option.some.injEq] at h1 h2
  obtain ⟨full, fr, hbk⟩ := hh.cells _ hup.mem
  have hpl := hbk.pre.length_le
  simp only [Array.length_toList] at hpl
  have hlt := (hh.cells _ hup.mem).lt
  have hrow := run_row (P := C.P) (w := w) (b := b2) (o := o2) hn fun j v hj => by
    refine (hh.cells _ hb2).cell (b := ⟨b2, cs2, BT2, m2⟩) (o := o2 + j) ?_
    rw [← hvs, List.getElem?_take] at hj
    split at hj
    · rwa [List.getElem?_drop] at hj
    · cases hj
  have hst := run_storeCells (P := C.P) (b := b) (o := o) vs 0 w full hbk.heap (by omega) (by rw [hbk.size]; exact hbk.free) hcell
  have hrun : (execOp a.eval ⟨some d, .call { callee := .builtin .copy, args := #[x, y], argTypes := #[T, T2] }, ty, pos, af, g⟩).run C.P w = .ok (.value (i64 (n : Int))) (setBlk w b (putAll full o vs) BT fr) := by
    simp [execOp, resolve, invoke, builtin, Builtin.copy_, ← h1, ← h2, run_underlying hu, Builtin.lenOf, Builtin.firstCells, run_sz hs, hrow, hst, goInt]
  unfold Oper.wp
  rw [hrun]
  refine ⟨(), trivial, rfl, hh.upd hup hlt (by rw [putAll_size]; exact hbk.size) ?_ hbk.free⟩
  rw [← hcs]
  exact upd_pre hbk.pre hl

/-! ### calls -/

/-- what a function does: called with these arguments in a world that Pre holds of, it returns -/
def Meets (P : Program) (f : FuncId) (args : List Value) (lent : List Nat) (Pre : World → Prop) (R : Value → List Blk → Prop) : Prop :=
  ∀ W, Pre W → Calls P f args.toArray W fun e W' => ∃ v out, e = .returned v ∧ R v out ∧ Ret lent out W W'

/-- the call of a function that has a body -/
def Body (P : Program) (f : FuncId) : Prop := ∀ args w, (callFunc f args).run P w = .ok (.enter f args) w

def evs (sl : List (Nat × Value)) : List Operand → Option (List Value)
  | [] => some []
  | x :: l => match evIn sl x, evs sl l with
    | some v, some vs => some (v :: vs)
    | _, _ => none

theorem evs_known {sl : List (Nat × Value)} : ∀ {l : List Operand} {vs : List Value}, evs sl l = some vs → ∀ x ∈ l, (evIn sl x).isSome
  | [], _, _, x, hx => by cases hx
  | y :: l, vs, h, x, hx => by
    simp only [evs] at h
    split at h
    · rename_i v vs' hv hvs
      rcases List.mem_cons.1 hx with rfl | hx
      · simp [hv]
      · exact evs_known hvs x hx
    · cases h

theorem evs_map {sl : List (Nat × Value)} {ρ : Operand → Value} : ∀ {l : List Operand} {vs : List Value}, evs sl l = some vs → (∀ x ∈ l, evIn sl x = some (ρ x)) → l.map ρ = vs
  | [], vs, h, _ => by simp [evs] at h; simp [← h]
  | y :: l, vs, h, hf => by
    simp only [evs] at h
    split at h
    · rename_i v vs' hv hvs
      cases h
      have h0 := hf y List.mem_cons_self
      rw [hv] at h0
      cases h0
      rw [List.map_cons, evs_map hvs fun x hx => hf x (List.mem_cons_of_mem _ hx)]
    · cases h

section
variable {f : Operand} {fid : FuncId} {as : List Operand} {ats : Array TypeId} {vs : List Value}

theorem known_call (hfn : evIn sl f = some (.func (.func fid) #[] #[])) (hargs : evs sl as = some vs) : Known sl ⟨some d, .call ⟨.value f, as.toArray, ats⟩, ty, pos, af, g⟩ := by
  intro x hx
  simp [Op.operands, Call.operands] at hx
  rcases hx with rfl | hx
  · simp [hfn]
  · exact evs_known hargs x hx

theorem run_call {ρ : Operand → Value} {w : World} (hfn : evIn sl f = some (.func (.func fid) #[] #[])) (hargs : evs sl as = some vs)
    (hf : Fits sl ⟨some d, .call ⟨.value f, as.toArray, ats⟩, ty, pos, af, g⟩ ρ) :
    (execOp ρ ⟨some d, .call ⟨.value f, as.toArray, ats⟩, ty, pos, af, g⟩).run C.P w = (callFunc fid vs.toArray).run C.P w := by
  have h1 := hf f (by simp [Op.operands, Call.operands]); rw [hfn] at h1
  simp only [Option.some.injEq] at h1
  have h2 := evs_map hargs fun x hx => hf x (by simp [Op.operands, Call.operands, hx])
  simp [execOp, resolve, Deferred.ofValue, ← h1, h2, invoke]

/-- a contract that can be met with names apart from any given ones -/
def Loose (R : Value → List Blk → Prop) : Prop := ∀ l : List Blk, (l.map (·.n)).Nodup → ∃ v out, R v out ∧ ((out ++ l).map (·.n)).Nodup

/-- a call by its contract -/
theorem Tr.call {Pre : World → Prop} {R : Value → List Blk → Prop} (hg : guardOk ops sl g = true) (hk : okG c d C.N = true) (hfn : evIn sl f = some (.func (.func fid) #[] #[])) (hargs : evs sl as = some vs) (hb : Body C.P fid)
    (hc : Meets C.P fid vs [] Pre R) (hl : Loose R) (hpre : ∀ w, HRep C hp w → Pre w)
    (k : ∀ v out, R v out → Tr C ops rest ⟨(d, v) :: sl, out ++ hp⟩ Q) : Tr C ops ((c, ⟨some d, .call ⟨.value f, as.toArray, ats⟩, ty, pos, af, g⟩) :: rest) ⟨sl, hp⟩ Q := by
  simp only [okG, Bool.and_eq_true, Bool.or_eq_true] at hk
  refine Tr.grow (ρ := Value × List Blk) (fun r => R r.1 r.2) (·.1) (·.2) (hk.1.imp nbeq' nbeq') (wantS_of_guardOk hg) (dst_some (nblt hk.2)) ⟨known_call hfn hargs, fun l hn => ?_, fun a w hf hh => ?_⟩ (fun r hr => k r.1 r.2 hr)
  · obtain ⟨v, out, h1, h2⟩ := hl l hn
    exact ⟨(v, out), h1, h2⟩
  unfold Oper.wp
  rw [run_call hfn hargs hf, hb]
  refine (hc w (hpre w hh)).mono fun e w' ⟨v, out, he, hR, hret⟩ => ?_
  subst he
  exact ⟨(v, out), hR, rfl, hret⟩

/-- a call that returns a value and leaves nothing -/
theorem Tr.callV {Pre : World → Prop} {r : Value} (hg : guardOk ops sl g = true) (hk : okG c d C.N = true) (hfn : evIn sl f = some (.func (.func fid) #[] #[])) (hargs : evs sl as = some vs) (hb : Body C.P fid)
    (hc : Meets C.P fid vs [] Pre fun v out => v = r ∧ out = []) (hpre : ∀ w, HRep C hp w → Pre w)
    (k : Tr C ops rest ⟨(d, r) :: sl, hp⟩ Q) : Tr C ops ((c, ⟨some d, .call ⟨.value f, as.toArray, ats⟩, ty, pos, af, g⟩) :: rest) ⟨sl, hp⟩ Q :=
  .call hg hk hfn hargs hb hc (fun l hn => ⟨r, [], ⟨rfl, rfl⟩, hn⟩) hpre fun v out h => by obtain ⟨rfl, rfl⟩ := h; exact k

/-- a function without a body that computes -/
theorem Tr.ext {r : Value} (hg : guardOk ops sl g = true) (hk : okD c d C.N = true) (hfn : evIn sl f = some (.func (.func fid) #[] #[])) (hargs : evs sl as = some vs) (hr : ∀ w, (callFunc fid vs.toArray).run C.P w = .ok (.value r) w)
    (k : Tr C ops rest ⟨(d, r) :: sl, hp⟩ Q) : Tr C ops ((c, ⟨some d, .call ⟨.value f, as.toArray, ats⟩, ty, pos, af, g⟩) :: rest) ⟨sl, hp⟩ Q :=
  .pv hg hk ⟨known_call hfn hargs, fun ρ hf w => by rw [run_call (C := C) hfn hargs hf, hr]⟩ k

/-- a function without a body that reads memory -/
theorem Tr.extL {r : Value} (hg : guardOk ops sl g = true) (hk : okL c d C.N = true) (hfn : evIn sl f = some (.func (.func fid) #[] #[])) (hargs : evs sl as = some vs) (hr : ∀ w, HRep C hp w → (callFunc fid vs.toArray).run C.P w = .ok (.value r) w)
    (k : Tr C ops rest ⟨(d, r) :: sl, hp⟩ Q) : Tr C ops ((c, ⟨some d, .call ⟨.value f, as.toArray, ats⟩, ty, pos, af, g⟩) :: rest) ⟨sl, hp⟩ Q :=
  .ld hg hk ⟨known_call hfn hargs, fun ρ hf w hh => by rw [run_call (C := C) hfn hargs hf, hr w hh]⟩ k
end

/-- cells from a place on -/
def Sees (w : World) (b o : Nat) (cs : List Value) : Prop := ∀ (j : Nat) (v : Value), cs[j]? = some v → w.cell? ⟨b, o + j, none⟩ = some v

theorem sees_own {w : World} {b : Nat} {cs : List Value} {T : TypeId} {m : Nat} (h : HRep C hp w) (hb : (⟨b, cs, T, m⟩ : Blk) ∈ hp) : Sees w b 0 cs := fun j v hv => by
  rw [Nat.zero_add]; exact (h.cells _ hb).cell (b := ⟨b, cs, T, m⟩) hv

theorem sees_part {w : World} {b o : Nat} {cs cs' : List Value} {T : TypeId} {m : Nat} (h : HRep C hp w) (hb : (⟨b, cs, T, m⟩ : Blk) ∈ hp) (hs : ∀ (j : Nat) (v : Value), cs'[j]? = some v → cs[o + j]? = some v) : Sees w b o cs' := fun j v hv =>
  (h.cells _ hb).cell (b := ⟨b, cs, T, m⟩) (hs j v hv)

theorem sees_ext {w : World} {b o : Nat} {cs : List Value} (h : HRep C hp w) (hb : b ∉ C.lent) (hs : Sees C.W0 b o cs) : Sees w b o cs := fun j v hv => h.keeps.cell hb (hs j v hv)

/-! ### the end of a function -/

theorem res_tmp {fn : Func} {t : Tmp} {s : St} {v : Value} (hr : fn.results = #[.tmp t]) (hv : look s.sl t = some v) : Res C fn s v := by
  intro a w r
  have := r.rs.slots t v hv
  simp [results, hr, this]

theorem res_tmp2 {fn : Func} {t t2 : Tmp} {s : St} {v v2 : Value} (hr : fn.results = #[.tmp t, .tmp t2]) (hv : look s.sl t = some v) (hv2 : look s.sl t2 = some v2) : Res C fn s (.tuple #[v, v2]) := by
  intro a w r
  have h1 := r.rs.slots t v hv
  have h2 := r.rs.slots t2 v2 hv2
  simp [results, hr, h1, h2]

theorem run_cellAll {T : TypeId} {td : TypeDesc} {n b : Nat} {cs : List Value} {BT : TypeId} {m : Nat} {w : World} (hh : HRep C hp w) (hu : C.P.underlying T = some td) (hp' : plainDesc td = false) (hs : Sz C.P T n) (hb : (⟨b, cs, BT, m⟩ : Blk) ∈ hp) (hn : cs.length = n) :
    (loadVar T ⟨b, 0, none⟩).run C.P w = .ok (agg cs) w := by
  have := run_row (P := C.P) (w := w) (b := b) (o := 0) hn fun j v hj => by
    rw [Nat.zero_add]; exact (hh.cells _ hb).cell (b := ⟨b, cs, BT, m⟩) (o := j) hj
  simp [loadVar, run_isAgg_arr hu hp', run_sz hs, this]

theorem res_cell {fn : Func} {t : Tmp} {T : TypeId} {td : TypeDesc} {n b : Nat} {cs : List Value} {BT : TypeId} {m : Nat} {s : St} (hr : fn.results = #[.cell t T]) (hv : look s.sl t = some (ptr b 0)) (hu : C.P.underlying T = some td) (hp' : plainDesc td = false) (hs : Sz C.P T n) (hb : (⟨b, cs, BT, m⟩ : Blk) ∈ s.hp) (hn : cs.length = n) :
    Res C fn s (agg cs) := by
  intro a w r
  have h1 := r.rs.slots t _ hv
  simp [results, hr, h1, asAddr, run_cellAll r.rh hu hp' hs hb hn]

theorem res_cell_tmp {fn : Func} {t t2 : Tmp} {T : TypeId} {td : TypeDesc} {n b : Nat} {cs : List Value} {BT : TypeId} {m : Nat} {s : St} {v2 : Value} (hr : fn.results = #[.cell t T, .tmp t2]) (hv : look s.sl t = some (ptr b 0)) (hv2 : look s.sl t2 = some v2) (hu : C.P.underlying T = some td) (hp' : plainDesc td = false) (hs : Sz C.P T n) (hb : (⟨b, cs, BT, m⟩ : Blk) ∈ s.hp) (hn : cs.length = n) :
    Res C fn s (.tuple #[agg cs, v2]) := by
  intro a w r
  have h1 := r.rs.slots t _ hv
  have h2 := r.rs.slots t2 _ hv2
  simp [results, hr, h1, h2, asAddr, run_cellAll r.rh hu hp' hs hb hn]


/-! ### aggregates -/

theorem run_equalIn_ints {P : Program} (w : World) (d : Nat) {t e : TypeId} {n : Nat} {kk k : IntKind} (ht : P.underlying t = some (.array n e)) (he : P.underlying e = some (.int kk)) (hs : Sz P e 1) (xs ys : List Int) (hx : xs.length = n) (hy : ys.length = n) :
    (Op.equalIn (d + 2) t (agg (xs.map (Value.int k))) (agg (ys.map (Value.int k)))).run P w = .ok (decide (xs = ys)) w := by
  have key : ∀ (l : List Nat), (∀ i ∈ l, i < n) → (decide (∀ i ∈ l, xs.getD i 0 = ys.getD i 0)) = l.all fun i => xs.getD i 0 == ys.getD i 0 := by
    intro l _
    rw [Bool.eq_iff_iff]; simp
  have hall : decide (xs = ys) = (List.range' 0 n 1).all fun i => xs.getD i 0 == ys.getD i 0 := by
    rw [← key _ (fun i hi => by simpa using (List.mem_range'_1.1 hi).2)]
    rw [Bool.eq_iff_iff, decide_eq_true_eq, decide_eq_true_eq]
    constructor
    · rintro rfl i _; rfl
    · intro h
      apply List.ext_getElem (hx.trans hy.symm)
      intro i h1 h2
      have := h i (by rw [List.mem_range'_1]; omega)
      simpa [List.getD, h1, h2] using this
  rw [hall, Op.equalIn]
  simp only [Sem.run_bind, run_underlying ht, Result.andThen_ok, run_sz hs, Std.Legacy.Range.forIn_eq_forIn_range', Std.Legacy.Range.size, Nat.sub_zero, Nat.add_sub_cancel, Nat.div_one]
  have hl : ∀ i ∈ List.range' 0 n 1, i < n := fun i hi => by simpa using (List.mem_range'_1.1 hi).2
  generalize List.range' 0 n 1 = l at hl ⊢
  induction l with
  | nil => simp
  | cons i l ih =>
    have hi : i < n := hl i (by simp)
    have pt : ∀ (zs : List Int), zs.length = n → (part e (zs.map (Value.int k)).toArray (i * 1)).run P w = .ok (.int k (zs.getD i 0)) w := fun zs hz => by
      simp [part, isAgg, run_underlying he, List.getD, List.getElem?_eq_getElem (show i < zs.length by omega)]
    have pe : (Op.equalIn (d + 1) e (.int k (xs.getD i 0)) (.int k (ys.getD i 0))).run P w = .ok (xs.getD i 0 == ys.getD i 0) w := run_equalIn_int w d e k kk _ _ he
    simp only [List.forIn_cons, Sem.run_bind, pt xs hx, pt ys hy, pe, Result.andThen_ok, List.all_cons]
    cases hb : (xs.getD i 0 == ys.getD i 0)
    · simp
    · simp only [Bool.not_true, Bool.false_eq_true, if_false, Sem.run_pure, Result.andThen_ok, Bool.true_and]
      exact ih fun j hj => hl j (by simp [hj])

section
variable {xT yT : TypeId} {x y : Operand} {n : Nat} {E : TypeId} {k : IntKind} {kk : IntKind}

theorem Tr.binAny {op : BinOp} {xT yT : TypeId} {x y : Operand} {v a b : Value} (hg : guardOk ops sl g = true) (hk : okD c d C.N = true) (hx : evIn sl x = some a) (hy : evIn sl y = some b)
    (he : ∀ w, (eqGuard op xT x y a b).run C.P w = .ok () w) (hr : ∀ w, (binOp op xT a b).run C.P w = .ok v w) (k : Tr C ops rest ⟨(d, v) :: sl, hp⟩ Q) :
    Tr C ops ((c, ⟨some d, .binOp op xT x y yT, ty, pos, af, g⟩) :: rest) ⟨sl, hp⟩ Q :=
  .pv hg hk ⟨known2 hx hy, fun ρ hf w => by
    have h1 := hf x (by simp [Op.operands]); rw [hx] at h1
    have h2 := hf y (by simp [Op.operands]); rw [hy] at h2
    simp only [Option.some.injEq] at h1 h2
    simp [execOp, ← h1, ← h2, he w, hr w]⟩ k

theorem eqb_ints {P : Program} {w : World} {xs ys : List Int} (ht : P.underlying xT = some (.array n E)) (he : P.underlying E = some (.int kk)) (hs : Sz P E 1) (hx : xs.length = n) (hy : ys.length = n) :
    (binOp .eql xT (agg (xs.map (Value.int k))) (agg (ys.map (Value.int k)))).run P w = .ok (.bool (decide (xs = ys))) w ∧
    (binOp .neq xT (agg (xs.map (Value.int k))) (agg (ys.map (Value.int k)))).run P w = .ok (.bool (!decide (xs = ys))) w := by
  rw [run_eql_struct, run_neq_struct, run_equalIn_ints w 9998 ht he hs xs ys hx hy]
  exact ⟨rfl, rfl⟩

theorem bytes_ints (l : List UInt8) : bytesV l = (l.map fun b => (b.toNat : Int)).map (Value.int .u8) := by simp [bytesV]
theorem words_ints (l : List UInt64) : wordsV l = (l.map fun b => (b.toNat : Int)).map (Value.int .u64) := by simp [wordsV]
theorem bytes_inj {a b : List UInt8} : (a.map fun b => (b.toNat : Int)) = b.map (fun b => (b.toNat : Int)) ↔ a = b := by
  refine ⟨fun h => ?_, fun h => by rw [h]⟩
  exact List.map_inj_right (fun x y h => UInt8.toNat_inj.1 (by exact_mod_cast h)) |>.1 h
theorem words_inj {a b : List UInt64} : (a.map fun b => (b.toNat : Int)) = b.map (fun b => (b.toNat : Int)) ↔ a = b := by
  refine ⟨fun h => ?_, fun h => by rw [h]⟩
  exact List.map_inj_right (fun x y h => UInt64.toNat_inj.1 (by exact_mod_cast h)) |>.1 h

theorem Tr.eql_bytes {xs ys : List UInt8} (hg : guardOk ops sl g = true) (hk : okD c d C.N = true) (hx : evIn sl x = some (agg (bytesV xs))) (hy : evIn sl y = some (agg (bytesV ys))) (hm : C.P.eqGuardType C.P.depth xT = false)
    (ht : C.P.underlying xT = some (.array n E)) (he : C.P.underlying E = some (.int kk)) (hs : Sz C.P E 1) (hlx : xs.length = n) (hly : ys.length = n) {r : Bool} (hr : (decide (xs = ys)) = r)
    (k : Tr C ops rest ⟨(d, .bool r) :: sl, hp⟩ Q) : Tr C ops ((c, ⟨some d, .binOp .eql xT x y yT, ty, pos, af, g⟩) :: rest) ⟨sl, hp⟩ Q :=
  .binAny hg hk hx hy (fun w => run_eqGuard_agg w .eql xT x y _ _ hm) (fun w => by
    subst hr
    have := (eqb_ints (w := w) (k := .u8) ht he hs (xs := xs.map fun b => (b.toNat : Int)) (ys := ys.map fun b => (b.toNat : Int)) (by simp [hlx]) (by simp [hly])).1
    rw [← bytes_ints, ← bytes_ints] at this
    rw [this]; simp only [bytes_inj]) k
theorem Tr.neq_bytes {xs ys : List UInt8} (hg : guardOk ops sl g = true) (hk : okD c d C.N = true) (hx : evIn sl x = some (agg (bytesV xs))) (hy : evIn sl y = some (agg (bytesV ys))) (hm : C.P.eqGuardType C.P.depth xT = false)
    (ht : C.P.underlying xT = some (.array n E)) (he : C.P.underlying E = some (.int kk)) (hs : Sz C.P E 1) (hlx : xs.length = n) (hly : ys.length = n) {r : Bool} (hr : (!decide (xs = ys)) = r)
    (k : Tr C ops rest ⟨(d, .bool r) :: sl, hp⟩ Q) : Tr C ops ((c, ⟨some d, .binOp .neq xT x y yT, ty, pos, af, g⟩) :: rest) ⟨sl, hp⟩ Q :=
  .binAny hg hk hx hy (fun w => run_eqGuard_agg w .neq xT x y _ _ hm) (fun w => by
    subst hr
    have := (eqb_ints (w := w) (k := .u8) ht he hs (xs := xs.map fun b => (b.toNat : Int)) (ys := ys.map fun b => (b.toNat : Int)) (by simp [hlx]) (by simp [hly])).2
    rw [← bytes_ints, ← bytes_ints] at this
    rw [this]; simp only [bytes_inj]) k
theorem Tr.eql_words {xs ys : List UInt64} (hg : guardOk ops sl g = true) (hk : okD c d C.N = true) (hx : evIn sl x = some (agg (wordsV xs))) (hy : evIn sl y = some (agg (wordsV ys))) (hm : C.P.eqGuardType C.P.depth xT = false)
    (ht : C.P.underlying xT = some (.array n E)) (he : C.P.underlying E = some (.int kk)) (hs : Sz C.P E 1) (hlx : xs.length = n) (hly : ys.length = n) {r : Bool} (hr : (decide (xs = ys)) = r)
    (k : Tr C ops rest ⟨(d, .bool r) :: sl, hp⟩ Q) : Tr C ops ((c, ⟨some d, .binOp .eql xT x y yT, ty, pos, af, g⟩) :: rest) ⟨sl, hp⟩ Q :=
  .binAny hg hk hx hy (fun w => run_eqGuard_agg w .eql xT x y _ _ hm) (fun w => by
    subst hr
    have := (eqb_ints (w := w) (k := .u64) ht he hs (xs := xs.map fun b => (b.toNat : Int)) (ys := ys.map fun b => (b.toNat : Int)) (by simp [hlx]) (by simp [hly])).1
    rw [← words_ints, ← words_ints] at this
    rw [this]; simp only [words_inj]) k

theorem run_eq_bool {P : Program} {T : TypeId} {a b : Bool} (ht : P.underlying T = some .bool) (w : World) :
    (binOp .eql T (.bool a) (.bool b)).run P w = .ok (.bool (a == b)) w ∧ (binOp .neq T (.bool a) (.bool b)).run P w = .ok (.bool (!(a == b))) w := by
  have h : (Op.equal T (.bool a) (.bool b)).run P w = .ok (a == b) w := run_equalIn_bool' w 9999 T a b ht
  simp only [binOp, Sem.run_bind, h, Result.andThen_ok]
  exact ⟨rfl, rfl⟩

theorem Tr.eqb {a b : Bool} (hg : guardOk ops sl g = true) (hk : okD c d C.N = true) (hx : evIn sl x = some (.bool a)) (hy : evIn sl y = some (.bool b)) (ht : C.P.underlying xT = some .bool) {r : Bool} (hr : (a == b) = r)
    (k : Tr C ops rest ⟨(d, .bool r) :: sl, hp⟩ Q) : Tr C ops ((c, ⟨some d, .binOp .eql xT x y yT, ty, pos, af, g⟩) :: rest) ⟨sl, hp⟩ Q :=
  .binAny hg hk hx hy (fun w => by simp [eqGuard]) (fun w => hr ▸ (run_eq_bool ht w).1) k
theorem Tr.neb {a b : Bool} (hg : guardOk ops sl g = true) (hk : okD c d C.N = true) (hx : evIn sl x = some (.bool a)) (hy : evIn sl y = some (.bool b)) (ht : C.P.underlying xT = some .bool) {r : Bool} (hr : (!(a == b)) = r)
    (k : Tr C ops rest ⟨(d, .bool r) :: sl, hp⟩ Q) : Tr C ops ((c, ⟨some d, .binOp .neq xT x y yT, ty, pos, af, g⟩) :: rest) ⟨sl, hp⟩ Q :=
  .binAny hg hk hx hy (fun w => by simp [eqGuard]) (fun w => hr ▸ (run_eq_bool ht w).2) k

def evp (sl : List (Nat × Value)) : List (Nat × Operand) → Option (List (Nat × Value))
  | [] => some []
  | (i, x) :: l => match evIn sl x, evp sl l with
    | some v, some vs => some ((i, v) :: vs)
    | _, _ => none

theorem evp_known {sl : List (Nat × Value)} : ∀ {l : List (Nat × Operand)} {vs : List (Nat × Value)}, evp sl l = some vs → ∀ p ∈ l, (evIn sl p.2).isSome
  | [], _, _, x, hx => by cases hx
  | (i, y) :: l, vs, h, x, hx => by
    simp only [evp] at h
    split at h
    · rename_i v vs' hv hvs
      rcases List.mem_cons.1 hx with rfl | hx
      · simp [hv]
      · exact evp_known hvs x hx
    · cases h

theorem evp_map {sl : List (Nat × Value)} {ρ : Operand → Value} : ∀ {l : List (Nat × Operand)} {vs : List (Nat × Value)}, evp sl l = some vs → (∀ p ∈ l, evIn sl p.2 = some (ρ p.2)) → l.map (fun p => (p.1, ρ p.2)) = vs
  | [], vs, h, _ => by simp [evp] at h; simp [← h]
  | (i, y) :: l, vs, h, hf => by
    simp only [evp] at h
    split at h
    · rename_i v vs' hv hvs
      cases h
      have h0 := hf (i, y) List.mem_cons_self
      rw [hv] at h0
      cases h0
      rw [List.map_cons, evp_map hvs fun x hx => hf x (List.mem_cons_of_mem _ hx)]
    · cases h

theorem Tr.build {T : TypeId} {ps : List (Nat × Operand)} {vs : List (Nat × Value)} {cs : List Value} (hg : guardOk ops sl g = true) (hk : okD c d C.N = true) (hv : evp sl ps = some vs) (hr : ∀ w, (Instr.build T vs.toArray).run C.P w = .ok (agg cs) w)
    (k : Tr C ops rest ⟨(d, agg cs) :: sl, hp⟩ Q) : Tr C ops ((c, ⟨some d, .build T ps.toArray, ty, pos, af, g⟩) :: rest) ⟨sl, hp⟩ Q :=
  .pv hg hk ⟨fun x hx => by
    simp [Op.operands] at hx
    obtain ⟨i, hm⟩ := hx
    exact evp_known hv _ hm, fun ρ hf w => by
    have h2 := evp_map hv fun p hp => hf p.2 (by simp [Op.operands]; exact ⟨p.1, hp⟩)
    have e : (ps.toArray.map fun (i, x) => (i, ρ x)) = vs.toArray := by
      rw [← h2]; simp
    have hw := hr w
    simp only [execOp, e]
    simp [hw]⟩ k
end

end
end Hw
