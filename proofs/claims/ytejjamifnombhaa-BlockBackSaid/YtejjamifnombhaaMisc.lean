/- More operations of the model: min and max, checks against nil, rows made with room, parts of values. It proves no statement by itself; it has no conditions. -/
import Derived.Test.YtejjamifnombhaaLent
import Derived.Laws.Pointers
import Derived.Laws.Cover3
import Derived.LaidEqlPtr
namespace Hw
open Go Go.RowKit
set_option linter.unusedSimpArgs false
set_option linter.unusedVariables false
section
variable {C : Cx} {ops : Array Oper} {rest : List (Nat × Oper)} {sl : List (Nat × Value)} {hp : List Blk} {Q : St → Prop} {c d : Nat} {ty : TypeId} {pos : String} {af : Array Edge} {g : Option (Nat × Bool)}
variable {xT yT : TypeId} {x y : Operand} {p q : UInt8}

theorem Tr.min2 {ats : Array TypeId} {k1 k2 : IntKind} {a b : Int} {v : Value} (hg : guardOk ops sl g = true) (hk : okD c d C.N = true) (hx : evIn sl x = some (.int k1 a)) (hy : evIn sl y = some (.int k2 b)) (hv : Value.int k1 (if b < a then b else a) = v)
    (k : Tr C ops rest ⟨(d, v) :: sl, hp⟩ Q) : Tr C ops ((c, ⟨some d, .call { callee := .builtin .min, args := #[x, y], argTypes := ats }, ty, pos, af, g⟩) :: rest) ⟨sl, hp⟩ Q :=
  .pv hg hk ⟨by simpa [Known, Op.operands, Call.operands] using known2 hx hy, fun ρ hf w => by
    have h1 := hf x (by simp [Op.operands, Call.operands]); rw [hx] at h1
    have h2 := hf y (by simp [Op.operands, Call.operands]); rw [hy] at h2
    simp only [Option.some.injEq] at h1 h2
    subst hv
    simp [execOp, resolve, invoke, builtin, ← h1, ← h2, Builtin.min_, Builtin.min2]⟩ k
theorem Tr.max2 {ats : Array TypeId} {k1 k2 : IntKind} {a b : Int} {v : Value} (hg : guardOk ops sl g = true) (hk : okD c d C.N = true) (hx : evIn sl x = some (.int k1 a)) (hy : evIn sl y = some (.int k2 b)) (hv : Value.int k1 (if b > a then b else a) = v)
    (k : Tr C ops rest ⟨(d, v) :: sl, hp⟩ Q) : Tr C ops ((c, ⟨some d, .call { callee := .builtin .max, args := #[x, y], argTypes := ats }, ty, pos, af, g⟩) :: rest) ⟨sl, hp⟩ Q :=
  .pv hg hk ⟨by simpa [Known, Op.operands, Call.operands] using known2 hx hy, fun ρ hf w => by
    have h1 := hf x (by simp [Op.operands, Call.operands]); rw [hx] at h1
    have h2 := hf y (by simp [Op.operands, Call.operands]); rw [hy] at h2
    simp only [Option.some.injEq] at h1 h2
    subst hv
    simp [execOp, resolve, invoke, builtin, ← h1, ← h2, Builtin.max_, Builtin.max2]⟩ k

theorem Tr.nilChk {a : Addr} (hg : guardOk ops sl g = true) (hk : okD c d C.N = true) (hx : evIn sl x = some (.pointer (some a)))
    (k : Tr C ops rest ⟨(d, .pointer (some a)) :: sl, hp⟩ Q) : Tr C ops ((c, ⟨some d, .nilCheck x, ty, pos, af, g⟩) :: rest) ⟨sl, hp⟩ Q :=
  .pv hg hk ⟨known1 hx, fun ρ hf w => by
    have h1 := hf x (by simp [Op.operands]); rw [hx] at h1
    simp only [Option.some.injEq] at h1
    simp [execOp, ← h1]⟩ k

theorem pointee_of {P : Program} {T E : TypeId} (hu : P.underlying T = some (.pointer E)) : P.underlying T = some (.pointer (P.pointee T)) := by
  have : P.pointee T = E := by simp [Program.pointee, hu]
  rw [this]; exact hu
theorem Tr.neqNilP {a : Addr} {E : TypeId} (hg : guardOk ops sl g = true) (hk : okD c d C.N = true) (hx : evIn sl x = some (.pointer (some a))) (hy : evIn sl y = some (.pointer none)) (hu : C.P.underlying xT = some (.pointer E))
    (k : Tr C ops rest ⟨(d, .bool true) :: sl, hp⟩ Q) : Tr C ops ((c, ⟨some d, .binOp .neq xT x y yT, ty, pos, af, g⟩) :: rest) ⟨sl, hp⟩ Q :=
  .binAny hg hk hx hy (fun w => by simp [eqGuard]) (fun w => by rw [run_neq_pointer_nil w xT (some a) (pointee_of hu)]; rfl) k
theorem Tr.eqNilP {a : Addr} {E : TypeId} (hg : guardOk ops sl g = true) (hk : okD c d C.N = true) (hx : evIn sl x = some (.pointer (some a))) (hy : evIn sl y = some (.pointer none)) (hu : C.P.underlying xT = some (.pointer E))
    (k : Tr C ops rest ⟨(d, .bool false) :: sl, hp⟩ Q) : Tr C ops ((c, ⟨some d, .binOp .eql xT x y yT, ty, pos, af, g⟩) :: rest) ⟨sl, hp⟩ Q :=
  .binAny hg hk hx hy (fun w => by simp [eqGuard]) (fun w => by rw [run_eql_pointer_nil w xT (some a) (pointee_of hu)]; rfl) k
theorem Tr.eqSameP {a : Addr} {E : TypeId} {sz : Nat} (hg : guardOk ops sl g = true) (hk : okD c d C.N = true) (hx : evIn sl x = some (.pointer (some a))) (hy : evIn sl y = some (.pointer (some a))) (hu : C.P.underlying xT = some (.pointer E)) (hs : Sz C.P E sz)
    (k : Tr C ops rest ⟨(d, .bool true) :: sl, hp⟩ Q) : Tr C ops ((c, ⟨some d, .binOp .eql xT x y yT, ty, pos, af, g⟩) :: rest) ⟨sl, hp⟩ Q :=
  .binAny hg hk hx hy (fun w => by simp [eqGuard]) (fun w => by
    unfold Sz at hs
    cases hi : C.P.info? E with
    | none => rw [hi] at hs; simp at hs
    | some i => exact run_eql_ptr_same w a hu hi) k
theorem Tr.eqNilS {ad : Option Addr} {n cap : Nat} {E : TypeId} (hg : guardOk ops sl g = true) (hk : okD c d C.N = true) (hx : evIn sl x = some (.slice ad n cap)) (hy : evIn sl y = some (.slice none 0 0)) (hu : C.P.underlying xT = some (.slice E)) {r : Bool} (hr : ad.isNone = r)
    (k : Tr C ops rest ⟨(d, .bool r) :: sl, hp⟩ Q) : Tr C ops ((c, ⟨some d, .binOp .eql xT x y yT, ty, pos, af, g⟩) :: rest) ⟨sl, hp⟩ Q :=
  .binAny hg hk hx hy (fun w => by simp [eqGuard]) (fun w => by
    subst hr
    have h := run_equal_slice_nil w xT E ad n cap hu
    simp only [binOp, Sem.run_bind, h, Result.andThen_ok]
    rfl) k

theorem Tr.eql_str {a b : List UInt8} (hg : guardOk ops sl g = true) (hk : okD c d C.N = true) (hx : evIn sl x = some (str a)) (hy : evIn sl y = some (str b)) {r : Bool} (hr : decide (a = b) = r)
    (k : Tr C ops rest ⟨(d, .bool r) :: sl, hp⟩ Q) : Tr C ops ((c, ⟨some d, .binOp .eql xT x y yT, ty, pos, af, g⟩) :: rest) ⟨sl, hp⟩ Q :=
  .binAny hg hk hx hy (fun w => by simp [eqGuard, str]) (fun w => by
    subst hr
    rw [show (binOp .eql xT (str a) (str b)) = Op.stringOp .eql ⟨a.toArray⟩ ⟨b.toArray⟩ from rfl]
    simp [Op.stringOp, toList_mk]
    rw [Bool.eq_iff_iff]; simp) k

/-! ### bytes -/
theorem Tr.or_u8 (hg : guardOk ops sl g = true) (hk : okD c d C.N = true) (hx : evIn sl x = some (u8 p)) (hy : evIn sl y = some (u8 q))
    (k : Tr C ops rest ⟨(d, u8 (p ||| q)) :: sl, hp⟩ Q) : Tr C ops ((c, ⟨some d, .binOp .or xT x y yT, ty, pos, af, g⟩) :: rest) ⟨sl, hp⟩ Q :=
  .bin hg hk hx hy (fun w => congrArg (fun n => Result.ok (Value.int .u8 n) w) (bits8 (· ||| ·) (· ||| ·) (fun _ _ => rfl) p q)) k
theorem Tr.xor_u8 (hg : guardOk ops sl g = true) (hk : okD c d C.N = true) (hx : evIn sl x = some (u8 p)) (hy : evIn sl y = some (u8 q))
    (k : Tr C ops rest ⟨(d, u8 (p ^^^ q)) :: sl, hp⟩ Q) : Tr C ops ((c, ⟨some d, .binOp .xor xT x y yT, ty, pos, af, g⟩) :: rest) ⟨sl, hp⟩ Q :=
  .bin hg hk hx hy (fun w => congrArg (fun n => Result.ok (Value.int .u8 n) w) (bits8 (· ^^^ ·) (· ^^^ ·) (fun _ _ => rfl) p q)) k
def shl8 (x : UInt8) (n : Nat) : UInt8 := UInt8.ofNat (x.toNat * 2 ^ n)
theorem shl8_eq (x : UInt8) (n : Nat) : IntKind.u8.wrap ((x.toNat : Int) * 2 ^ n) = ((shl8 x n).toNat : Int) := by
  rw [IntKind.wrap_u8, shl8, UInt8.toNat_ofNat']
  have : ((x.toNat : Int) * 2 ^ n) = ((x.toNat * 2 ^ n : Nat) : Int) := by simp
  rw [this]; omega
theorem Tr.shl_u8 {ky : IntKind} {b : Int} (hg : guardOk ops sl g = true) (hk : okD c d C.N = true) (hx : evIn sl x = some (u8 p)) (hy : evIn sl y = some (.int ky b)) (n : Nat) (hn : b = n) (hr : n ≤ 8)
    (k : Tr C ops rest ⟨(d, u8 (shl8 p n)) :: sl, hp⟩ Q) : Tr C ops ((c, ⟨some d, .binOp .shl xT x y yT, ty, pos, af, g⟩) :: rest) ⟨sl, hp⟩ Q :=
  .bin hg hk hx hy (fun w => by
    subst hn
    simp only [binOp, Op.shift, IntKind.bits]; rw [if_neg (by omega), Int.toNat_natCast, Nat.min_eq_left hr, shl8_eq]; rfl) k
theorem Tr.shr_u8w {ky : IntKind} {b : Int} (hg : guardOk ops sl g = true) (hk : okD c d C.N = true) (hx : evIn sl x = some (u8 p)) (hy : evIn sl y = some (.int ky b)) (n : Nat) (hn : b = n)
    (k : Tr C ops rest ⟨(d, u8 (shr8 p n)) :: sl, hp⟩ Q) : Tr C ops ((c, ⟨some d, .binOp .shr xT x y yT, ty, pos, af, g⟩) :: rest) ⟨sl, hp⟩ Q := by
  by_cases hr : n ≤ 8
  · exact .shr_u8 hg hk hx hy n hn hr k
  · have e : shr8 p n = shr8 p 8 := by
      have := p.toNat_lt
      have h1 : p.toNat / 2 ^ n = 0 := Nat.div_eq_of_lt (Nat.lt_of_lt_of_le this (Nat.pow_le_pow_right (n := 2) (by decide) (show 8 ≤ n by omega)))
      have h2 : p.toNat / 2 ^ 8 = 0 := Nat.div_eq_of_lt this
      rw [shr8, shr8, h1, h2]
    rw [e] at k
    refine .bin hg hk hx hy (fun w => ?_) k
    subst hn
    simp only [binOp, Op.shift, IntKind.bits]
    rw [if_neg (by omega), Int.toNat_natCast, Nat.min_eq_right (by omega), shr8_eq]
    rfl
theorem Tr.not_u8 (hg : guardOk ops sl g = true) (hk : okD c d C.N = true) (hx : evIn sl x = some (u8 p))
    (k : Tr C ops rest ⟨(d, u8 (255 ^^^ p)) :: sl, hp⟩ Q) : Tr C ops ((c, ⟨some d, .unOp .xor xT x, ty, pos, af, g⟩) :: rest) ⟨sl, hp⟩ Q :=
  .pv hg hk ⟨known1 hx, fun ρ hf w => by
    have h1 := hf x (by simp [Op.operands]); rw [hx] at h1
    simp only [Option.some.injEq] at h1
    have h2 := bits8 (· ^^^ ·) (· ^^^ ·) (fun _ _ => rfl) 255 p
    simp only [execOp, ← h1]
    have e : (Op.unary .xor (u8 p)).run C.P w = .ok (u8 (255 ^^^ p)) w := congrArg (fun n => Result.ok (Value.int .u8 n) w) h2
    simp [e]⟩ k
theorem Tr.not_u64 {p : UInt64} (hg : guardOk ops sl g = true) (hk : okD c d C.N = true) (hx : evIn sl x = some (u64 p))
    (k : Tr C ops rest ⟨(d, u64 (18446744073709551615 ^^^ p)) :: sl, hp⟩ Q) : Tr C ops ((c, ⟨some d, .unOp .xor xT x, ty, pos, af, g⟩) :: rest) ⟨sl, hp⟩ Q :=
  .pv hg hk ⟨known1 hx, fun ρ hf w => by
    have h1 := hf x (by simp [Op.operands]); rw [hx] at h1
    simp only [Option.some.injEq] at h1
    have h2 := bits64 (· ^^^ ·) (· ^^^ ·) (fun _ _ => rfl) 18446744073709551615 p
    simp only [execOp, ← h1]
    have e : (Op.unary .xor (u64 p)).run C.P w = .ok (u64 (18446744073709551615 ^^^ p)) w := congrArg (fun n => Result.ok (Value.int .u64 n) w) h2
    simp [e]⟩ k

/-! ### parts of values -/
theorem Tr.idxStr {s : ByteArray} {ki : IntKind} {i : Int} {b : UInt8} (hg : guardOk ops sl g = true) (hk : okD c d C.N = true) (hx : evIn sl x = some (.string s)) (hy : evIn sl y = some (.int ki i)) (hu : C.P.underlying xT = some .string) (j : Nat) (hj : i = j) (hb : s[j]? = some b)
    (k : Tr C ops rest ⟨(d, u8 b) :: sl, hp⟩ Q) : Tr C ops ((c, ⟨some d, .index xT x y, ty, pos, af, g⟩) :: rest) ⟨sl, hp⟩ Q :=
  .pv hg hk ⟨known2 hx hy, fun ρ hf w => by
    have h1 := hf x (by simp [Op.operands]); rw [hx] at h1
    have h2 := hf y (by simp [Op.operands]); rw [hy] at h2
    simp only [Option.some.injEq] at h1 h2
    subst hj
    simp [execOp, Instr.index, ← h1, ← h2, asIntOf, run_underlying hu, hb]⟩ k
theorem Tr.idxA1 {cs : List Value} {ki : IntKind} {i : Int} {v : Value} {n : Nat} {E : TypeId} {td : TypeDesc} (hg : guardOk ops sl g = true) (hk : okD c d C.N = true) (hx : evIn sl x = some (agg cs)) (hy : evIn sl y = some (.int ki i)) (hu : C.P.underlying xT = some (.array n E)) (hs : Sz C.P E 1) (he : C.P.underlying E = some td) (hp' : plainDesc td = true) (j : Nat) (hj : i = j) (hjn : j < n) (hv : cs[j]? = some v)
    (k : Tr C ops rest ⟨(d, v) :: sl, hp⟩ Q) : Tr C ops ((c, ⟨some d, .index xT x y, ty, pos, af, g⟩) :: rest) ⟨sl, hp⟩ Q :=
  .pv hg hk ⟨known2 hx hy, fun ρ hf w => by
    have h1 := hf x (by simp [Op.operands]); rw [hx] at h1
    have h2 := hf y (by simp [Op.operands]); rw [hy] at h2
    simp only [Option.some.injEq] at h1 h2
    subst hj
    have h3 := run_part1 (w := w) he hp' hv
    simp [execOp, Instr.index, ← h1, ← h2, asIntOf, run_underlying hu, run_sz hs, hjn, agg, h3]⟩ k
theorem Tr.s2a {arr E : TypeId} {a : Addr} {n len cap : Nat} (hg : guardOk ops sl g = true) (hk : okD c d C.N = true) (hx : evIn sl x = some (.slice (some a) len cap)) (hu : C.P.underlying arr = some (.array n E)) (hn : n ≤ len)
    (k : Tr C ops rest ⟨(d, .pointer (some a)) :: sl, hp⟩ Q) : Tr C ops ((c, ⟨some d, .sliceToArrayPointer arr x, ty, pos, af, g⟩) :: rest) ⟨sl, hp⟩ Q :=
  .pv hg hk ⟨known1 hx, fun ρ hf w => by
    have h1 := hf x (by simp [Op.operands]); rw [hx] at h1
    simp only [Option.some.injEq] at h1
    simp [execOp, Instr.arrayAt, ← h1, run_underlying hu, show ¬ len < n by omega]⟩ k

/-! ### slices -/
theorem Tr.sliceLoHiN {lo hi : Operand} {b o n cap : Nat} {T E : TypeId} {kl kh : IntKind} {l h : Int} {sz : Nat} (i j : Nat) (hg : guardOk ops sl g = true) (hk : okD c d C.N = true) (hx : evIn sl x = some (.slice (some ⟨b, o, none⟩) n cap)) (hl : evIn sl lo = some (.int kl l)) (hh : evIn sl hi = some (.int kh h)) (hi' : l = i) (hj : h = j) (hij : i ≤ j) (hjc : j ≤ cap)
    (hu : C.P.underlying T = some (.slice E)) (hs : Sz C.P E sz)
    (k : Tr C ops rest ⟨(d, .slice (some ⟨b, if cap = i then o else o + i * sz, none⟩) (j - i) (cap - i)) :: sl, hp⟩ Q) : Tr C ops ((c, ⟨some d, .slice T x (some lo) (some hi) none, ty, pos, af, g⟩) :: rest) ⟨sl, hp⟩ Q :=
  .pv hg hk ⟨fun z hz => by
    simp [Op.operands] at hz
    rcases hz with rfl | rfl | rfl
    · simp [hx]
    · simp [hl]
    · simp [hh], fun ρ hfi w => by
    have h1 := hfi x (by simp [Op.operands]); rw [hx] at h1
    have h2 := hfi lo (by simp [Op.operands]); rw [hl] at h2
    have h3 := hfi hi (by simp [Op.operands]); rw [hh] at h3
    simp only [Option.some.injEq] at h1 h2 h3
    subst hi'
    subst hj
    by_cases e : cap = i
    · subst e
      simp [execOp, Instr.sliceAt, Instr.slice, ← h1, ← h2, ← h3, run_underlying hu, Instr.sliceBounds, Instr.sliceBound, asIntOf, run_sz hs, add_addr, hjc, hij]
    · simp [execOp, Instr.sliceAt, Instr.slice, ← h1, ← h2, ← h3, run_underlying hu, Instr.sliceBounds, Instr.sliceBound, asIntOf, run_sz hs, add_addr, e, hjc, hij]⟩ k

/-- a new row of length 0, with room -/
theorem Tr.mkRoom {T E : TypeId} {kx ky : IntKind} {z : Value} {by' : Nat} {mi : Int} (m : Nat) (hg : guardOk ops sl g = true) (hk : okG c d C.N = true) (hx : evIn sl x = some (.int kx 0)) (hy : evIn sl y = some (.int ky mi)) (hmi : mi = m)
    (hu : C.P.underlying T = some (.slice E)) (hs : Sz C.P E 1) (hz : Zr C.P E z) (hb : By C.P E by') (hc : z.cells = #[z]) (hn : m ≤ 1000000) (hby : by' ≤ 64)
    (k : ∀ q, Tr C ops rest ⟨(d, .slice (some ⟨q, 0, none⟩) 0 m) :: sl, ⟨q, [], E, m⟩ :: hp⟩ Q) : Tr C ops ((c, ⟨some d, .makeSlice T x y, ty, pos, af, g⟩) :: rest) ⟨sl, hp⟩ Q := by
  subst hmi
  have hk2 := hk
  simp only [okG, Bool.and_eq_true, Bool.or_eq_true] at hk
  refine Tr.grow (ρ := Nat) (fun _ => True) (fun q => .slice (some ⟨q, 0, none⟩) 0 m) (fun q => [⟨q, [], E, m⟩]) (hk.1.imp nbeq' nbeq') (wantS_of_guardOk hg) (dst_some (nblt hk.2)) ⟨known2 hx hy, fun l hl => ?_, fun a w hf hh => ?_⟩ (fun q _ => k q)
  · obtain ⟨q, _, hq⟩ := fresh_is 0 l
    refine ⟨q, trivial, ?_⟩
    simp only [List.singleton_append, List.map_cons, List.nodup_cons]
    exact ⟨fun h => by obtain ⟨b, hb, e⟩ := List.mem_map.1 h; exact hq b hb e, hl⟩
  · have h1 := hf x (by simp [Op.operands]); rw [hx] at h1
    have h2 := hf y (by simp [Op.operands]); rw [hy] at h2
    simp only [Option.some.injEq] at h1 h2
    have rs := run_sz hs
    unfold Sz at hs; unfold Zr at hz; unfold By at hb
    cases hi : C.P.info? E with
    | none => rw [hi] at hs; simp at hs
    | some i =>
      rw [hi] at hs hz hb
      simp only [Option.map_some, Option.some.injEq, Option.bind_some] at hs hz hb
      have wn : IntKind.i64.wrap (m : Int) = m := i64_wrap (by omega)
      have w0 : IntKind.i64.wrap 0 = 0 := by decide
      have hm : by' * m ≤ 64 * 1000000 := Nat.mul_le_mul hby hn
      have hm2 : ((by' : Int) * m) = ((by' * m : Nat) : Int) := by simp
      have n1 : ¬ ((m : Int) < 0) := by omega
      have n2 : ¬ (281474976710656 < (i.bytes : Int) * m) := by rw [hb, hm2]; omega
      have n5 : ¬ (140737488355328 < m * i.bytes) := by rw [hb, Nat.mul_comm]; omega
      have hrun : (execOp a.eval ⟨some d, .makeSlice T x y, ty, pos, af, g⟩).run C.P w = .ok (.value (.slice (some ⟨w.heap.size, 0, none⟩) 0 m)) { w with heap := w.heap.push (.cells (Array.replicate m z) E) } := by
        by_cases h0 : m = 0
        · subst h0
          simp [execOp, Instr.makeSlice, run_underlying hu, asInt, asIntOf, typeInfo, hi, rs, zeroValue, hz, ← h1, ← h2, w0, newRow, newObj, askRoom, roomBytes]
          simp [Sem.run]
          have e0 : Array.map (fun _ => (default : Value)) (Array.range 0) = #[] := Array.eq_empty_of_size_eq_zero (by simp)
          rw [e0]
        · simp [execOp, Instr.makeSlice, run_underlying hu, asInt, asIntOf, typeInfo, hi, rs, zeroValue, hz, ← h1, ← h2, wn, w0, n1, n2, n5, h0, newRow, newObj, askRoom, roomBytes, row_eq m z hc]
          simp [Sem.run]
      unfold Oper.wp
      rw [hrun]
      refine ⟨w.heap.size, trivial, rfl, ⟨⟨rfl, rfl, rfl, by simp, fun k hk _ => ?_⟩, fun b hb => ?_, by simp, fun b hb => ?_⟩⟩
      · simp only [Array.getElem?_push]
        rw [if_neg (by omega)]
      · obtain rfl := List.mem_singleton.1 hb
        exact ⟨Array.replicate m z, (0, 0), by simp, by simp, by simp, free0⟩
      · obtain rfl := List.mem_singleton.1 hb
        exact .inl (Nat.le_refl _)
end
end Hw
