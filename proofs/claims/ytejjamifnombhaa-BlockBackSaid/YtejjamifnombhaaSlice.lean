/- Operations that leave a new row and return a slice of it. It proves no statement by itself; it has no conditions. -/
import Derived.Test.YtejjamifnombhaaOps8
namespace Hw
open Go Go.RowKit
set_option linter.unusedSimpArgs false
set_option linter.unusedVariables false

def By (P : Program) (T : TypeId) (n : Nat) : Prop := (P.info? T).map (·.bytes) = some n

theorem Ret.push {w : World} (cs : List Value) (T : TypeId) : Ret [] [blk w.heap.size cs T] w { w with heap := w.heap.push (.cells cs.toArray T) } := by
  refine ⟨⟨rfl, rfl, rfl, by simp, fun k hk _ => ?_⟩, fun b hb => ?_, by simp, fun b hb => ?_⟩
  · simp only [Array.getElem?_push]
    rw [if_neg (by omega)]
  · obtain rfl := List.mem_singleton.1 hb
    exact ⟨cs.toArray, (0, 0), by simp, by simp, by simp, free0⟩
  · obtain rfl := List.mem_singleton.1 hb
    exact .inl (Nat.le_refl _)
section
variable {C : Cx} {ops : Array Oper} {rest : List (Nat × Oper)} {sl : List (Nat × Value)} {hp : List Blk} {Q : St → Prop} {c d : Nat} {ty : TypeId} {pos : String} {af : Array Edge} {g : Option (Nat × Bool)} {op : Op}

theorem Tr.growB {cs : List Value} {T : TypeId} (val : Nat → Value) (hg : guardOk ops sl g = true) (hk : okG c d C.N = true) (hn : Known sl ⟨some d, op, ty, pos, af, g⟩)
    (hr : ∀ ρ, Fits sl ⟨some d, op, ty, pos, af, g⟩ ρ → ∀ w, (execOp ρ ⟨some d, op, ty, pos, af, g⟩).run C.P w = .ok (.value (val w.heap.size)) { w with heap := w.heap.push (.cells cs.toArray T) })
    (k : ∀ n, Tr C ops rest ⟨(d, val n) :: sl, blk n cs T :: hp⟩ Q) : Tr C ops ((c, ⟨some d, op, ty, pos, af, g⟩) :: rest) ⟨sl, hp⟩ Q := by
  simp only [okG, Bool.and_eq_true, Bool.or_eq_true] at hk
  refine Tr.grow (ρ := Nat) (fun _ => True) val (fun n => [blk n cs T]) (hk.1.imp nbeq' nbeq') (wantS_of_guardOk hg) (dst_some (nblt hk.2)) ⟨hn, fun l hl => ?_, fun a w hf hh => ?_⟩ (fun n _ => k n)
  · obtain ⟨n, _, hf⟩ := fresh_is 0 l
    refine ⟨n, trivial, ?_⟩
    simp only [List.singleton_append, List.map_cons, List.nodup_cons]
    exact ⟨fun h => by obtain ⟨b, hb, e⟩ := List.mem_map.1 h; exact hf b hb e, hl⟩
  · unfold Oper.wp
    rw [hr a.eval hf w]
    exact ⟨w.heap.size, trivial, rfl, Ret.push cs T⟩

theorem row_eq (n : Nat) (z : Value) (hz : z.cells = #[z]) : (Array.range n).map (fun j => z.cells[j % z.cells.size]!) = Array.replicate n z := by
  apply Array.ext
  · simp
  · intro i h1 h2
    simp [hz, Nat.mod_one]

theorem Tr.mkSlice {T E : TypeId} {x y : Operand} {kx ky : IntKind} {z : Value} {by' : Nat} (n : Nat) (hg : guardOk ops sl g = true) (hk : okG c d C.N = true) (hx : evIn sl x = some (.int kx (n : Int))) (hy : evIn sl y = some (.int ky (n : Int)))
    (hu : C.P.underlying T = some (.slice E)) (hs : Sz C.P E 1) (hz : Zr C.P E z) (hb : By C.P E by') (hc : z.cells = #[z]) (h0 : 0 < n) (hn : n ≤ 1000000) (hby : by' ≤ 64)
    (k : ∀ m, Tr C ops rest ⟨(d, .slice (some ⟨m, 0, none⟩) n n) :: sl, blk m (List.replicate n z) E :: hp⟩ Q) : Tr C ops ((c, ⟨some d, .makeSlice T x y, ty, pos, af, g⟩) :: rest) ⟨sl, hp⟩ Q := by
  refine Tr.growB (fun m => .slice (some ⟨m, 0, none⟩) n n) hg hk (known2 hx hy) (fun ρ hf w => ?_) k
  have h1 := hf x (by simp [Op.operands]); rw [hx] at h1
  have h2 := hf y (by simp [Op.operands]); rw [hy] at h2
  simp only [Option.some.injEq] at h1 h2
  have rs := run_sz hs
  unfold Sz at hs; unfold Zr at hz; unfold By at hb
  cases hi : C.P.info? E with
  | none => rw [hi] at hs; simp at hs
  | some i =>
    rw [hi] at hs hz hb
    simp only [Option.map_some, Option.some.injEq, Option.bind_some] at hs hz hb
    have wn : IntKind.i64.wrap (n : Int) = n := i64_wrap (by omega)
    have hm : by' * n ≤ 64 * 1000000 := Nat.mul_le_mul hby hn
    have hm2 : ((by' : Int) * n) = ((by' * n : Nat) : Int) := by simp
    have n1 : ¬ ((n : Int) < 0) := by omega
    have n2 : ¬ (281474976710656 < (i.bytes : Int) * n) := by rw [hb, hm2]; omega
    have n5 : ¬ (140737488355328 < n * i.bytes) := by rw [hb, Nat.mul_comm]; omega
    have n6 : ¬ (n = 0) := by omega
    simp [execOp, Instr.makeSlice, run_underlying hu, asInt, asIntOf, typeInfo, hi, rs, zeroValue, hz, ← h1, ← h2, wn, n1, n2, n5, n6, newRow, newObj, askRoom, roomBytes, row_eq n z hc]
    simp [Sem.run]

variable {x lo hi : Operand} {b o n cap j : Nat} {T E : TypeId} {kl : IntKind} {l : Int}
theorem Tr.sliceLo (j : Nat) (hg : guardOk ops sl g = true) (hk : okD c d C.N = true) (hx : evIn sl x = some (.slice (some ⟨b, o, none⟩) n cap)) (hl : evIn sl lo = some (.int kl l)) (hj : l = j) (hjn : j ≤ n) (hnc : n ≤ cap)
    (hu : C.P.underlying T = some (.slice E)) (hs : Sz C.P E 1)
    (k : Tr C ops rest ⟨(d, .slice (some ⟨b, if cap = j then o else o + j, none⟩) (n - j) (cap - j)) :: sl, hp⟩ Q) : Tr C ops ((c, ⟨some d, .slice T x (some lo) none none, ty, pos, af, g⟩) :: rest) ⟨sl, hp⟩ Q :=
  .pv hg hk ⟨by simpa [Known, Op.operands] using known2 hx hl, fun ρ hfi w => by
    have h1 := hfi x (by simp [Op.operands]); rw [hx] at h1
    have h2 := hfi lo (by simp [Op.operands]); rw [hl] at h2
    simp only [Option.some.injEq] at h1 h2
    subst hj
    by_cases e : cap = j <;> simp [execOp, Instr.sliceAt, Instr.slice, ← h1, ← h2, run_underlying hu, Instr.sliceBounds, Instr.sliceBound, asIntOf, run_sz hs, add_addr, e, hjn]⟩ k
theorem Tr.sliceHi (j : Nat) (hg : guardOk ops sl g = true) (hk : okD c d C.N = true) (hx : evIn sl x = some (.slice (some ⟨b, o, none⟩) n cap)) (hl : evIn sl hi = some (.int kl l)) (hj : l = j) (hjn : j ≤ cap)
    (hu : C.P.underlying T = some (.slice E)) (hs : Sz C.P E 1)
    (k : Tr C ops rest ⟨(d, .slice (some ⟨b, o, none⟩) j cap) :: sl, hp⟩ Q) : Tr C ops ((c, ⟨some d, .slice T x none (some hi) none, ty, pos, af, g⟩) :: rest) ⟨sl, hp⟩ Q :=
  .pv hg hk ⟨by simpa [Known, Op.operands] using known2 hx hl, fun ρ hfi w => by
    have h1 := hfi x (by simp [Op.operands]); rw [hx] at h1
    have h2 := hfi hi (by simp [Op.operands]); rw [hl] at h2
    simp only [Option.some.injEq] at h1 h2
    subst hj
    by_cases e : cap = 0
    · subst e
      obtain rfl : j = 0 := by omega
      simp [execOp, Instr.sliceAt, Instr.slice, ← h1, ← h2, run_underlying hu, Instr.sliceBounds, Instr.sliceBound, asIntOf, run_sz hs, add_addr]
    · simp [execOp, Instr.sliceAt, Instr.slice, ← h1, ← h2, run_underlying hu, Instr.sliceBounds, Instr.sliceBound, asIntOf, run_sz hs, add_addr, e, hjn]⟩ k
theorem Tr.sliceLoNil {sz : Nat} (hg : guardOk ops sl g = true) (hk : okD c d C.N = true) (hx : evIn sl x = some (.slice none 0 0)) (hl : evIn sl lo = some (.int kl 0))
    (hu : C.P.underlying T = some (.slice E)) (hs : Sz C.P E sz)
    (k : Tr C ops rest ⟨(d, .slice none 0 0) :: sl, hp⟩ Q) : Tr C ops ((c, ⟨some d, .slice T x (some lo) none none, ty, pos, af, g⟩) :: rest) ⟨sl, hp⟩ Q :=
  .pv hg hk ⟨by simpa [Known, Op.operands] using known2 hx hl, fun ρ hfi w => by
    have h1 := hfi x (by simp [Op.operands]); rw [hx] at h1
    have h2 := hfi lo (by simp [Op.operands]); rw [hl] at h2
    simp only [Option.some.injEq] at h1 h2
    simp [execOp, Instr.sliceAt, Instr.slice, ← h1, ← h2, run_underlying hu, Instr.sliceBounds, Instr.sliceBound, asIntOf, run_sz hs]⟩ k
theorem Tr.sliceHiNil {sz : Nat} (hg : guardOk ops sl g = true) (hk : okD c d C.N = true) (hx : evIn sl x = some (.slice none 0 0)) (hl : evIn sl hi = some (.int kl 0))
    (hu : C.P.underlying T = some (.slice E)) (hs : Sz C.P E sz)
    (k : Tr C ops rest ⟨(d, .slice none 0 0) :: sl, hp⟩ Q) : Tr C ops ((c, ⟨some d, .slice T x none (some hi) none, ty, pos, af, g⟩) :: rest) ⟨sl, hp⟩ Q :=
  .pv hg hk ⟨by simpa [Known, Op.operands] using known2 hx hl, fun ρ hfi w => by
    have h1 := hfi x (by simp [Op.operands]); rw [hx] at h1
    have h2 := hfi hi (by simp [Op.operands]); rw [hl] at h2
    simp only [Option.some.injEq] at h1 h2
    simp [execOp, Instr.sliceAt, Instr.slice, ← h1, ← h2, run_underlying hu, Instr.sliceBounds, Instr.sliceBound, asIntOf, run_sz hs]⟩ k
end
end Hw
