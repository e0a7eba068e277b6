/- Appending to a row of one's own, where the room is too small: a new row. It proves no statement by itself; it has no conditions. -/
import Derived.Test.YtejjamifnombhaaSlice
import Derived.ArgAppend
namespace Hw
open Go Go.RowKit
set_option linter.unusedSimpArgs false
set_option linter.unusedVariables false
section
variable {C : Cx} {ops : Array Oper} {rest : List (Nat × Oper)} {sl : List (Nat × Value)} {hp : List Blk} {Q : St → Prop} {c d : Nat} {ty : TypeId} {pos : String} {af : Array Edge} {g : Option (Nat × Bool)}

theorem Tr.appendNew {x y : Operand} {b o b2 o2 n cap m c2 by' : Nat} {T E : TypeId} {z : Value} {olds news : List Value} (hg : guardOk ops sl g = true) (hk : okG c d C.N = true)
    (hx : evIn sl x = some (.slice (some ⟨b, o, none⟩) n cap)) (hy : evIn sl y = some (.slice (some ⟨b2, o2, none⟩) m c2))
    (hu : C.P.underlying T = some (.slice E)) (hs : Sz C.P E 1) (hz : Zr C.P E z) (hb : By C.P E by') (hzc : z.cells.size = 1)
    (ho : ∀ w, HRep C hp w → Sees w b o olds) (hn : ∀ w, HRep C hp w → Sees w b2 o2 news) (hlo : olds.length = n) (hln : news.length = m) (hroom : cap < n + m) (hnm : n + m ≤ 1000000) (hby : by' ≤ 64)
    (k : ∀ q cap', n + m ≤ cap' → Tr C ops rest ⟨(d, .slice (some ⟨q, 0, none⟩) (n + m) cap') :: sl, ⟨q, olds ++ news, E, cap'⟩ :: hp⟩ Q) :
    Tr C ops ((c, ⟨some d, .call { callee := .builtin .append, args := #[x, y], argTypes := #[T, T] }, ty, pos, af, g⟩) :: rest) ⟨sl, hp⟩ Q := by
  simp only [okG, Bool.and_eq_true, Bool.or_eq_true] at hk
  refine Tr.grow (ρ := Nat × Nat) (fun r => n + m ≤ r.2) (fun r => .slice (some ⟨r.1, 0, none⟩) (n + m) r.2) (fun r => [⟨r.1, olds ++ news, E, r.2⟩]) (hk.1.imp nbeq' nbeq') (wantS_of_guardOk hg) (dst_some (nblt hk.2))
    ⟨by simpa [Known, Op.operands, Call.operands] using known2 hx hy, fun l hl => ?_, fun a w hf hh => ?_⟩ (fun r hr => k r.1 r.2 hr)
  · obtain ⟨q, _, hq⟩ := fresh_is 0 l
    refine ⟨(q, n + m), Nat.le_refl _, ?_⟩
    simp only [List.singleton_append, List.map_cons, List.nodup_cons]
    exact ⟨fun h => by obtain ⟨b, hb, e⟩ := List.mem_map.1 h; exact hq b hb e, hl⟩
  · have h1 := hf x (by simp [Op.operands, Call.operands]); rw [hx] at h1
    have h2 := hf y (by simp [Op.operands, Call.operands]); rw [hy] at h2
    simp only [Option.some.injEq] at h1 h2
    unfold Sz at hs; unfold Zr at hz; unfold By at hb
    cases hi : C.P.info? E with
    | none => rw [hi] at hs; simp at hs
    | some i =>
      rw [hi] at hs hz hb
      simp only [Option.map_some, Option.some.injEq, Option.bind_some] at hs hz hb
      have hm : (n + m) * by' ≤ 1000000 * 64 := Nat.mul_le_mul hnm hby
      obtain ⟨v', w', hrun, ⟨_, hown⟩, hgr⟩ := run_append_arg_grows (P := C.P) w T ty E i z 1 by' hu hi hz hs hb hzc (by omega) ⟨b, o, none⟩ n cap olds (by omega) (fun j u hj => by rw [add_addr]; exact ho w hh j u hj) ⟨b2, o2, none⟩ m c2 news (by omega) (fun j u hj => by rw [add_addr]; exact hn w hh j u hj) hroom (by simp only [maxLen]; omega) (by omega)
      rcases hown with ⟨_, h0⟩ | ⟨q, cap', cur, rfl, hq, hheap, hle, _, hsz, htk⟩
      · omega
      · unfold Oper.wp
        have hex : (execOp a.eval ⟨some d, .call { callee := .builtin .append, args := #[x, y], argTypes := #[T, T] }, ty, pos, af, g⟩).run C.P w = .ok (.value (.slice (some ⟨q, 0, none⟩) (n + m) cap')) w' := by
          simp [execOp, resolve, invoke, builtin, ← h1, ← h2, hrun]
        rw [hex]
        refine ⟨(q, cap'), hle, rfl, ⟨⟨hgr.os, hgr.tape, hgr.output, hgr.size, fun k hk _ => hgr.block k hk (by simp)⟩, fun bl hbl => ?_, by simp, fun bl hbl => ?_⟩⟩
        · obtain rfl := List.mem_singleton.1 hbl
          rw [Nat.mul_one] at hsz htk
          exact ⟨cur, (0, 0), hheap, hsz, htk ▸ List.take_prefix _ _, free0⟩
        · obtain rfl := List.mem_singleton.1 hbl
          exact .inl hq

/-- a slice of no elements, built -/
theorem Tr.emptySlice {T E : TypeId} (hg : guardOk ops sl g = true) (hk : okG c d C.N = true) (hu : C.P.underlying T = some (.slice E)) (hs : Sz C.P E 1)
    (k : ∀ q, Tr C ops rest ⟨(d, .slice (some ⟨q, 0, none⟩) 0 0) :: sl, blk q [] E :: hp⟩ Q) : Tr C ops ((c, ⟨some d, .buildSlice T 0 #[], ty, pos, af, g⟩) :: rest) ⟨sl, hp⟩ Q :=
  Tr.growB (fun m => .slice (some ⟨m, 0, none⟩) 0 0) hg hk (fun x hx => by simp [Op.operands] at hx) (fun ρ hf w => by
    simp [execOp, Instr.buildSlice, run_underlying hu, run_sz hs, Instr.fill, newRow, newObj]
    simp [Sem.run]
    have e : Array.map (fun _ => (default : Value)) (Array.range 0) = #[] := Array.eq_empty_of_size_eq_zero (by simp)
    rw [e]) k
end
end Hw
