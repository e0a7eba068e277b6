/- Arguments opened: an array of bytes that comes in is a list of bytes. It proves no statement by itself; it has no conditions. -/
import Derived.Test.YtjeggfgbcafenaaOps
import Derived.WideKeyArr2
import Derived.ProofKit
import Derived.OpenShut
import Derived.Deep.Slices
namespace Hw
open Go Go.RowKit Go.ChangeShapes Go.WideShapes
set_option linter.unusedSimpArgs false
set_option linter.unusedVariables false
section
variable {H : Type} {enc : TypeId × Value → H} {P : Program} {k e : TypeId} {n : Nat} {W : World} {base : Nat} {sp : Nat → Bool} {held : Bool}

theorem mapM_all {α β : Type} {f : α → Option β} : ∀ (L : List α) (ys : List β), L.mapM f = some ys → ∀ x ∈ L, ∃ y, f x = some y
  | [], _, _, x, hx => by simp at hx
  | a :: L, ys, h, x, hx => by
    rw [List.mapM_cons] at h
    simp only [bind, Option.bind_eq_some_iff, pure, Option.some.injEq] at h
    obtain ⟨y, hy, ys', hys, _⟩ := h
    rcases List.mem_cons.1 hx with rfl | hx
    · exact ⟨y, hy⟩
    · exact mapM_all L ys' hys x hx

theorem bytes_of : ∀ (cs : List Value), (∀ v ∈ cs, ∃ a, v = .int .u8 a ∧ (Lit.int .u8 a).wf = true) → ∃ l : List UInt8, cs = bytesV l
  | [], _ => ⟨[], rfl⟩
  | v :: cs, h => by
    obtain ⟨a, rfl, wa⟩ := h v (by simp)
    obtain ⟨l, rfl⟩ := bytes_of cs fun v hv => h v (by simp [hv])
    refine ⟨byteOf a :: l, ?_⟩
    have e : IntKind.u8.wrap a = a := by
      have := wa
      simp [Lit.wf] at this
      have m0 : IntKind.u8.min = 0 := by decide
      have m1 : IntKind.u8.max = 255 := by decide
      rw [IntKind.wrap_u8]; omega
    rw [wrap_u8] at e
    simp [bytesV, u8, e]

theorem open_bytes (hu : P.underlying k = some (.array n e)) (he : P.underlying e = some (.int .u8)) (hc : P.cellsOf e = 1) (hk : P.cellsOf k = n) {r : Reach} {b0 : Nat} {v : Value} {d : DataW H} {ps : List MemPlace}
    (hval : Value.okWide P W r b0 k v) (hd : DataW.Trod enc P W base sp held k v d ps) : ∃ l : List UInt8, v = agg (bytesV l) ∧ l.length = n := by
  simp only [Value.okWide, hu] at hval
  obtain ⟨cs, rfl, h2, _⟩ := hval
  obtain ⟨fuel, hf⟩ := hd
  cases fuel with
  | zero => simp [DataW.trod] at hf
  | succ m =>
    rw [DataW.trod_step] at hf
    unfold DataW.trodStep at hf
    simp only [hu, Value.cells] at hf
    rw [if_pos (by rw [hk]; rw [hk] at h2; simpa using h2)] at hf
    simp only [Option.map_eq_some_iff] at hf
    obtain ⟨ys, hy, e1⟩ := hf
    have hall := mapM_all _ _ hy
    obtain ⟨l, hl⟩ := bytes_of cs.toList fun v hv => by
      obtain ⟨i, hi, rfl⟩ := List.mem_iff_getElem.1 hv
      obtain ⟨y, hy⟩ := hall i (by rw [hk] at h2; simp at hi ⊢; omega)
      rw [hc] at hy
      obtain ⟨a, ea, _, wa⟩ := DataW.trod_int he hy
      refine ⟨a, ?_, wa⟩
      rw [Nat.mul_one, List.drop_eq_getElem_cons hi] at ea
      simpa using ea
    refine ⟨l, ?_, ?_⟩
    · rw [← hl]
    · have := congrArg List.length hl
      rw [hk] at h2
      simp at this
      omega

theorem list_of_cells (w : World) (b o : Nat) : ∀ n : Nat, (∀ i, i < n → ∃ a, w.cell? ⟨b, o + i, none⟩ = some (.int .u8 a) ∧ (Lit.int .u8 a).wf = true) → ∃ l : List UInt8, l.length = n ∧ Sees w b o (bytesV l)
  | 0, _ => ⟨[], rfl, fun j v hj => by simp [bytesV] at hj⟩
  | n + 1, h => by
    obtain ⟨l, hl, hs⟩ := list_of_cells w b o n fun i hi => h i (by omega)
    obtain ⟨a, ha, wa⟩ := h n (by omega)
    refine ⟨l ++ [byteOf a], by simp [hl], fun j v hj => ?_⟩
    have e : IntKind.u8.wrap a = a := by
      simp [Lit.wf] at wa
      have m0 : IntKind.u8.min = 0 := by decide
      have m1 : IntKind.u8.max = 255 := by decide
      rw [IntKind.wrap_u8]; omega
    rw [wrap_u8] at e
    simp only [bytesV, List.map_append, List.map_cons, List.map_nil] at hj
    rcases Nat.lt_or_ge j n with h1 | h1
    · rw [List.getElem?_append_left (by simp [hl]; exact h1)] at hj
      exact hs j v hj
    · rw [List.getElem?_append_right (by simp [hl]; exact h1)] at hj
      simp only [List.length_map, hl] at hj
      by_cases hjn : j = n
      · subst hjn
        rw [Nat.sub_self] at hj
        simp only [List.getElem?_cons_zero, Option.some.injEq] at hj
        rw [ha, ← hj]
        simp [u8, e]
      · rw [List.getElem?_eq_none (by simp; omega)] at hj; cases hj

/-- an argument that is a row of bytes: nil, or cells that read so -/
def RowArg (W : World) (v : Value) (l : List UInt8) : Prop := (v = .slice none 0 0 ∧ l = []) ∨ ∃ b o c, v = .slice (some ⟨b, o, none⟩) l.length c ∧ l.length ≤ c ∧ Sees W b o (bytesV l)

theorem open_row8 (hu : P.underlying k = some (.slice e)) (he : P.underlying e = some (.int .u8)) (hc : P.cellsOf e = 1) {r : Reach} {b0 : Nat} {v : Value} {d : DataW H} {ps : List MemPlace}
    (hval : Value.okWide P W r b0 k v) (hd : DataW.Trod enc P W base sp held k v d ps) : ∃ l : List UInt8, RowArg W v l := by
  simp only [Value.okWide, hu, Cell.okWide] at hval
  obtain ⟨a1, len, cap, rfl⟩ : ∃ a1 len cap, v = .slice a1 len cap := by
    unfold Cell.ok at hval
    rw [hu] at hval
    split at hval <;> first | exact hval.elim | exact ⟨_, _, _, rfl⟩ | simp_all
  obtain ⟨fuel, hf⟩ := hd
  rcases Go.Deep.open_slice1 hu hc hf with ⟨hcs, _⟩ | ⟨a, len', cap', m, n, V, D, Pl, hcs, _, hl, _, hm, _, hx⟩
  · simp [Value.cells] at hcs
    obtain ⟨rfl, rfl, rfl⟩ := hcs
    exact ⟨[], .inl ⟨rfl, rfl⟩⟩
  · simp [Value.cells] at hcs
    obtain ⟨rfl, rfl, rfl⟩ := hcs
    obtain ⟨b, o, s⟩ := a
    obtain rfl : s = none := by
      unfold Cell.ok at hval
      simp only [hu] at hval
      exact hval.2.2.2.1
    obtain ⟨l, hlen, hs⟩ := list_of_cells W b o len fun i hi => by
      have hlm : i < m := by
        subst hm; split <;> omega
      obtain ⟨h1, h2⟩ := hx i hlm
      obtain ⟨a, ea, _, wa⟩ := DataW.trod_int he h2
      simp only [List.cons.injEq, and_true] at ea
      rw [add_addr] at h1
      exact ⟨a, by rw [h1, ea], wa⟩
    exact ⟨l, .inr ⟨b, o, cap, by rw [hlen], by omega, hs⟩⟩
end
end Hw
