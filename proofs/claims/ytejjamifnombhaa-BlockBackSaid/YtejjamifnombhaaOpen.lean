/- Arguments opened: an array of bytes that comes in is a list of bytes. It proves no statement by itself; it has no conditions. -/
import Derived.Test.YtejjamifnombhaaSplit
import Derived.WideKeyArr2
import Derived.ProofKit
import Derived.OpenShut
import Derived.Deep.Slices
namespace Hw
open Go Go.RowKit Go.ChangeShapes Go.WideShapes
set_option linter.unusedSimpArgs false
set_option linter.unusedVariables false
section
variable {H : Type} {enc : TypeId × Value → H} {P : Program} {k e : TypeId} {n : Nat} {W : World} {base : Nat} {sp : Nat → Bool} {held : Bool}

theorem mapM_all {α β : Type} {f : α → Option β} : ∀ (L : List α) (ys : List β), L.mapM f = some ys → ∀ x ∈ L, ∃ y, f x = some y
  | [], _, _, x, hx => by simp at hx
  | a :: L, ys, h, x, hx => by
    rw [List.mapM_cons] at h
    simp only [bind, Option.bind_eq_some_iff, pure, Option.some.injEq] at h
    obtain ⟨y, hy, ys', hys, _⟩ := h
    rcases List.mem_cons.1 hx with rfl | hx
    · exact ⟨y, hy⟩
    · exact mapM_all L ys' hys x hx

theorem bytes_of : ∀ (cs : List Value), (∀ v ∈ cs, ∃ a, v = .int .u8 a ∧ (Lit.int .u8 a).wf = true) → ∃ l : List UInt8, cs = bytesV l
  | [], _ => ⟨[], rfl⟩
  | v :: cs, h => by
    obtain ⟨a, rfl, wa⟩ := h v (by simp)
    obtain ⟨l, rfl⟩ := bytes_of cs fun v hv => h v (by simp [hv])
    refine ⟨byteOf a :: l, ?_⟩
    have e : IntKind.u8.wrap a = a := by
      have := wa
      simp [Lit.wf] at this
      have m0 : IntKind.u8.min = 0 := by decide
      have m1 : IntKind.u8.max = 255 := by decide
      rw [IntKind.wrap_u8]; omega
    rw [wrap_u8] at e
    simp [bytesV, u8, e]

theorem open_bytes (hu : P.underlying k = some (.array n e)) (he : P.underlying e = some (.int .u8)) (hc : P.cellsOf e = 1) (hk : P.cellsOf k = n) {r : Reach} {b0 : Nat} {v : Value} {d : DataW H} {ps : List MemPlace}
    (hval : Value.okWide P W r b0 k v) (hd : DataW.Trod enc P W base sp held k v d ps) : ∃ l : List UInt8, v = agg (bytesV l) ∧ l.length = n := by
  simp only [Value.okWide, hu] at hval
  obtain ⟨cs, rfl, h2, _⟩ := hval
  obtain ⟨fuel, hf⟩ := hd
  cases fuel with
  | zero => simp [DataW.trod] at hf
  | succ m =>
    rw [DataW.trod_step] at hf
    unfold DataW.trodStep at hf
    simp only [hu, Value.cells] at hf
    rw [if_pos (by rw [hk]; rw [hk] at h2; simpa using h2)] at hf
    simp only [Option.map_eq_some_iff] at hf
    obtain ⟨ys, hy, e1⟩ := hf
    have hall := mapM_all _ _ hy
    obtain ⟨l, hl⟩ := bytes_of cs.toList fun v hv => by
      obtain ⟨i, hi, rfl⟩ := List.mem_iff_getElem.1 hv
      obtain ⟨y, hy⟩ := hall i (by rw [hk] at h2; simp at hi ⊢; omega)
      rw [hc] at hy
      obtain ⟨a, ea, _, wa⟩ := DataW.trod_int he hy
      refine ⟨a, ?_, wa⟩
      rw [Nat.mul_one, List.drop_eq_getElem_cons hi] at ea
      simpa using ea
    refine ⟨l, ?_, ?_⟩
    · rw [← hl]
    · have := congrArg List.length hl
      rw [hk] at h2
      simp at this
      omega

theorem list_of_cells (w : World) (b o : Nat) : ∀ n : Nat, (∀ i, i < n → ∃ a, w.cell? ⟨b, o + i, none⟩ = some (.int .u8 a) ∧ (Lit.int .u8 a).wf = true) → ∃ l : List UInt8, l.length = n ∧ Sees w b o (bytesV l)
  | 0, _ => ⟨[], rfl, fun j v hj => by simp [bytesV] at hj⟩
  | n + 1, h => by
    obtain ⟨l, hl, hs⟩ := list_of_cells w b o n fun i hi => h i (by omega)
    obtain ⟨a, ha, wa⟩ := h n (by omega)
    refine ⟨l ++ [byteOf a], by simp [hl], fun j v hj => ?_⟩
    have e : IntKind.u8.wrap a = a := by
      simp [Lit.wf] at wa
      have m0 : IntKind.u8.min = 0 := by decide
      have m1 : IntKind.u8.max = 255 := by decide
      rw [IntKind.wrap_u8]; omega
    rw [wrap_u8] at e
    simp only [bytesV, List.map_append, List.map_cons, List.map_nil] at hj
    rcases Nat.lt_or_ge j n with h1 | h1
    · rw [List.getElem?_append_left (by simp [hl]; exact h1)] at hj
      exact hs j v hj
    · rw [List.getElem?_append_right (by simp [hl]; exact h1)] at hj
      simp only [List.length_map, hl] at hj
      by_cases hjn : j = n
      · subst hjn
        rw [Nat.sub_self] at hj
        simp only [List.getElem?_cons_zero, Option.some.injEq] at hj
        rw [ha, ← hj]
        simp [u8, e]
      · rw [List.getElem?_eq_none (by simp; omega)] at hj; cases hj

/-- an argument that is a row of bytes: nil, or cells that read so -/
def RowArg (W : World) (v : Value) (l : List UInt8) : Prop := (v = .slice none 0 0 ∧ l = []) ∨ ∃ b o c, v = .slice (some ⟨b, o, none⟩) l.length c ∧ l.length ≤ c ∧ Sees W b o (bytesV l)

theorem open_row8 (hu : P.underlying k = some (.slice e)) (he : P.underlying e = some (.int .u8)) (hc : P.cellsOf e = 1) {r : Reach} {b0 : Nat} {v : Value} {d : DataW H} {ps : List MemPlace}
    (hval : Value.okWide P W r b0 k v) (hd : DataW.Trod enc P W base sp held k v d ps) : ∃ l : List UInt8, RowArg W v l := by
  simp only [Value.okWide, hu, Cell.okWide] at hval
  obtain ⟨a1, len, cap, rfl⟩ : ∃ a1 len cap, v = .slice a1 len cap := by
    unfold Cell.ok at hval
    rw [hu] at hval
    split at hval <;> first | exact hval.elim | exact ⟨_, _, _, rfl⟩ | simp_all
  obtain ⟨fuel, hf⟩ := hd
  rcases Go.Deep.open_slice1 hu hc hf with ⟨hcs, _⟩ | ⟨a, len', cap', m, n, V, D, Pl, hcs, _, hl, _, hm, _, hx⟩
  · simp [Value.cells] at hcs
    obtain ⟨rfl, rfl, rfl⟩ := hcs
    exact ⟨[], .inl ⟨rfl, rfl⟩⟩
  · simp [Value.cells] at hcs
    obtain ⟨rfl, rfl, rfl⟩ := hcs
    obtain ⟨b, o, s⟩ := a
    obtain rfl : s = none := by
      unfold Cell.ok at hval
      simp only [hu] at hval
      exact hval.2.2.2.1
    obtain ⟨l, hlen, hs⟩ := list_of_cells W b o len fun i hi => by
      have hlm : i < m := by
        subst hm; split <;> omega
      obtain ⟨h1, h2⟩ := hx i hlm
      obtain ⟨a, ea, _, wa⟩ := DataW.trod_int he h2
      simp only [List.cons.injEq, and_true] at ea
      rw [add_addr] at h1
      exact ⟨a, by rw [h1, ea], wa⟩
    exact ⟨l, .inr ⟨b, o, cap, by rw [hlen], by omega, hs⟩⟩

/-! ### parts of a value, read -/

theorem u64_back {a : Int} (h : (Lit.int .u64 a).wf = true) : ∃ x : UInt64, a = (x.toNat : Int) := by
  simp [Lit.wf] at h
  have m0 : IntKind.u64.min = 0 := by decide
  have m1 : IntKind.u64.max = 18446744073709551615 := by decide
  rw [m0, m1] at h
  refine ⟨UInt64.ofNat a.toNat, ?_⟩
  rw [UInt64.toNat_ofNat']
  omega
theorem u32_back {a : Int} (h : (Lit.int .u32 a).wf = true) : ∃ x : UInt32, a = (x.toNat : Int) := by
  simp [Lit.wf] at h
  have m0 : IntKind.u32.min = 0 := by decide
  have m1 : IntKind.u32.max = 4294967295 := by decide
  rw [m0, m1] at h
  refine ⟨UInt32.ofNat a.toNat, ?_⟩
  rw [UInt32.toNat_ofNat']
  omega
theorem u8_back {a : Int} (h : (Lit.int .u8 a).wf = true) : ∃ x : UInt8, a = (x.toNat : Int) := by
  simp [Lit.wf] at h
  have m0 : IntKind.u8.min = 0 := by decide
  have m1 : IntKind.u8.max = 255 := by decide
  rw [m0, m1] at h
  refine ⟨UInt8.ofNat a.toNat, ?_⟩
  rw [UInt8.toNat_ofNat']
  omega

theorem cat {cs seg rest : List Value} {o n : Nat} (o' : Nat) (h : (cs.drop o).take n = seg) (ho : o + n = o') (hr : cs.drop o' = rest) : cs.drop o = seg ++ rest := by
  subst ho
  rw [← h, ← hr, ← List.drop_drop, List.take_append_drop]
theorem cat_last {cs seg : List Value} {o n : Nat} (h : (cs.drop o).take n = seg) (hl : cs.length = o + n) : cs.drop o = seg := by
  rw [← h, List.take_of_length_le (by rw [List.length_drop]; omega)]

theorem open_bytesT (hu : P.underlying k = some (.array n e)) (he : P.underlying e = some (.int .u8)) (hc : P.cellsOf e = 1) (hk : P.cellsOf k = n) {fuel : Nat} {cs : List Value} {y : DataW H × List MemPlace}
    (h : DataW.trod enc P W base sp held fuel k cs = some y) : ∃ l : List UInt8, cs = bytesV l ∧ l.length = n := by
  cases fuel with
  | zero => simp [DataW.trod] at h
  | succ m =>
    rw [DataW.trod_step] at h
    unfold DataW.trodStep at h
    simp only [hu] at h
    by_cases hl : cs.length = P.cellsOf k
    · rw [if_pos hl] at h
      simp only [Option.map_eq_some_iff] at h
      obtain ⟨ys, hy, e1⟩ := h
      have hall := mapM_all _ _ hy
      obtain ⟨l, rfl⟩ := bytes_of cs fun v hv => by
        obtain ⟨i, hi, rfl⟩ := List.mem_iff_getElem.1 hv
        obtain ⟨y, hy⟩ := hall i (by rw [hk] at hl; simp; omega)
        rw [hc] at hy
        obtain ⟨a, ea, _, wa⟩ := DataW.trod_int he hy
        refine ⟨a, ?_, wa⟩
        rw [Nat.mul_one, List.drop_eq_getElem_cons hi] at ea
        simp only [List.take_succ_cons, List.take_zero, List.cons.injEq, and_true] at ea
        exact ea
      exact ⟨l, rfl, by rw [hk] at hl; simpa [bytesV] using hl⟩
    · rw [if_neg hl] at h; cases h

/-- a slice of bytes, and what is there -/
structure BytesAt (W : World) (s : Sl) (l : List UInt8) : Prop where
  len : l.length = s.n
  cap : s.n ≤ s.c
  see : SeesP W s.p (bytesV l)
  max : s.n ≤ maxLen
  nil : s.p = none → s.c = 0

/-- a slice of rows of m bytes each, and what is there -/
structure RowsAt (W : World) (s : Sl) (m : Nat) (ls : List (List UInt8)) : Prop where
  len : ls.length = s.n
  row : ∀ l ∈ ls, l.length = m
  cap : s.n ≤ s.c
  see : SeesP W s.p (ls.map bytesV).flatten
  max : s.n ≤ maxLen
  nil : s.p = none → s.c = 0

theorem rows_flat : ∀ (m : Nat) (ls : List (List UInt8)), (∀ l ∈ ls, l.length = m) → ∀ (j : Nat) (v : Value), (ls.map bytesV).flatten[j]? = some v → 0 < m ∧ ∃ l, ls[j / m]? = some l ∧ (bytesV l)[j % m]? = some v
  | m, [], _, j, v, h => by simp at h
  | m, l :: ls, hl, j, v, h => by
    have h0 := hl l (by simp)
    have lb : (bytesV l).length = m := by simp [bytesV, h0]
    rw [List.map_cons, List.flatten_cons] at h
    rcases Nat.lt_or_ge j m with hj | hj
    · rw [List.getElem?_append_left (by omega)] at h
      exact ⟨by omega, l, by rw [Nat.div_eq_of_lt hj]; rfl, by rw [Nat.mod_eq_of_lt hj]; exact h⟩
    · rw [List.getElem?_append_right (by omega), lb] at h
      obtain ⟨hm, l', h1, h2⟩ := rows_flat m ls (fun x hx => hl x (by simp [hx])) (j - m) v h
      obtain ⟨i, rfl⟩ : ∃ i, j = i + m := ⟨j - m, by omega⟩
      rw [Nat.add_sub_cancel] at h1 h2
      exact ⟨hm, l', by rw [Nat.add_div_right _ hm, List.getElem?_cons_succ]; exact h1, by rw [Nat.add_mod_right]; exact h2⟩

theorem open_sliceT {t : TypeId} (hu : P.underlying t = some (.slice e)) {fuel : Nat} {cs : List Value} {y : DataW H × List MemPlace} (h : DataW.trod enc P W base sp held fuel t cs = some y) : ∃ s : Sl, cs = [s.v] ∧ s.n ≤ s.c ∧ s.c ≤ maxLen ∧ (s.p = none → s.c = 0) ∧
    ∀ i, i < s.n → ∃ a, s.p = some a ∧ ∃ cs' n y', W.cells? base (a.add (i * P.cellsOf e)) (P.cellsOf e) = some cs' ∧ DataW.trod enc P W base sp held n e cs' = some y' := by
  rcases Go.Deep.open_slice hu h with ⟨rfl, _⟩ | ⟨a, len, cap, m, n, D, Pl, rfl, _, hl, hm, hmm, _, hx⟩
  · exact ⟨⟨none, 0, 0⟩, rfl, Nat.le_refl _, by simp [maxLen], fun _ => rfl, fun i hi => by simp at hi⟩
  · refine ⟨⟨some a, len, cap⟩, rfl, hl, hm, (fun e => by cases e), fun i hi => ?_⟩
    obtain ⟨cs', h1, h2⟩ := hx i (by subst hmm; simp only at hi; split <;> omega)
    exact ⟨a, rfl, cs', n, _, h1, h2⟩

theorem cells_at {a : Addr} {n : Nat} {cs : List Value} (h : W.cells? base a n = some cs) : cs.length = n ∧ ∀ (j : Nat) (v : Value), cs[j]? = some v → W.cell? (a.add j) = some v := by
  obtain ⟨h1, h2, h3⟩ := World.cells?_some h
  refine ⟨h2, fun j v hj => ?_⟩
  have hjn : j < n := by rw [← h2]; exact (List.getElem?_eq_some_iff.1 hj).1
  have := h3 j hjn
  rw [this]; exact hj

theorem open_bytesS {t : TypeId} (hu : P.underlying t = some (.slice e)) (he : P.underlying e = some (.int .u8)) (hc : P.cellsOf e = 1) {fuel : Nat} {cs : List Value} {y : DataW H × List MemPlace} (h : DataW.trod enc P W base sp held fuel t cs = some y) :
    ∃ s l, cs = [s.v] ∧ BytesAt W s l := by
  obtain ⟨s, rfl, h1, h2, h3, hx⟩ := open_sliceT hu h
  by_cases h0 : s.n = 0
  · exact ⟨s, [], rfl, by simp [h0], h1, SeesP.nil, Nat.le_trans h1 h2, h3⟩
  · obtain ⟨⟨b, o, sp'⟩, hp, _⟩ := hx 0 (by omega)
    have hx' : ∀ i, i < s.n → ∃ v, W.cell? ((⟨b, o, sp'⟩ : Addr).add i) = some v ∧ ∃ a, v = .int .u8 a ∧ (Lit.int .u8 a).wf = true := fun i hi => by
      obtain ⟨a', hp', cs', n, y', hcs, ht⟩ := hx i hi
      rw [hp] at hp'
      obtain rfl : a' = ⟨b, o, sp'⟩ := by injection hp'.symm
      rw [hc, Nat.mul_one] at hcs
      obtain ⟨a, ea, _, wa⟩ := DataW.trod_int he ht
      subst ea
      have h9 := (cells_at hcs).2 0 _ rfl
      have e0 : ∀ x : Addr, x.add 0 = x := fun x => by simp [Addr.add]
      rw [e0] at h9
      exact ⟨_, h9, a, rfl, wa⟩
    obtain rfl : sp' = none := by
      obtain ⟨v, hv, _⟩ := hx' 0 (by omega)
      simpa [Addr.add] using World.cell?_spot hv
    obtain ⟨l, hl, hs⟩ := list_of_cells W b o s.n fun i hi => by
      obtain ⟨v, hv, a, rfl, wa⟩ := hx' i hi
      rw [add_addr] at hv
      exact ⟨a, hv, wa⟩
    exact ⟨s, l, rfl, hl, h1, by rw [hp]; exact SeesP.of hs, Nat.le_trans h1 h2, h3⟩

theorem rows_of_cells (W : World) (b o m : Nat) : ∀ n : Nat, (∀ i, i < n → ∃ l : List UInt8, l.length = m ∧ Sees W b (o + i * m) (bytesV l)) → ∃ ls : List (List UInt8), ls.length = n ∧ (∀ l ∈ ls, l.length = m) ∧ Sees W b o (ls.map bytesV).flatten
  | 0, _ => ⟨[], rfl, by simp, fun j v hj => by simp at hj⟩
  | n + 1, h => by
    obtain ⟨ls, h1, h2, h3⟩ := rows_of_cells W b o m n fun i hi => h i (by omega)
    obtain ⟨l, hl, hs⟩ := h n (by omega)
    have hfl : (ls.map bytesV).flatten.length = n * m := by
      rw [← h1]
      clear h3 h1 h
      induction ls with
      | nil => simp
      | cons x xs ih => rw [List.map_cons, List.flatten_cons, List.length_append, ih (fun y hy => h2 y (by simp [hy])), List.length_cons, Nat.add_mul]; simp [bytesV, h2 x (by simp)]; omega
    refine ⟨ls ++ [l], by simp [h1], fun x hx => ?_, fun j v hj => ?_⟩
    · rcases List.mem_append.1 hx with hx | hx
      · exact h2 x hx
      · obtain rfl := List.mem_singleton.1 hx; exact hl
    · rw [List.map_append, List.flatten_append] at hj
      rcases Nat.lt_or_ge j (n * m) with h4 | h4
      · rw [List.getElem?_append_left (by omega)] at hj
        exact h3 j v hj
      · rw [List.getElem?_append_right (by omega), hfl] at hj
        have := hs (j - n * m) v (by simpa using hj)
        rw [show o + n * m + (j - n * m) = o + j by omega] at this
        exact this

theorem open_rowsS {t : TypeId} {e8 : TypeId} {m : Nat} (hu : P.underlying t = some (.slice e)) (he : P.underlying e = some (.array m e8)) (he8 : P.underlying e8 = some (.int .u8)) (hc8 : P.cellsOf e8 = 1) (hc : P.cellsOf e = m) (hm : 0 < m) {fuel : Nat} {cs : List Value} {y : DataW H × List MemPlace}
    (h : DataW.trod enc P W base sp held fuel t cs = some y) : ∃ s ls, cs = [s.v] ∧ RowsAt W s m ls := by
  obtain ⟨s, rfl, h1, h2, h3, hx⟩ := open_sliceT hu h
  by_cases h0 : s.n = 0
  · exact ⟨s, [], rfl, by simp [h0], by simp, h1, SeesP.nil, Nat.le_trans h1 h2, h3⟩
  · obtain ⟨⟨b, o, sp'⟩, hp, _⟩ := hx 0 (by omega)
    have hx' : ∀ i, i < s.n → ∃ l : List UInt8, l.length = m ∧ ∀ (j : Nat) (v : Value), (bytesV l)[j]? = some v → W.cell? (((⟨b, o, sp'⟩ : Addr).add (i * m)).add j) = some v := fun i hi => by
      obtain ⟨a', hp', cs', n, y', hcs, ht⟩ := hx i hi
      rw [hp] at hp'
      obtain rfl : a' = ⟨b, o, sp'⟩ := by injection hp'.symm
      rw [hc] at hcs
      obtain ⟨l, rfl, hl⟩ := open_bytesT he he8 hc8 hc ht
      exact ⟨l, hl, (cells_at hcs).2⟩
    obtain rfl : sp' = none := by
      obtain ⟨l, hl, hv⟩ := hx' 0 (by omega)
      have := hv 0 (u8 (l.getD 0 0)) (get_bytes (by omega))
      simpa [Addr.add] using World.cell?_spot this
    obtain ⟨ls, e1, e2, e3⟩ := rows_of_cells W b o m s.n fun i hi => by
      obtain ⟨l, hl, hv⟩ := hx' i hi
      refine ⟨l, hl, fun j v hj => ?_⟩
      have := hv j v hj
      rwa [add_addr, add_addr] at this
    exact ⟨s, ls, rfl, e1, e2, h1, by rw [hp]; exact SeesP.of e3, Nat.le_trans h1 h2, h3⟩
end
end Hw
