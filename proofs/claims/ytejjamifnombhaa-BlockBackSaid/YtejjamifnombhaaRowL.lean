/- Rows of elements of many cells: built, appended, cut, read. It proves no statement by itself; it has no conditions. -/
import Derived.Test.YtejjamifnombhaaOpen
namespace Hw
open Go Go.RowKit
set_option linter.unusedSimpArgs false
set_option linter.unusedVariables false

/-! ### a row built of its elements -/

theorem fold_put (off : Nat) : ∀ (l : List Value) (s : Nat) (cells : Array Value), (l.zipIdx s).foldl (fun cs (p : Value × Nat) => cs.setIfInBounds (off + p.2) p.1) cells = putAll cells (off + s) l
  | [], _, _ => rfl
  | v :: l, s, cells => by
    rw [List.zipIdx_cons, List.foldl_cons, putAll, fold_put off l (s + 1)]
    rfl

theorem fill_seq (size : Nat) : ∀ (vals : List Value) (i : Nat) (cells : Array Value), (∀ v ∈ vals, v.cells.size = size) → (i + vals.length) * size ≤ cells.size →
    Instr.fill (fun i => some (i * size, size)) cells ((vals.zipIdx i).map fun p => (p.2, p.1)) = some (putAll cells (i * size) (vals.map fun v => v.cells.toList).flatten)
  | [], i, cells, _, _ => by simp [Instr.fill, putAll]
  | v :: vals, i, cells, hv, hl => by
    have h0 := hv v (by simp)
    have h1 : (i + 1 + vals.length) * size ≤ cells.size := by
      rw [List.length_cons, show i + (vals.length + 1) = i + 1 + vals.length by omega] at hl; exact hl
    have h2 : (i + 1) * size ≤ cells.size := Nat.le_trans (Nat.mul_le_mul_right _ (by omega)) h1
    rw [Nat.add_mul, Nat.one_mul] at h2
    have hf : (v.cells.zipIdx.foldl (fun cs (p : Value × Nat) => cs.setIfInBounds (i * size + p.2) p.1) cells) = putAll cells (i * size) v.cells.toList := by
      rw [← Array.foldl_toList, Array.toList_zipIdx]
      exact fold_put (i * size) v.cells.toList 0 cells
    rw [List.zipIdx_cons, List.map_cons, Instr.fill]
    simp only [h0]
    rw [if_neg (by simp; omega)]
    rw [show (v.cells.zipIdx.foldl (fun cs (x : Value × Nat) => match x with | (c, j) => cs.setIfInBounds (i * size + j) c) cells) = putAll cells (i * size) v.cells.toList from hf]
    rw [fill_seq size vals (i + 1) _ (fun x hx => hv x (by simp [hx])) (by rw [putAll_size]; exact h1), List.map_cons, List.flatten_cons]
    congr 1
    have app : ∀ (a b : List Value) (c : Array Value) (k : Nat), putAll c k (a ++ b) = putAll (putAll c k a) (k + a.length) b := by
      intro a
      induction a with
      | nil => intro b c k; rfl
      | cons x a ih => intro b c k; rw [List.cons_append, putAll, putAll, ih, List.length_cons]; congr 1; omega
    rw [app, Array.length_toList, h0, Nat.add_mul, Nat.one_mul]

theorem putAll_all (cells : Array Value) (vs : List Value) (h : vs.length = cells.size) : putAll cells 0 vs = vs.toArray := by
  apply Array.ext_getElem?
  intro j
  rw [putAll_get _ _ _ _ (by omega)]
  by_cases hj : j < vs.length
  · rw [if_pos (by omega)]; simp
  · rw [if_neg (by omega), Array.getElem?_eq_none (by omega)]; simp; omega

theorem flat_length {size : Nat} : ∀ (vals : List Value), (∀ v ∈ vals, v.cells.size = size) → (vals.map fun v => v.cells.toList).flatten.length = vals.length * size
  | [], _ => by simp
  | v :: vals, h => by
    rw [List.map_cons, List.flatten_cons, List.length_append, flat_length vals fun x hx => h x (by simp [hx]), Array.length_toList, h v (by simp), List.length_cons, Nat.add_mul]; omega

section
variable {C : Cx} {ops : Array Oper} {rest : List (Nat × Oper)} {sl : List (Nat × Value)} {hp hp' : List Blk} {Q : St → Prop} {c d : Nat} {ty : TypeId} {pos : String} {af : Array Edge} {g : Option (Nat × Bool)}

theorem Tr.mkRow {T E : TypeId} {len size : Nat} {ps : List (Nat × Operand)} {vs : List (Nat × Value)} {z : Value} (vals : List Value) (cs : List Value) (hg : guardOk ops sl g = true) (hk : okG c d C.N = true) (hv : evp sl ps = some vs)
    (hu : C.P.underlying T = some (.slice E)) (hs : Sz C.P E size) (hz : Zr C.P E z) (hvs : vs = (vals.zipIdx 0).map fun p => (p.2, p.1)) (hlen : vals.length = len) (hsz : ∀ v ∈ vals, v.cells.size = size) (hbig : len * size ≤ 16777216) (hcs : (vals.map fun v => v.cells.toList).flatten = cs)
    (k : ∀ q, Tr C ops rest ⟨(d, .slice (some ⟨q, 0, none⟩) len len) :: sl, blk q cs E :: hp⟩ Q) : Tr C ops ((c, ⟨some d, .buildSlice T len ps.toArray, ty, pos, af, g⟩) :: rest) ⟨sl, hp⟩ Q :=
  Tr.growB (fun m => .slice (some ⟨m, 0, none⟩) len len) hg hk (fun x hx => by
    simp [Op.operands] at hx
    obtain ⟨i, hm⟩ := hx
    exact evp_known hv _ hm) (fun ρ hf w => by
    have h2 := evp_map hv fun p hp => hf p.2 (by simp [Op.operands]; exact ⟨p.1, hp⟩)
    have e : (ps.toArray.map fun (i, x) => (i, ρ x)) = vs.toArray := by
      rw [← h2]; simp
    have rs := run_sz hs
    unfold Zr at hz
    unfold Sz at hs
    cases hi : C.P.info? E with
    | none => rw [hi] at hs; simp at hs
    | some i =>
      rw [hi] at hz
      simp only [Option.bind_some] at hz
      have hfl := flat_length vals hsz
      have hnb : ¬ (16777216 < len * size) := by omega
      have hrun : (Instr.buildSlice T len vs.toArray).run C.P w = .ok (.slice (some ⟨w.heap.size, 0, none⟩) len len) { w with heap := w.heap.push (.cells cs.toArray E) } := by
        subst hcs
        subst hlen
        by_cases h0 : vals.length * size = 0
        · simp only [Instr.buildSlice, Sem.run_bind, run_underlying hu, Result.andThen_ok, rs]
          rw [hvs]
          have := fill_seq size vals 0 #[] hsz (by simp [h0])
          have hnil : (vals.map fun v => v.cells.toList).flatten = [] := List.eq_nil_of_length_eq_zero (by rw [hfl]; exact h0)
          rw [hnil] at this ⊢
          have e0 : Array.map (fun _ => (default : Value)) (Array.range 0) = #[] := Array.eq_empty_of_size_eq_zero (by simp)
          simp [h0, newRow, newObj, e0, this, putAll]
          simp [Sem.run]
        · simp only [Instr.buildSlice, Sem.run_bind, run_underlying hu, Result.andThen_ok, rs]
          rw [hvs]
          have := fill_seq size vals 0 ((Array.range (vals.length * size)).map (z.cells[· % z.cells.size]!)) hsz (by simp)
          rw [Nat.zero_mul, putAll_all _ _ (by simp [hfl])] at this
          simp [h0, hnb, typeInfo, zeroValue, hi, hz, this, newRow, newObj]
          simp [Sem.run]
      simp only [execOp, Sem.run_bind, e, hrun, Result.andThen]
      rfl) k

/-! ### appending what an address that may be nil leads to -/

theorem Src.ofP {w : World} {size : Nat} {tx e' : TypeId} {p : Option Addr} {n cp : Nat} {news : List Value} (hk : C.P.underlying tx = some (.slice e')) (hs : SeesP w p news) (hn : p = none → n = 0) (hl : news.length = n * size) (h1 : ∀ u ∈ news, isCell u = true) : Src C.P size tx (.slice p n cp) n news w := by
  cases p with
  | none =>
    have := hn rfl
    subst this
    have : news = [] := List.eq_nil_of_length_eq_zero (by rw [hl]; simp)
    subst this
    exact Src.ofNil w hk cp
  | some a =>
    refine Src.ofSlice w hk a n cp news hl (fun j u hj => ?_) fun u hu => one_of_cell (h1 u hu)
    obtain ⟨b, o, e, hc⟩ := hs j u hj
    simp only [Option.some.injEq] at e
    subst e
    rw [add_addr]; exact hc

theorem Tr.appendSl {x y : Operand} {b n cap m size cm by' c2 : Nat} {T tx E E2 : TypeId} {z : Value} {olds : List Value} {p : Option Addr} (news : List Value) (hg : guardOk ops sl g = true) (hc : Nat.beq c 4 = true) (hd : Nat.blt d C.N = true)
    (hx : evIn sl x = some (.slice (some ⟨b, 0, none⟩) n cap)) (hy : evIn sl y = some (.slice p m c2)) (hu : C.P.underlying T = some (.slice E)) (hut : C.P.underlying tx = some (.slice E2)) (hs : Sz C.P E size) (hz : Zr C.P E z) (hb : By C.P E by') (hzc : z.cells.size = size)
    (hsee : ∀ w, HRep C hp w → SeesP w p news) (hpn : p = none → m = 0) (hcell : ∀ u ∈ news, isCell u = true)
    (hp1 : hp.Perm (⟨b, olds, E, cm⟩ :: hp')) (hcm : cm = cap * size) (hol : olds.length = n * size) (hnc : n ≤ cap) (hbig : n + m ≤ 1000000) (hfit : (n + m) * by' ≤ 140737488355328)
    (hnl : news.length = m * size)
    (k : ∀ q cap', n + m ≤ cap' → Tr C ops rest ⟨(d, .slice (some ⟨q, 0, none⟩) (n + m) cap') :: sl, ⟨q, olds ++ news, E, cap' * size⟩ :: hp'⟩ Q) :
    Tr C ops ((c, ⟨some d, .call { callee := .builtin .append, args := #[x, y], argTypes := #[T, tx] }, ty, pos, af, g⟩) :: rest) ⟨sl, hp⟩ Q :=
  .appendOwn hg hc hd hx hy hu hs hz hb hzc (fun w hh => Src.ofP hut (hsee w hh) hpn hnl hcell) hcell hp1 hcm hol hnc hbig hfit hnl k

/-- one element or more, appended to nil -/
theorem Tr.appendToNil {x y : Operand} {m size by' c2 : Nat} {T tx E E2 : TypeId} {z : Value} {p : Option Addr} (news : List Value) (hg : guardOk ops sl g = true) (hk : okG c d C.N = true)
    (hx : evIn sl x = some (.slice none 0 0)) (hy : evIn sl y = some (.slice p m c2)) (hu : C.P.underlying T = some (.slice E)) (hut : C.P.underlying tx = some (.slice E2)) (hs : Sz C.P E size) (hz : Zr C.P E z) (hb : By C.P E by') (hzc : z.cells.size = size)
    (hsee : ∀ w, HRep C hp w → SeesP w p news) (hm : 0 < m) (hpn : p = none → m = 0) (hcell : ∀ u ∈ news, isCell u = true) (hbig : m ≤ 1000000) (hfit : m * by' ≤ 140737488355328) (hnl : news.length = m * size)
    (k : ∀ q cap', m ≤ cap' → Tr C ops rest ⟨(d, .slice (some ⟨q, 0, none⟩) m cap') :: sl, ⟨q, news, E, cap' * size⟩ :: hp⟩ Q) :
    Tr C ops ((c, ⟨some d, .call { callee := .builtin .append, args := #[x, y], argTypes := #[T, tx] }, ty, pos, af, g⟩) :: rest) ⟨sl, hp⟩ Q := by
  simp only [okG, Bool.and_eq_true, Bool.or_eq_true] at hk
  refine Tr.grow (ρ := Nat × Nat) (fun r => m ≤ r.2) (fun r => .slice (some ⟨r.1, 0, none⟩) m r.2) (fun r => [⟨r.1, news, E, r.2 * size⟩]) (hk.1.imp nbeq' nbeq') (wantS_of_guardOk hg) (dst_some (nblt hk.2))
    ⟨by simpa [Known, Op.operands, Call.operands] using known2 hx hy, fun l hl => ?_, fun a w hf hh => ?_⟩ (fun r hr => k r.1 r.2 hr)
  · obtain ⟨q, _, hq⟩ := fresh_is 0 l
    refine ⟨(q, m), Nat.le_refl _, ?_⟩
    simp only [List.singleton_append, List.map_cons, List.nodup_cons]
    exact ⟨fun h => by obtain ⟨b, hb, e⟩ := List.mem_map.1 h; exact hq b hb e, hl⟩
  · have h1 := hf x (by simp [Op.operands, Call.operands]); rw [hx] at h1
    have h2 := hf y (by simp [Op.operands, Call.operands]); rw [hy] at h2
    simp only [Option.some.injEq] at h1 h2
    unfold Sz at hs; unfold Zr at hz; unfold By at hb
    cases hi : C.P.info? E with
    | none => rw [hi] at hs; simp at hs
    | some i =>
      rw [hi] at hs hz hb
      simp only [Option.map_some, Option.some.injEq, Option.bind_some] at hs hz hb
      subst hs
      have hS : Src C.P i.size tx (.slice p m c2) m news w := Src.ofP hut (hsee w hh) hpn hnl hcell
      have hrun := run_append_grow_src (P := C.P) w T tx ty E i z hu hi hz none 0 0 [] (by simp [Builtin.firstCells]) _ m news hS (by omega) (by omega) (growslice_fits (by omega) (by rw [hb]; simpa using hfit))
      simp only [Nat.zero_add, List.nil_append] at hrun
      have hge := grownCap_ge w m 0 E
      unfold Oper.wp
      have hex : (execOp a.eval ⟨some d, .call { callee := .builtin .append, args := #[x, y], argTypes := #[T, tx] }, ty, pos, af, g⟩).run C.P w = .ok (.value (.slice (some ⟨w.heap.size, 0, none⟩) m (grownCap w m 0 E))) (w.drew.alloc (.cells (news.toArray ++ Builtin.zeroCells z.cells (grownCap w m 0 E - m)) E)) := by
        simp [execOp, resolve, invoke, builtin, ← h1, ← h2, hrun]
      rw [hex]
      refine ⟨(w.heap.size, grownCap w m 0 E), hge, rfl, Ret.pushD _ _ _ _ ?_ (by simp)⟩
      have e : grownCap w m 0 E * i.size = m * i.size + (grownCap w m 0 E - m) * i.size := by rw [← Nat.add_mul]; congr 1; omega
      simp [Builtin.zeroCells, hnl, hzc, e]

/-- nothing, appended to nil -/
theorem Tr.appendNilNil {x y : Operand} {size c2 : Nat} {T tx E E2 : TypeId} {p : Option Addr} (hg : guardOk ops sl g = true) (hk : okD c d C.N = true)
    (hx : evIn sl x = some (.slice none 0 0)) (hy : evIn sl y = some (.slice p 0 c2)) (hu : C.P.underlying T = some (.slice E)) (hut : C.P.underlying tx = some (.slice E2)) (hs : Sz C.P E size)
    (k : Tr C ops rest ⟨(d, .slice none 0 0) :: sl, hp⟩ Q) :
    Tr C ops ((c, ⟨some d, .call { callee := .builtin .append, args := #[x, y], argTypes := #[T, tx] }, ty, pos, af, g⟩) :: rest) ⟨sl, hp⟩ Q :=
  .pv hg hk ⟨by simpa [Known, Op.operands, Call.operands] using known2 hx hy, fun ρ hf w => by
    have h1 := hf x (by simp [Op.operands, Call.operands]); rw [hx] at h1
    have h2 := hf y (by simp [Op.operands, Call.operands]); rw [hy] at h2
    simp only [Option.some.injEq] at h1 h2
    have rs := run_sz hs
    cases p <;> simp [execOp, resolve, invoke, builtin, ← h1, ← h2, Builtin.append_, run_underlying hu, run_underlying hut, rs, Builtin.lenOf, Builtin.firstCells, loadCells, loadCellsFrom, storeCells]⟩ k

/-! ### cutting -/

theorem Tr.sliceLoN {x lo : Operand} {b o n cap : Nat} {T E : TypeId} {kl : IntKind} {l : Int} {sz : Nat} (j : Nat) (hg : guardOk ops sl g = true) (hk : okD c d C.N = true) (hx : evIn sl x = some (.slice (some ⟨b, o, none⟩) n cap)) (hl : evIn sl lo = some (.int kl l)) (hj : l = j) (hjn : j ≤ n) (hnc : n ≤ cap)
    (hu : C.P.underlying T = some (.slice E)) (hs : Sz C.P E sz)
    (k : Tr C ops rest ⟨(d, .slice (some ⟨b, if cap = j then o else o + j * sz, none⟩) (n - j) (cap - j)) :: sl, hp⟩ Q) : Tr C ops ((c, ⟨some d, .slice T x (some lo) none none, ty, pos, af, g⟩) :: rest) ⟨sl, hp⟩ Q :=
  .pv hg hk ⟨by simpa [Known, Op.operands] using known2 hx hl, fun ρ hfi w => by
    have h1 := hfi x (by simp [Op.operands]); rw [hx] at h1
    have h2 := hfi lo (by simp [Op.operands]); rw [hl] at h2
    simp only [Option.some.injEq] at h1 h2
    subst hj
    by_cases e : cap = j <;> simp [execOp, Instr.sliceAt, Instr.slice, ← h1, ← h2, run_underlying hu, Instr.sliceBounds, Instr.sliceBound, asIntOf, run_sz hs, add_addr, e, hjn]⟩ k

/-! ### reading what is seen -/

theorem Tr.loadS1 {T : TypeId} {td : TypeDesc} {x : Operand} {b o : Nat} {v : Value} (hg : guardOk ops sl g = true) (hk : okL c d C.N = true) (hx : evIn sl x = some (ptr b o)) (hu : C.P.underlying T = some td) (hp' : plainDesc td = true) (hv : ∀ w, HRep C hp w → w.cell? ⟨b, o, none⟩ = some v)
    (k : Tr C ops rest ⟨(d, v) :: sl, hp⟩ Q) : Tr C ops ((c, ⟨some d, .load T x, ty, pos, af, g⟩) :: rest) ⟨sl, hp⟩ Q :=
  .loadAny hg hk hx (fun w hr => by simp [loadVar, run_isAgg_plain hu hp', load, Sem.run, hv w hr]) k
theorem Tr.loadSN {n : Nat} {T : TypeId} {td : TypeDesc} {x : Operand} {b o : Nat} (r : List Value) (hg : guardOk ops sl g = true) (hk : okL c d C.N = true) (hx : evIn sl x = some (ptr b o)) (hu : C.P.underlying T = some td) (hp' : plainDesc td = false) (hs : Sz C.P T n) (hn : r.length = n)
    (hv : ∀ w, HRep C hp w → Sees w b o r)
    (k : Tr C ops rest ⟨(d, agg r) :: sl, hp⟩ Q) : Tr C ops ((c, ⟨some d, .load T x, ty, pos, af, g⟩) :: rest) ⟨sl, hp⟩ Q :=
  .loadAny hg hk hx (fun w hh => by
    have := run_row (P := C.P) (w := w) (b := b) (o := o) hn fun j v hj => hv w hh j v hj
    simp [loadVar, run_isAgg_arr hu hp', run_sz hs, this]) k
end

/-! ### rows of equal length, flat -/

theorem flatten_get {α : Type} (m : Nat) : ∀ (ls : List (List α)) (i j : Nat) (l : List α), (∀ l ∈ ls, l.length = m) → ls[i]? = some l → j < m → ls.flatten[i * m + j]? = l[j]?
  | [], i, j, l, _, h, _ => by simp at h
  | x :: ls, 0, j, l, hl, h, hj => by
    simp only [List.getElem?_cons_zero, Option.some.injEq] at h
    subst h
    rw [List.flatten_cons, Nat.zero_mul, Nat.zero_add, List.getElem?_append_left (by rw [hl x (by simp)]; exact hj)]
  | x :: ls, i + 1, j, l, hl, h, hj => by
    rw [List.flatten_cons, List.getElem?_append_right (by rw [hl x (by simp), Nat.add_mul]; omega), hl x (by simp), show (i + 1) * m + j - m = i * m + j by rw [Nat.add_mul]; omega]
    exact flatten_get m ls i j l (fun y hy => hl y (by simp [hy])) (by simpa using h) hj
theorem flatten_len {α : Type} (m : Nat) : ∀ (ls : List (List α)), (∀ l ∈ ls, l.length = m) → ls.flatten.length = ls.length * m
  | [], _ => by simp
  | x :: ls, h => by rw [List.flatten_cons, List.length_append, flatten_len m ls fun y hy => h y (by simp [hy]), h x (by simp), List.length_cons, Nat.add_mul]; omega

abbrev flatB (ls : List (List UInt8)) : List Value := (ls.map bytesV).flatten
theorem flatB_all {m : Nat} {ls : List (List UInt8)} (h : ∀ l ∈ ls, l.length = m) : ∀ l ∈ ls.map bytesV, l.length = m := fun l hl => by
  obtain ⟨x, hx, rfl⟩ := List.mem_map.1 hl
  simp [bytesV, h x hx]
theorem flatB_length {m : Nat} {ls : List (List UInt8)} (h : ∀ l ∈ ls, l.length = m) : (flatB ls).length = ls.length * m := by
  rw [flatB, flatten_len m _ (flatB_all h), List.length_map]
theorem flatB_cell (ls : List (List UInt8)) : ∀ u ∈ flatB ls, isCell u = true := fun u hu => by
  simp only [flatB, List.mem_flatten, List.mem_map] at hu
  obtain ⟨_, ⟨l, _, rfl⟩, hu⟩ := hu
  simp only [bytesV, List.mem_map] at hu
  obtain ⟨_, _, rfl⟩ := hu
  rfl
theorem flatB_append (a b : List (List UInt8)) : flatB (a ++ b) = flatB a ++ flatB b := by simp [flatB]
theorem bytesV_len {l : List UInt8} {m : Nat} (h : l.length = m) : (bytesV l).length = m := by simp [bytesV, h]
theorem getD_len {m : Nat} {ls : List (List UInt8)} (h : ∀ l ∈ ls, l.length = m) {k : Nat} (hk : k < ls.length) : (ls.getD k []).length = m := by
  rw [List.getD_eq_getElem?_getD, List.getElem?_eq_getElem hk, Option.getD_some]
  exact h _ (List.getElem_mem hk)
theorem sees_row {w : World} {b o m : Nat} {ls : List (List UInt8)} (h : ∀ l ∈ ls, l.length = m) (hs : Sees w b o (flatB ls)) {k : Nat} (hk : k < ls.length) : Sees w b (o + k * m) (bytesV (ls.getD k [])) := fun j v hj => by
  have hl := getD_len h hk
  have hjm : j < m := by
    rcases Nat.lt_or_ge j m with h1 | h1
    · exact h1
    · rw [List.getElem?_eq_none (by simp only [bytesV, List.length_map, hl]; exact h1)] at hj; cases hj
  rw [Nat.add_assoc]
  refine hs _ v ?_
  rw [flatB, flatten_get m _ k j (bytesV (ls.getD k [])) (flatB_all h) (by rw [List.getElem?_map, List.getD_eq_getElem?_getD, List.getElem?_eq_getElem hk]; rfl) hjm]
  exact hj
theorem sees_rows_drop {w : World} {b o m k n c : Nat} {ls : List (List UInt8)} (h : ∀ l ∈ ls, l.length = m) (hn : ls.length = n) (hnc : n ≤ c) (hs : Sees w b o (flatB ls)) : Sees w b (if c = k then o else o + k * m) (flatB (ls.drop k)) := fun j v hj => by
  have hlt : k < ls.length := by
    rcases Nat.lt_or_ge k ls.length with h1 | h1
    · exact h1
    · rw [List.drop_of_length_le h1] at hj; simp [flatB] at hj
  rw [if_neg (by omega), Nat.add_assoc]
  refine hs _ v ?_
  rw [← List.take_append_drop k ls, flatB_append, List.getElem?_append_right (by rw [flatB_length (m := m) (fun l hl => h l (List.mem_of_mem_take hl)), List.length_take, Nat.min_eq_left (by omega)]; omega),
    flatB_length (m := m) (fun l hl => h l (List.mem_of_mem_take hl)), List.length_take, Nat.min_eq_left (by omega), Nat.add_sub_cancel_left]
  exact hj

/-- a new row of a call -/
def FreshRow (v : Value) (out : List Blk) (cells : List Value) (T : TypeId) (n size : Nat) : Prop := ∃ q c, v = .slice (some ⟨q, 0, none⟩) n c ∧ n ≤ c ∧ out = [⟨q, cells, T, c * size⟩]
theorem FreshRow.loose (cells : List Value) (T : TypeId) (n size : Nat) : Loose fun v out => FreshRow v out cells T n size := fun l hl => by
  obtain ⟨q, _, hq⟩ := fresh_is 0 l
  refine ⟨_, _, ⟨q, n, rfl, Nat.le_refl _, rfl⟩, ?_⟩
  simp only [List.singleton_append, List.map_cons, List.nodup_cons]
  exact ⟨fun h => by obtain ⟨b, hb, e⟩ := List.mem_map.1 h; exact hq b hb e, hl⟩
theorem nodup1 {l : List Blk} {b : Blk} : (l.map (·.n)).Nodup → ([b].map (·.n)).Nodup := fun _ => by simp
end Hw
