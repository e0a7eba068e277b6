/- Appending to a row of one's own, whatever room there is, elements of any size; appending made zeros. It proves no statement by itself; it has no conditions. -/
import Derived.Test.YtejjamifnombhaaAppend
import Derived.Deep.AppendSrc
namespace Hw
open Go Go.RowKit
set_option linter.unusedSimpArgs false
set_option linter.unusedVariables false

theorem rem_here {B : Blk} {l : List Blk} : (B :: l).Perm (B :: l) := List.Perm.refl _
theorem rem_there {B x : Blk} {l l' : List Blk} (h : l.Perm (B :: l')) : (x :: l).Perm (B :: x :: l') := (List.Perm.cons x h).trans (List.Perm.swap B x l')

theorem Ret.pushD {w : World} (cs : List Value) (full : Array Value) (T : TypeId) (m : Nat) (hm : full.size = m) (hp : cs <+: full.toList) : Ret [] [⟨w.heap.size, cs, T, m⟩] w (w.drew.alloc (.cells full T)) := by
  refine ⟨⟨rfl, rfl, rfl, by show w.heap.size ≤ (w.heap.push _).size; simp, fun k hk _ => ?_⟩, fun b hb => ?_, by simp, fun b hb => ?_⟩
  · show (w.heap.push _)[k]? = w.heap[k]?
    rw [Array.getElem?_push, if_neg (by omega)]
  · obtain rfl := List.mem_singleton.1 hb
    exact ⟨full, (0, 0), by show (w.heap.push _)[w.heap.size]? = _; simp, hm, hp, free0⟩
  · obtain rfl := List.mem_singleton.1 hb
    exact .inl (Nat.le_refl _)

theorem zeroCells_one (z : Value) (hz : z.cells = #[z]) (n : Nat) : Builtin.zeroCells z.cells n = (List.replicate n z).toArray := by
  unfold Builtin.zeroCells
  apply Array.ext
  · simp [hz]
  · intro i h1 h2
    simp [hz, Nat.mod_one]

section
variable {C : Cx} {ops : Array Oper} {rest : List (Nat × Oper)} {sl : List (Nat × Value)} {hp hp' : List Blk} {Q : St → Prop} {c d : Nat} {ty : TypeId} {pos : String} {af : Array Edge} {g : Option (Nat × Bool)}

theorem Tr.appendCore {x y : Operand} {b n cap m size cm : Nat} {T tx E : TypeId} {v : Value} {zs : Nat → Array Value} {olds news : List Value} (hg : guardOk ops sl g = true) (hc : Nat.beq c 4 = true) (hd : Nat.blt d C.N = true)
    (hx : evIn sl x = some (.slice (some ⟨b, 0, none⟩) n cap)) (hy : evIn sl y = some v) (hzs : ∀ k, (zs k).size = k * size)
    (hp1 : hp.Perm (⟨b, olds, E, cm⟩ :: hp')) (hcm : cm = cap * size) (hol : olds.length = n * size) (hnl : news.length = m * size) (hnc : n ≤ cap)
    (hroom : ∀ w full fr, HRep C hp w → w.heap[b]? = some (.cells full E fr) → full.size = cap * size → Free fr (cap * size) → n + m ≤ cap → (Builtin.append_ #[T, tx] ty #[.slice (some ⟨b, 0, none⟩) n cap, v]).run C.P w = .ok (.slice (some ⟨b, 0, none⟩) (n + m) cap) (setBlk w b (putAll full (n * size) news) E fr))
    (hgrow : ∀ w, HRep C hp w → cap < n + m → (Builtin.append_ #[T, tx] ty #[.slice (some ⟨b, 0, none⟩) n cap, v]).run C.P w = .ok (.slice (some ⟨w.heap.size, 0, none⟩) (n + m) (grownCap w (n + m) cap E)) (w.drew.alloc (.cells ((olds ++ news).toArray ++ zs (grownCap w (n + m) cap E - (n + m))) E)))
    (k : ∀ q cap', n + m ≤ cap' → Tr C ops rest ⟨(d, .slice (some ⟨q, 0, none⟩) (n + m) cap') :: sl, ⟨q, olds ++ news, E, cap' * size⟩ :: hp'⟩ Q) :
    Tr C ops ((c, ⟨some d, .call { callee := .builtin .append, args := #[x, y], argTypes := #[T, tx] }, ty, pos, af, g⟩) :: rest) ⟨sl, hp⟩ Q := by
  subst hcm
  refine Tr.act (ρ := Nat × Nat) (fun r => n + m ≤ r.2) (fun r => .slice (some ⟨r.1, 0, none⟩) (n + m) r.2) (fun r => ⟨r.1, olds ++ news, E, r.2 * size⟩ :: hp') (nbeq' hc) (wantS_of_guardOk hg) (dst_some (nblt hd))
    ⟨by simpa [Known, Op.operands, Call.operands] using known2 hx hy, fun a w hf hh => ?_⟩ (fun r hr => k r.1 r.2 hr)
  have h1 := hf x (by simp [Op.operands, Call.operands]); rw [hx] at h1
  have h2 := hf y (by simp [Op.operands, Call.operands]); rw [hy] at h2
  simp only [Option.some.injEq] at h1 h2
  have hh' := hh.perm hp1
  obtain ⟨full, fr, hbk⟩ := hh'.cells _ List.mem_cons_self
  have hlt := (hh'.cells _ List.mem_cons_self).lt
  have hnm : (n + m) * size = n * size + m * size := Nat.add_mul _ _ _
  unfold Oper.wp
  rcases Nat.lt_or_ge cap (n + m) with hr | hr
  · have hex : (execOp a.eval ⟨some d, .call { callee := .builtin .append, args := #[x, y], argTypes := #[T, tx] }, ty, pos, af, g⟩).run C.P w = .ok (.value (.slice (some ⟨w.heap.size, 0, none⟩) (n + m) (grownCap w (n + m) cap E))) (w.drew.alloc (.cells ((olds ++ news).toArray ++ zs (grownCap w (n + m) cap E - (n + m))) E)) := by
      simp [execOp, resolve, invoke, builtin, ← h1, ← h2, hgrow w hh hr]
    rw [hex]
    have hge := grownCap_ge w (n + m) cap E
    refine ⟨(w.heap.size, grownCap w (n + m) cap E), hge, rfl, ?_⟩
    have hnd : (hp'.map (·.n)).Nodup := by
      have := hh'.nodup
      simp only [List.map_cons, List.nodup_cons] at this
      exact this.2
    refine HRep.grown (out := [_]) (hh'.sub (fun x hx => List.mem_cons_of_mem _ hx) hnd) (Ret.pushD _ _ _ _ ?_ ?_)
    · have e : grownCap w (n + m) cap E * size = (n + m) * size + (grownCap w (n + m) cap E - (n + m)) * size := by rw [← Nat.add_mul]; congr 1; omega
      simp only [Array.size_append, List.size_toArray, List.length_append, hzs, hol, hnl, e, hnm]
    · simp
  · have hex : (execOp a.eval ⟨some d, .call { callee := .builtin .append, args := #[x, y], argTypes := #[T, tx] }, ty, pos, af, g⟩).run C.P w = .ok (.value (.slice (some ⟨b, 0, none⟩) (n + m) cap)) (setBlk w b (putAll full (n * size) news) E fr) := by
      simp [execOp, resolve, invoke, builtin, ← h1, ← h2, hroom w full fr hh hbk.heap hbk.size hbk.free hr]
    rw [hex]
    have hms : (n + m) * size ≤ cap * size := Nat.mul_le_mul_right _ hr
    have hsz := hbk.size
    simp only at hsz
    refine ⟨(b, cap), hr, rfl, hh'.upd (.head (cs := olds)) hlt (by rw [putAll_size]; exact hsz) ?_ hbk.free⟩
    refine prefix_iff.2 fun j u hj => ?_
    rw [Array.getElem?_toList, putAll_get _ _ _ _ (by omega)]
    rcases Nat.lt_or_ge j (n * size) with hjn | hjn
    · rw [if_neg (by omega)]
      rw [List.getElem?_append_left (by omega)] at hj
      simpa using prefix_iff.1 hbk.pre j u hj
    · rw [List.getElem?_append_right (by omega), hol] at hj
      have : j - n * size < news.length := by
        rcases Nat.lt_or_ge (j - n * size) news.length with h | h
        · exact h
        · rw [List.getElem?_eq_none h] at hj; cases hj
      rw [if_pos (by omega)]
      exact hj

/-- whatever it yields, appended to an own row -/
theorem Tr.appendOwn {x y : Operand} {b n cap m size cm by' : Nat} {T tx E : TypeId} {v z : Value} {olds news : List Value} (hg : guardOk ops sl g = true) (hc : Nat.beq c 4 = true) (hd : Nat.blt d C.N = true)
    (hx : evIn sl x = some (.slice (some ⟨b, 0, none⟩) n cap)) (hy : evIn sl y = some v) (hu : C.P.underlying T = some (.slice E)) (hs : Sz C.P E size) (hz : Zr C.P E z) (hb : By C.P E by') (hzc : z.cells.size = size)
    (hsrc : ∀ w, HRep C hp w → Src C.P size tx v m news w) (hcell : ∀ u ∈ news, isCell u = true)
    (hp1 : hp.Perm (⟨b, olds, E, cm⟩ :: hp')) (hcm : cm = cap * size) (hol : olds.length = n * size) (hnc : n ≤ cap) (hbig : n + m ≤ 1000000) (hfit : (n + m) * by' ≤ 140737488355328)
    (hnl : news.length = m * size)
    (k : ∀ q cap', n + m ≤ cap' → Tr C ops rest ⟨(d, .slice (some ⟨q, 0, none⟩) (n + m) cap') :: sl, ⟨q, olds ++ news, E, cap' * size⟩ :: hp'⟩ Q) :
    Tr C ops ((c, ⟨some d, .call { callee := .builtin .append, args := #[x, y], argTypes := #[T, tx] }, ty, pos, af, g⟩) :: rest) ⟨sl, hp⟩ Q := by
  unfold Sz at hs; unfold Zr at hz; unfold By at hb
  cases hi : C.P.info? E with
  | none => rw [hi] at hs; simp at hs
  | some i =>
    rw [hi] at hs hz hb
    simp only [Option.map_some, Option.some.injEq, Option.bind_some] at hs hz hb
    subst hs
    refine Tr.appendCore (zs := fun k => Builtin.zeroCells z.cells k) hg hc hd hx hy (fun k => by simp [Builtin.zeroCells, hzc]) hp1 hcm hol hnl hnc (fun w full fr hh hbk hsz hfr hr => ?_) (fun w hh hr => ?_) k
    · have hS := hsrc w hh
      have hms : (n + m) * i.size ≤ cap * i.size := Nat.mul_le_mul_right _ hr
      have hnm : (n + m) * i.size = n * i.size + m * i.size := Nat.add_mul _ _ _
      have hst := run_storeCells (P := C.P) (b := b) (o := n * i.size) news 0 w full hbk (by omega) (by rw [hsz]; exact hfr) hcell
      simp only [Nat.add_zero] at hst
      rcases hS.kind with ⟨e', hk⟩ | hk <;> simp [Builtin.append_, run_underlying hu, run_underlying hk, Go.sizeOf, typeInfo, hi, hS.len, hr, hS.cells, add_addr, hst]
    · have hS := hsrc w hh
      have hold : (Builtin.firstCells i.size n (.slice (some ⟨b, 0, none⟩) n cap)).run C.P w.drew = .ok olds.toArray w.drew := by
        refine run_firstCells_some w.drew i.size n ⟨b, 0, none⟩ n cap olds hol (fun j u hj => ?_)
        rw [add_addr]
        have := ((hh.perm hp1).cells _ List.mem_cons_self).cell (o := 0 + j) (v := u) (by simpa using hj)
        simpa using this
      exact run_append_grow_src (P := C.P) w T tx ty E i z hu hi hz (some ⟨b, 0, none⟩) n cap olds hold v m news hS hr (by omega) (growslice_fits hr (by rw [hb]; exact hfit))

theorem one_of_cell {u : Value} (h : isCell u = true) : u.oneCell' = true := by cases u <;> simp [isCell] at h <;> rfl

/-- a row, appended to an own row -/
theorem Tr.appendRow {x y : Operand} {b n cap m size cm by' b2 o2 c2 : Nat} {T tx E E2 : TypeId} {z : Value} {olds : List Value} (news : List Value) (hg : guardOk ops sl g = true) (hc : Nat.beq c 4 = true) (hd : Nat.blt d C.N = true)
    (hx : evIn sl x = some (.slice (some ⟨b, 0, none⟩) n cap)) (hy : evIn sl y = some (.slice (some ⟨b2, o2, none⟩) m c2)) (hu : C.P.underlying T = some (.slice E)) (hut : C.P.underlying tx = some (.slice E2)) (hs : Sz C.P E size) (hz : Zr C.P E z) (hb : By C.P E by') (hzc : z.cells.size = size)
    (hsee : ∀ w, HRep C hp w → Sees w b2 o2 news) (hcell : ∀ u ∈ news, isCell u = true)
    (hp1 : hp.Perm (⟨b, olds, E, cm⟩ :: hp')) (hcm : cm = cap * size) (hol : olds.length = n * size) (hnc : n ≤ cap) (hbig : n + m ≤ 1000000) (hfit : (n + m) * by' ≤ 140737488355328)
    (hnl : news.length = m * size)
    (k : ∀ q cap', n + m ≤ cap' → Tr C ops rest ⟨(d, .slice (some ⟨q, 0, none⟩) (n + m) cap') :: sl, ⟨q, olds ++ news, E, cap' * size⟩ :: hp'⟩ Q) :
    Tr C ops ((c, ⟨some d, .call { callee := .builtin .append, args := #[x, y], argTypes := #[T, tx] }, ty, pos, af, g⟩) :: rest) ⟨sl, hp⟩ Q :=
  .appendOwn hg hc hd hx hy hu hs hz hb hzc (fun w hh => Src.ofSlice w hut ⟨b2, o2, none⟩ m c2 news hnl (fun j u hj => by rw [add_addr]; exact hsee w hh j u hj) (fun u hu => one_of_cell (hcell u hu))) hcell hp1 hcm hol hnc hbig hfit hnl k

/-- nil, appended to an own row -/
theorem Tr.appendNil {x y : Operand} {b n cap size cm by' : Nat} {T tx E E2 : TypeId} {z : Value} {olds : List Value} (hg : guardOk ops sl g = true) (hc : Nat.beq c 4 = true) (hd : Nat.blt d C.N = true)
    (hx : evIn sl x = some (.slice (some ⟨b, 0, none⟩) n cap)) (hy : evIn sl y = some (.slice none 0 0)) (hu : C.P.underlying T = some (.slice E)) (hut : C.P.underlying tx = some (.slice E2)) (hs : Sz C.P E size) (hz : Zr C.P E z) (hb : By C.P E by') (hzc : z.cells.size = size)
    (hp1 : hp.Perm (⟨b, olds, E, cm⟩ :: hp')) (hcm : cm = cap * size) (hol : olds.length = n * size) (hnc : n ≤ cap) (hbig : n ≤ 1000000) (hfit : n * by' ≤ 140737488355328)
    (k : ∀ q cap', n ≤ cap' → Tr C ops rest ⟨(d, .slice (some ⟨q, 0, none⟩) n cap') :: sl, ⟨q, olds, E, cap' * size⟩ :: hp'⟩ Q) :
    Tr C ops ((c, ⟨some d, .call { callee := .builtin .append, args := #[x, y], argTypes := #[T, tx] }, ty, pos, af, g⟩) :: rest) ⟨sl, hp⟩ Q :=
  .appendOwn (m := 0) (news := []) hg hc hd hx hy hu hs hz hb hzc (fun w hh => Src.ofNil w hut 0) (fun u hu => by cases hu) hp1 hcm hol hnc hbig hfit (by simp) (fun q cap' h => by simpa using k q cap' h)

/-- made zeros, elements of one cell, appended to an own row -/
theorem Tr.appendMade {x y : Operand} {b n cap m cm by' : Nat} {T tx E : TypeId} {kt kv : IntKind} {z : Value} {olds : List Value} {mi : Int} (hg : guardOk ops sl g = true) (hc : Nat.beq c 4 = true) (hd : Nat.blt d C.N = true)
    (hx : evIn sl x = some (.slice (some ⟨b, 0, none⟩) n cap)) (hy : evIn sl y = some (.int kv mi)) (hmi : mi = m) (hu : C.P.underlying T = some (.slice E)) (hut : C.P.underlying tx = some (.int kt)) (hs : Sz C.P E 1) (hz : Zr C.P E z) (hb : By C.P E by') (hzc : z.cells = #[z]) (hcell : isCell z = true)
    (hp1 : hp.Perm (⟨b, olds, E, cm⟩ :: hp')) (hcm : cm = cap) (hol : olds.length = n) (hnc : n ≤ cap) (hbig : n + m ≤ 1000000) (hby : by' ≤ 64)
    (k : ∀ q cap', n + m ≤ cap' → Tr C ops rest ⟨(d, .slice (some ⟨q, 0, none⟩) (n + m) cap') :: sl, ⟨q, olds ++ List.replicate m z, E, cap'⟩ :: hp'⟩ Q) :
    Tr C ops ((c, ⟨some d, .call { callee := .builtin .append, args := #[x, y], argTypes := #[T, tx] }, ty, pos, af, g⟩) :: rest) ⟨sl, hp⟩ Q := by
  subst hmi
  unfold Sz at hs; unfold Zr at hz; unfold By at hb
  cases hi : C.P.info? E with
  | none => rw [hi] at hs; simp at hs
  | some i =>
    rw [hi] at hs hz hb
    simp only [Option.map_some, Option.some.injEq, Option.bind_some] at hs hz hb
    have wm : IntKind.i64.wrap (m : Int) = m := i64_wrap (by omega)
    have hm : by' * m ≤ 64 * 1000000 := Nat.mul_le_mul hby (by omega)
    have hm2 : (m : Int) * by' = ((by' * m : Nat) : Int) := by rw [Int.mul_comm]; simp
    have n1 : ¬ ((m : Int) < 0) := by omega
    have n2 : ¬ (281474976710656 < (m : Int) * i.bytes) := by rw [hb, hm2]; omega
    have rz := zeroCells_one z hzc
    refine Tr.appendCore (size := 1) (news := List.replicate m z) (m := m) (zs := fun k => Builtin.zeroCells z.cells k) hg hc hd hx hy (fun k => by simp [Builtin.zeroCells, hzc]) hp1 (by omega) (by omega) (by simp) hnc (fun w full fr hh hbk hsz hfr hr => ?_) (fun w hh hr => ?_) (fun q cap' h => by simpa using k q cap' h)
    · have hst := run_storeCells (P := C.P) (b := b) (o := n) (List.replicate m z) 0 w full hbk (by simp; omega) (by rw [hsz]; exact hfr) (fun u hu => by rw [List.eq_of_mem_replicate hu]; exact hcell)
      simp only [Nat.add_zero] at hst
      by_cases h0 : m = 0
      · subst h0
        simp [storeCells] at hst
        have w0 : IntKind.i64.wrap 0 = 0 := by decide
        simp [Builtin.append_, run_underlying hu, run_underlying hut, Go.sizeOf, typeInfo, hi, hs, asInt, asIntOf, w0, n1, n2, hnc, add_addr, storeCells, putAll]
        exact hst
      · simp [Builtin.append_, run_underlying hu, run_underlying hut, Go.sizeOf, typeInfo, hi, hs, asInt, asIntOf, wm, n1, n2, hr, add_addr, zeroValue, hz, h0, rz, hst]
    · have hold : (Builtin.firstCells 1 n (.slice (some ⟨b, 0, none⟩) n cap)).run C.P w.drew = .ok olds.toArray w.drew := by
        refine run_firstCells_some w.drew 1 n ⟨b, 0, none⟩ n cap olds (by omega) (fun j u hj => ?_)
        rw [add_addr]
        have := ((hh.perm hp1).cells _ List.mem_cons_self).cell (o := 0 + j) (v := u) (by simpa using hj)
        simpa using this
      have h0 : ¬ m = 0 := by omega
      have hn : ¬ (n + m ≤ cap) := by omega
      have hfit := growslice_fits (bytes := i.bytes) hr (by
        have : (n + m) * i.bytes ≤ 1000000 * 64 := Nat.mul_le_mul hbig (by omega)
        omega)
      have h63' : ¬ (9223372036854775807 < ((n : Int) + (m : Int))) := by omega
      have h48' : ¬ (281474976710656 < Builtin.nextslicecap (n + m) cap * i.bytes) := by omega
      simp [Builtin.append_, run_underlying hu, run_underlying hut, Go.sizeOf, typeInfo, hi, hs, asInt, asIntOf, wm, n1, n2, hn, add_addr, zeroValue, hz, h0, rz, h63', h48', Question.forced, hold, newRow, grownCap]
      congr 2
      apply Array.ext'
      simp [List.append_assoc]
end
end Hw
