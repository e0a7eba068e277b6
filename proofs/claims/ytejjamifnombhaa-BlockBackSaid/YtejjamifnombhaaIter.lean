/- A range over a function, in the Hoare logic: what the iterator and the rounds owe each other. It proves no statement by itself; it has no conditions. -/
import Derived.Test.YtejjamifnombhaaAcc
import Derived.RangeFuncLeaves
import Derived.RangeFuncSeq
import Derived.OrdersIn
namespace Hw
open Go Go.RowKit
set_option linter.unusedSimpArgs false
set_option linter.unusedVariables false

def FW (ro : Option Nat) : Fence := { Fence.wide with round := ro }
def noDefer (ops : Array Oper) : Bool := ops.all fun o => match o.op with | .defer _ => false | _ => true
theorem noDefer_at {ops : Array Oper} (h : noDefer ops = true) {i : Nat} {o : Oper} (hi : ops[i]? = some o) : ∀ c, o.op ≠ .defer c := fun c hc => by
  obtain ⟨hlt, he⟩ := Array.getElem?_eq_some_iff.1 hi
  have := (Array.all_eq_true.1 h) i hlt
  rw [he, hc] at this
  cases this

section
variable {ro : Option Nat} {n : Nat} {P : Program}
theorem calls_FW {f : FuncId} {args : Array Value} {w : World} {R R' : Ending → World → Prop} (h : Calls P f args w R) (hr : ∀ e w, R e w → R' e w) : CallsIn (FW ro) n P f args w R' :=
  show CallsIn Fence.wide n P f args w R' from callsIn_wide.2 (h.mono hr)
theorem rows_FW {row : String} {args : Array Value} {w : World} {R : Value → World → Prop} (h : Rows P row args w R) : RowsIn (FW ro) n P row args w R :=
  show RowsIn Fence.wide n P row args w R from fun c cs _ => let ⟨v, w', r, s⟩ := h c cs; ⟨v, w', r, stepsIn_wide.2 s⟩

theorem wp_in {o : Oper} {a : Act} {w : World} {K : Act → World → Prop} {X : Exit → Act → World → Prop} (h : Oper.wp P o a w K X) (hnd : ∀ c, o.op ≠ .defer c) : Oper.wpIn (FW ro) n P o a w K X := by
  refine ⟨fun f _ => trivial, ?_⟩
  rw [Oper.semAt_eq _ _ _ hnd]
  unfold Oper.wp at h
  generalize (execOp a.eval o).run P w = r at h ⊢
  cases r with
  | ok x w' =>
    cases x <;> simp only [Oper.upon] at h <;> simp only [Oper.uponIn]
    case value => exact h
    case skip => exact h
    case defer => exact h
    case enter f args => exact ⟨fun h0 => (by cases h0), calls_FW h fun e w h => h⟩
    case row => exact ⟨fun h0 => (by cases h0), rows_FW h⟩
  | halt x w' => cases x <;> simp only [Oper.upon] at h <;> simp only [Oper.uponIn] <;> exact h

theorem wpOp_in {ops : Array Oper} {X : Exit → Act → World → Prop} {i : Nat} {K : Act → World → Prop} {a : Act} {w : World} (h : wpOp P ops X i K a w) (hnd : noDefer ops = true) (hX : ∀ a w, ¬ X .outgrown a w) : wpOpIn (FW ro) n P ops X i K a w := by
  unfold wpOp at h
  unfold wpOpIn
  cases ho : ops[i]? with
  | none => rw [ho] at h; exact h
  | some o =>
    rw [ho] at h
    simp only at h ⊢
    split
    · rename_i hw
      rw [if_pos hw] at h
      rcases h with h | ⟨_, a0, w0, h⟩
      · exact wp_in h (noDefer_at hnd ho)
      · exact absurd h (hX a0 w0)
    · rename_i hw
      rw [if_neg hw] at h
      exact ⟨fun f _ => trivial, h⟩
theorem wpOps_in {ops : Array Oper} {X : Exit → Act → World → Prop} (hnd : noDefer ops = true) (hX : ∀ a w, ¬ X .outgrown a w) : ∀ (l : List Nat) (a : Act) (w : World), wpOps P ops X l a w → wpOpsIn (FW ro) n P ops X l a w
  | [], a, w, h => h
  | i :: l, a, w, h => by
    rw [wpOps_cons] at h
    rw [wpOpsIn_cons]
    exact wpOpIn_mono (fun a w h => wpOps_in hnd hX l a w h) (wpOp_in h hnd hX)
end

/-- as Sat, in a round's frame (or a plain one) -/
def SatI (ro : Option Nat) (C : Cx) (code : Code) (s : St) (Q : St → Prop) : Prop :=
  ∀ a w, Rep C s a w → code.wpIn (FW ro) 0 C.P (Fin C Q) a w
theorem fin_out {C : Cx} {Q : St → Prop} : ∀ a w, ¬ Fin C Q .outgrown a w := fun a w h => by cases h.1
theorem SatI.region {ro : Option Nat} {C : Cx} {id : Nat} {ops : List Oper} {s : St} {Q : St → Prop} (hnd : noDefer ops.toArray = true) (h : Tr C ops.toArray (ops.map fun o => (4, o)) s Q) : SatI ro C (.region id ops.toArray false) s Q := by
  intro a w r
  refine wpIn_region (wpOps_in hnd fin_out _ _ _ (wpOps_of_tr _ _ s a w _ (by simp) (fun k => ?_) r h fun s' a' w' r' q => ⟨rfl, s', r', q⟩))
  by_cases hk : k < ops.length
  · simp [hk]
  · simp [hk]
theorem SatI.draw {ro : Option Nat} {C : Cx} {id : Nat} {ops : List Oper} {s : St} {Q : St → Prop} (perm : List (Nat × Nat)) (hm : C.P.follows .mixedOrders = true) (hok : orderOk ops.toArray perm = true) (hnd : noDefer ops.toArray = true)
    (h : Tr C ops.toArray (items ops.toArray perm) s Q) : SatI ro C (.region id ops.toArray true) s Q := by
  intro a w r
  have hlen : perm.length ≤ ops.length := by
    simp only [orderOk, Bool.and_eq_true] at hok
    have hnd := topo_nodup perm [] hok.1.1
    have hlt : ∀ x ∈ perm.map (·.2), x ∈ List.range ops.length := fun x hx => by
      obtain ⟨p, hp, rfl⟩ := List.mem_map.1 hx
      have := (topo_mem perm [] hok.1.1 p hp).1
      simpa using this
    have := hnd.length_le_of_subset hlt
    simpa using this
  have h0 : perm.filter (fun p => !(Array.replicate ops.toArray.size false).getD p.2 false) = perm := List.filter_eq_self.2 fun p _ => by
    rw [Array.getD_eq_getD_getElem?, Array.getElem?_replicate]
    split <;> rfl
  have := wpAny_of_tr (C := C) hok ops.toArray.size (Array.replicate ops.toArray.size false) s a { w with drawn := w.drawn + 1 } Q (by simp)
    (fun j hj => by
      rw [Array.getD_eq_getD_getElem?, Array.getElem?_replicate] at hj
      split at hj <;> simp at hj) (by rw [h0]; simpa using hlen) ⟨r.rs, r.rh.drew _⟩ (by rw [h0]; exact h)
  refine wpIn_region_draw fun t => ?_
  simp only [Region.schedule, hm, Bool.true_or, if_true]
  exact wpOps_in hnd fin_out _ _ _ (wpAny_sound ops.toArray.size t _ a _ this)
theorem SatI.block {ro : Option Nat} {C : Cx} {id : Nat} {x : Code} {s : St} {Q : St → Prop} (h : SatI ro C x s Q) : SatI ro C (.block id x) s Q := fun a w r =>
  wpIn_block (wpIn_mono (h a w r) fun e a w ⟨he, q⟩ => by subst he; exact ⟨rfl, q⟩)

/-- what an iterator's call leaves, as its caller sees it -/
theorem HRep.ofRet {P : Program} {w w' : World} {names : List Nat} {hp : List Blk} (h : Ret names hp w w') (hn : hp.map (·.n) = names) : HRep ⟨P, w, 0, names, [], []⟩ hp w' :=
  ⟨h.cells, h.nodup, fun b hb => .inr (by show b.n ∈ names; rw [← hn]; exact List.mem_map.2 ⟨b, hb, rfl⟩), h.keeps, fun _ h => (by cases h), fun _ _ _ h => (by cases h)⟩
theorem acc_pos {s : Sl} {bl : List Blk} {cells : List Value} {E : TypeId} {n size : Nat} (h : Acc s bl cells E n size) (hn : 0 < n) : ∃ q c, s = ⟨some ⟨q, 0, none⟩, n, c⟩ ∧ n ≤ c ∧ bl = [⟨q, cells, E, c * size⟩] := by
  rcases h with ⟨_, _, _, rfl⟩ | ⟨q, c, h1, h2, _, h4⟩
  · omega
  · exact ⟨q, c, h1, h2, h4⟩
section
variable {C : Cx} {ops : Array Oper} {rest : List (Nat × Oper)} {sl : List (Nat × Value)} {hp : List Blk} {Q : St → Prop} {c d : Nat} {ty : TypeId} {pos : String} {af : Array Edge} {g : Option (Nat × Bool)}
/-- a literal's row, marked as a string's: nothing turns -/
theorem Tr.constB {x : Operand} {b n cap : Nat} {T E : TypeId} {cs : List Value} {m : Nat} (hg : guardOk ops sl g = true) (hc : Nat.beq c 4 = true) (hd : Nat.blt d C.N = true) (hx : evIn sl x = some (.slice (some ⟨b, 0, none⟩) n cap)) (hu : C.P.underlying T = some (.slice E)) (he : C.P.underlying E = some (.int .u8)) (hb : (⟨b, cs, E, m⟩ : Blk) ∈ hp)
    (k : Tr C ops rest ⟨(d, .slice (some ⟨b, 0, none⟩) n cap) :: sl, hp⟩ Q) : Tr C ops ((c, ⟨some d, .convert T T x, ty, pos, af, g⟩) :: rest) ⟨sl, hp⟩ Q := by
  refine Tr.act (ρ := Unit) (fun _ => True) (fun _ => .slice (some ⟨b, 0, none⟩) n cap) (fun _ => hp) (nbeq' hc) (wantS_of_guardOk hg) (dst_some (nblt hd)) ⟨known1 hx, fun a w hf hh => ?_⟩ (fun _ _ => k)
  have h1 := hf x (by simp [Op.operands]); rw [hx] at h1
  simp only [Option.some.injEq] at h1
  obtain ⟨full, fr, hbk⟩ := hh.cells _ hb
  have hlt := (hh.cells _ hb).lt
  have hsh : w.shape? b = some (E, full.size) := by unfold World.shape?; rw [hbk.heap]
  obtain ⟨fr', hfr', hfree⟩ : ∃ fr', w.freeze ⟨b, full.size, none⟩ 1 = setBlk w b full E fr' ∧ Free fr' m := by
    refine ⟨if fr.1 == fr.2 then (full.size, full.size + 1) else (min fr.1 full.size, max fr.2 (full.size + 1)), ?_, ?_⟩
    · unfold World.freeze setBlk
      rw [if_neg (by decide)]
      congr 1
      apply Array.ext_getElem?
      intro i
      rw [Array.getElem?_setIfInBounds, Array.getElem?_modify]
      by_cases hi : b = i
      · subst hi
        rw [if_pos rfl, if_pos rfl, if_pos hlt, hbk.heap]
        rfl
      · rw [if_neg hi, if_neg hi]
    · have hf := hbk.free
      have hs := hbk.size
      simp only at hf hs
      by_cases e : fr.1 = fr.2
      · rw [if_pos (by simpa using e)]
        exact ⟨by simp, fun i hi => by simp; omega⟩
      · rw [if_neg (by simpa using e)]
        have hle := hf.le
        have hm : m ≤ fr.1 := by
          rcases Nat.lt_or_ge fr.1 m with h1 | h1
          · have := hf.at' fr.1 h1
            simp at this
            omega
          · exact h1
        exact ⟨by simp; omega, fun i hi => by simp; omega⟩
  have hrun : (execOp a.eval ⟨some d, .convert T T x, ty, pos, af, g⟩).run C.P w = .ok (.value (.slice (some ⟨b, 0, none⟩) n cap)) (setBlk w b full E fr') := by
    simp [execOp, convert, ← h1, run_underlying hu, run_underlying he, markStringish, hsh, hfr']
  unfold Oper.wp
  rw [hrun]
  have hup : Upd hp b cs E m cs hp := by
    clear hh k hf
    induction hp with
    | nil => cases hb
    | cons y l ih =>
      rcases List.mem_cons.1 hb with rfl | h
      · exact .head
      · exact .tail (ih h)
  exact ⟨(), trivial, rfl, hh.upd hup hlt hbk.size hbk.pre hfree⟩

theorem Tr.neq_str {xT yT : TypeId} {x y : Operand} {a b : List UInt8} (hg : guardOk ops sl g = true) (hk : okD c d C.N = true) (hx : evIn sl x = some (str a)) (hy : evIn sl y = some (str b)) {r : Bool} (hr : (!decide (a = b)) = r)
    (k : Tr C ops rest ⟨(d, .bool r) :: sl, hp⟩ Q) : Tr C ops ((c, ⟨some d, .binOp .neq xT x y yT, ty, pos, af, g⟩) :: rest) ⟨sl, hp⟩ Q :=
  .binAny hg hk hx hy (fun w => by simp [eqGuard, str]) (fun w => by
    subst hr
    rw [show (binOp .neq xT (str a) (str b)) = Op.stringOp .neq ⟨a.toArray⟩ ⟨b.toArray⟩ from rfl]
    simp [Op.stringOp, toList_mk]
    rw [Bool.eq_iff_iff]; simp) k
/-- the first elements of an array, as a slice -/
theorem Tr.sliceArrHi {x hi : Operand} {b o len : Nat} {xT E : TypeId} {kl : IntKind} {l : Int} (j : Nat) (hg : guardOk ops sl g = true) (hk : okD c d C.N = true) (hx : evIn sl x = some (ptr b o)) (hlo : evIn sl hi = some (.int kl l)) (hj : l = j) (hlt : j ≤ len) (hpos : 0 < len) (hu : C.P.underlying xT = some (.array len E)) {sz : Nat} (hs : Sz C.P E sz)
    (k : Tr C ops rest ⟨(d, .slice (some ⟨b, o, none⟩) j len) :: sl, hp⟩ Q) : Tr C ops ((c, ⟨some d, .slice xT x none (some hi) none, ty, pos, af, g⟩) :: rest) ⟨sl, hp⟩ Q :=
  .pv hg hk ⟨by simpa [Known, Op.operands] using known2 hx hlo, fun ρ hfi w => by
    have h1 := hfi x (by simp [Op.operands]); rw [hx] at h1
    have h2 := hfi hi (by simp [Op.operands]); rw [hlo] at h2
    simp only [Option.some.injEq] at h1 h2
    subst hj
    have e : ¬ (len = 0) := by omega
    simp [execOp, Instr.sliceAt, ← h1, ← h2, run_underlying hu, Instr.sureAddr, Instr.sliceBounds, Instr.sliceBound, asIntOf, run_sz hs, add_addr, e, hlt]⟩ k

theorem Tr.slice3 {x lo hi mx : Operand} {b o n cap : Nat} {T E : TypeId} {kl kh km : IntKind} {l h m : Int} {sz : Nat} (i j t : Nat) (hg : guardOk ops sl g = true) (hk : okD c d C.N = true) (hx : evIn sl x = some (.slice (some ⟨b, o, none⟩) n cap)) (hl : evIn sl lo = some (.int kl l)) (hh : evIn sl hi = some (.int kh h)) (hm : evIn sl mx = some (.int km m)) (hi' : l = i) (hj : h = j) (ht : m = t) (hij : i ≤ j) (hjt : j ≤ t) (htc : t ≤ cap)
    (hu : C.P.underlying T = some (.slice E)) (hs : Sz C.P E sz)
    (k : Tr C ops rest ⟨(d, .slice (some ⟨b, if t = i then o else o + i * sz, none⟩) (j - i) (t - i)) :: sl, hp⟩ Q) : Tr C ops ((c, ⟨some d, .slice T x (some lo) (some hi) (some mx), ty, pos, af, g⟩) :: rest) ⟨sl, hp⟩ Q :=
  .pv hg hk ⟨fun z hz => by
    simp [Op.operands] at hz
    rcases hz with rfl | rfl | rfl | rfl
    · simp [hx]
    · simp [hl]
    · simp [hh]
    · simp [hm], fun ρ hfi w => by
    have h1 := hfi x (by simp [Op.operands]); rw [hx] at h1
    have h2 := hfi lo (by simp [Op.operands]); rw [hl] at h2
    have h3 := hfi hi (by simp [Op.operands]); rw [hh] at h3
    have h4 := hfi mx (by simp [Op.operands]); rw [hm] at h4
    simp only [Option.some.injEq] at h1 h2 h3 h4
    subst hi'
    subst hj
    subst ht
    by_cases e : t = i
    · subst e
      simp [execOp, Instr.sliceAt, Instr.slice, ← h1, ← h2, ← h3, ← h4, run_underlying hu, Instr.sliceBounds, Instr.sliceBound, asIntOf, run_sz hs, add_addr, hjt, hij, htc]
    · simp [execOp, Instr.sliceAt, Instr.slice, ← h1, ← h2, ← h3, ← h4, run_underlying hu, Instr.sliceBounds, Instr.sliceBound, asIntOf, run_sz hs, add_addr, e, hjt, hij, htc]⟩ k
end

/-! ### the iterator's side: an operation that calls yield -/
def YOp (C : Cx) (y : Oper) (s : St) (K : St → Prop) : Prop := y.guard = none ∧ ∀ a w, Rep C s a w → y.wpIn Fence.wide 0 C.P a w (fun a' w' => ∃ s2, Rep C s2 a' w' ∧ K s2) (fun _ _ _ => False)

theorem Sat.regionY {C : Cx} {id : Nat} {ops : List Oper} {s : St} {Q : Exit → St → Prop} (k : Nat) {y : Oper} (hy : ops[k]? = some y) (hnd : noDefer ops.toArray = true)
    (h : Tr C ops.toArray ((ops.take k).map fun o => (4, o)) s (fun s1 => YOp C y s1 fun s2 => Tr C ops.toArray ((ops.drop (k + 1)).map fun o => (4, o)) s2 (Q .normal))) : Sat C (.region id ops.toArray false) s Q := by
  intro a w r
  refine wpIn_wide (n := 0).1 ?_
  refine wpIn_mono (Q := Fin C (Q .normal)) ?_ fun e a' w' ⟨he, s', r', q⟩ => by subst he; exact ⟨s', r', q⟩
  have hk : k < ops.length := by
    rcases Nat.lt_or_ge k ops.length with h1 | h1
    · exact h1
    · rw [List.getElem?_eq_none h1] at hy; cases hy
  refine wpIn_region ?_
  have e : List.range ops.toArray.size = List.range k ++ k :: List.range' (k + 1) (ops.length - (k + 1)) := by
    rw [List.size_toArray, List.range_eq_range', List.range_eq_range', show ops.length = k + (1 + (ops.length - (k + 1))) by omega, ← List.range'_append_1, ← List.range'_append_1]
    simp
    omega
  rw [e]
  have hB : ∀ s2 a w, Rep C s2 a w → Tr C ops.toArray ((ops.drop (k + 1)).map fun o => (4, o)) s2 (Q .normal) → wpOpsIn Fence.wide 0 C.P ops.toArray (Fin C (Q .normal)) (List.range' (k + 1) (ops.length - (k + 1))) a w := fun s2 a w r2 h2 => by
    refine wpOps_in (ro := none) hnd fin_out _ _ _ (wpOps_of_tr _ _ s2 a w _ (by simp) (fun j => ?_) r2 h2 fun s' a' w' r' q => ⟨rfl, s', r', q⟩)
    by_cases hj : j < ops.length - (k + 1)
    · rw [List.getElem?_range' hj]
      simp only [Option.bind_some, List.getElem?_map, List.getElem?_drop, List.getElem?_toArray, Nat.one_mul]
      cases ops[k + 1 + j]? <;> rfl
    · rw [List.getElem?_eq_none (by simp; omega), List.getElem?_map, List.getElem?_drop, List.getElem?_eq_none (by omega)]
      rfl
  have hA : ∀ (l : List (Nat × Oper)) (is : List Nat) (s : St) (a : Act) (w : World), is.length = l.length → (∀ j : Nat, (is[j]?).bind (fun i => ops.toArray[i]?) = (l[j]?).map Prod.snd) → Rep C s a w →
      Tr C ops.toArray l s (fun s1 => YOp C y s1 fun s2 => Tr C ops.toArray ((ops.drop (k + 1)).map fun o => (4, o)) s2 (Q .normal)) →
      wpOpsIn Fence.wide 0 C.P ops.toArray (Fin C (Q .normal)) (is ++ k :: List.range' (k + 1) (ops.length - (k + 1))) a w := by
    intro l
    induction l with
    | nil =>
      intro is s a w hl _ r h
      have : is = [] := List.eq_nil_of_length_eq_zero hl
      subst this
      cases h with
      | dup h => exact absurd r.rh.nodup h
      | nil h =>
        rw [List.nil_append, wpOpsIn_cons]
        unfold wpOpIn
        have hy' : ops.toArray[k]? = some y := by simpa using hy
        rw [hy']
        simp only
        rw [if_pos (by unfold Region.wanted; rw [h.1])]
        have := h.2 a w r
        refine Oper.wpIn_mono (K := fun a' w' => ∃ s2, Rep C s2 a' w' ∧ Tr C ops.toArray ((ops.drop (k + 1)).map fun o => (4, o)) s2 (Q .normal)) (fun a' w' ⟨s2, r2, h2⟩ => hB s2 a' w' r2 h2) ?_
        unfold Oper.wpIn at this ⊢
        refine ⟨this.1, ?_⟩
        have := this.2
        generalize (y.semAt Fence.wide.round a.eval).run C.P w = res at this ⊢
        cases res with
        | ok x w' =>
          cases x <;> simp only [Oper.uponIn] at this ⊢
          case value => exact this
          case skip => exact this
          case defer => exact this
          case enter f args =>
            refine ⟨this.1, CallsIn.mono this.2 fun e w'' he => ?_⟩
            cases e with
            | returned v => exact he
            | panicked ch => exact he.elim
            | outgrown => exact he.elim (fun _ hx => hx.elim (fun _ hy => hy.elim))
          case row row args => exact this
          case round l f tmps as bd =>
            refine ⟨this.1, RoundIn.mono this.2 fun e w'' he => ?_⟩
            cases e with
            | returned v => exact he
            | panicked ch => exact he.elim
            | outgrown => exact he.elim (fun _ hx => hx.elim (fun _ hy => hy.elim))
        | halt x w' => cases x <;> simp only [Oper.uponIn] at this
    | cons p l ih =>
      intro is s a w hl he r h
      obtain ⟨c, o⟩ := p
      cases is with
      | nil => cases hl
      | cons i is =>
        rw [List.cons_append, wpOpsIn_cons]
        have h0 : ops.toArray[i]? = some o := by simpa using he 0
        refine wpOp_in (ro := none) (X := Fin C (Q .normal)) (Tr.step h0 h a w r _ (fun s' a' w' r' k' => ?_) _) hnd fin_out
        exact ih is s' a' w' (by simpa using hl) (fun j => by simpa using he (j + 1)) r' k'
  refine hA _ (List.range k) s a w (by simp; omega) (fun j => ?_) r h
  by_cases hj : j < k
  · rw [List.getElem?_range hj]
    simp only [Option.bind_some, List.getElem?_map, List.getElem?_toArray]
    rw [List.getElem?_take_of_lt hj]
    cases ops[j]? <;> rfl
  · rw [List.getElem?_eq_none (by simp; omega), List.getElem?_map, List.getElem?_eq_none (by simp; omega)]
    rfl

theorem yop {P : Program} {w1 : World} {N : Nat} {names : List Nat} {sl : List (Nat × Value)} {hp hp' : List Blk} {d : Nat} {ty : TypeId} {pos : String} {af : Array Edge} {f x : Operand} {ats : Array TypeId} {l : Nat} {v : Value} {K : St → Prop} (hd : Nat.blt d N = true)
    (hf : evIn sl f = some (.func (.yield l) #[] #[])) (hx : evIn sl x = some v) (hY : ∀ w, HRep ⟨P, w1, 0, names, [], []⟩ hp w → YieldAt Fence.wide 0 P l #[v] w fun e w' => e = .returned (.bool true) ∧ HRep ⟨P, w1, 0, names, [], []⟩ hp' w')
    (k : K ⟨(d, .bool true) :: sl, hp'⟩) : YOp ⟨P, w1, N, names, [], []⟩ ⟨some d, .call ⟨.value f, #[x], ats⟩, ty, pos, af, none⟩ ⟨sl, hp⟩ K := by
  refine ⟨rfl, fun a w r => ?_⟩
  have h1 := r.rs.eval hf
  have h2 := r.rs.eval hx
  obtain ⟨fn, tmps, as, bd, hrun, hR⟩ := hY w ⟨r.rh.cells, r.rh.nodup, r.rh.own, r.rh.keeps, r.rh.kok, r.rh.kd⟩
  refine ⟨fun _ _ => trivial, ?_⟩
  rw [show (Oper.semAt Fence.wide.round a.eval ⟨some d, .call ⟨.value f, #[x], ats⟩, ty, pos, af, none⟩).run P w = .ok (.round l fn tmps as bd) w by
    rw [Oper.semAt_eq _ _ _ (by intro c hc; cases hc)]
    simp [execOp, resolve, Deferred.ofValue, h1, h2, invoke, hrun]]
  simp only [Oper.uponIn]
  refine ⟨fun h0 => (by cases h0), RoundIn.mono hR fun e w' ⟨he, hh⟩ => ?_⟩
  subst he
  exact ⟨⟨(d, .bool true) :: sl, hp'⟩, ⟨r.rs.put (some d) (.bool true) fun t ht => by cases ht; exact nblt hd, hh.cells, hh.nodup, hh.own, hh.keeps, hh.kok, hh.kd⟩, k⟩

/-! ### the caller's side -/
theorem HRep.base {P : Program} {w : World} {N : Nat} {names : List Nat} {hp : List Blk} (hc : ∀ b ∈ hp, BlkOk w b) (hn : hp.map (·.n) = names) (hd : names.Nodup) : HRep ⟨P, w, N, names, [], []⟩ hp w :=
  ⟨hc, by rw [hn]; exact hd, fun b hb => .inr (by rw [← hn]; exact List.mem_map.2 ⟨b, hb, rfl⟩), Keeps.refl _ _, fun _ h => (by cases h), fun _ _ _ h => (by cases h)⟩
theorem HRep.reN' {P : Program} {w w' : World} {N N' : Nat} {names : List Nat} {hp : List Blk} (h : HRep ⟨P, w, N, names, [], []⟩ hp w') : HRep ⟨P, w, N', names, [], []⟩ hp w' :=
  ⟨h.cells, h.nodup, h.own, h.keeps, h.kok, h.kd⟩
theorem HRep.reN {P : Program} {w w' : World} {N N' : Nat} {names : List Nat} {hp : List Blk} (h : HRep ⟨P, w, N, names, [], []⟩ hp w') : HRep ⟨P, w, N', names, [], []⟩ hp w' :=
  ⟨h.cells, h.nodup, h.own, h.keeps, h.kok, h.kd⟩

theorem wpIn_range {C : Cx} {sl : List (Nat × Value)} {g : Operand} {p0 : Tmp} {assign body : Code} {QQ : Exit → Act → World → Prop} {a : Act} {w : World} {gf : Nat} {lb : Array Value} (hpF : Nat → List Blk) (names : List Nat) (enc : Nat → Value) (K : Nat) (slA : Nat → List (Nat × Value))
    (hrep : Rep C ⟨sl, hpF 0⟩ a w) (hkb : C.kb = []) (hg : evIn sl g = some (.func (.func gf) #[] lb)) (eg : Body C.P gf) (hp0 : p0 < C.N) (hnames : ∀ i, (hpF i).map (·.n) = names)
    (iter : ∀ (l : Nat) (w1 : World), HRep ⟨C.P, w1, 0, names, [], []⟩ (hpF 0) w1 →
      (∀ i, i < K → ∀ W, HRep ⟨C.P, w1, 0, names, [], []⟩ (hpF i) W → YieldAt Fence.wide 0 C.P l #[enc i] W fun e W' => e = .returned (.bool true) ∧ HRep ⟨C.P, w1, 0, names, [], []⟩ (hpF (i + 1)) W') →
      CallsIn Fence.wide 0 C.P gf (#[.func (.yield l) #[] #[]] ++ lb) w1 fun e W' => (∃ v, e = .returned v) ∧ HRep ⟨C.P, w1, 0, names, [], []⟩ (hpF K) W')
    (hassign : ∀ i, i < K → ∀ l W, HRep ⟨C.P, W, C.N, names, [], []⟩ (hpF i) W → SatI (some l) ⟨C.P, W, C.N, names, [], []⟩ assign ⟨(p0, enc i) :: sl, hpF i⟩ (fun s' => s'.hp = hpF i ∧ s'.sl = slA i))
    (hbody : ∀ i, i < K → ∀ l W, HRep ⟨C.P, W, C.N, names, [], []⟩ (hpF i) W → SatI (some l) ⟨C.P, W, C.N, names, [], []⟩ body ⟨slA i, hpF i⟩ (fun s' => s'.hp = hpF (i + 1)))
    (hdone : ∀ D W, HRep C (hpF K) W → W.heap[D]? = some (.deferred (some [])) → C.W0.heap.size ≤ D → D ∉ names → QQ .normal { a with defers := { target := .collected D, args := #[] } :: a.defers } W) :
    (Code.rangeFunc g #[p0] assign body).wpIn Fence.wide 0 C.P QQ a w := by
  have hnd : names.Nodup := by rw [← hnames 0]; exact hrep.rh.nodup
  have hlt : ∀ k ∈ names, k < w.heap.size := fun k hk => by
    rw [← hnames 0] at hk
    obtain ⟨b, hb, rfl⟩ := List.mem_map.1 hk
    exact (hrep.rh.cells b hb).lt
  have inN : ∀ i, ∀ b ∈ hpF i, b.n ∈ names := fun i b hb => by rw [← hnames i]; exact List.mem_map.2 ⟨b, hb, rfl⟩
  refine wpIn_rangeFunc ?_
  intro fn _
  obtain ⟨rec, hrec⟩ : ∃ rec : LoopState → Option Code → Loop, rec = fun st pe => { state := st, pending := pe, fn, tmps := a.tmps, params := #[p0], assign, body, defers := w.heap.size } := ⟨_, rfl⟩
  obtain ⟨w1, hw1⟩ : ∃ w1, (w.alloc (.deferred (some []))).alloc (.loop (rec .ready none)) = w1 := ⟨_, rfl⟩
  have hsz1 : w1.heap.size = w.heap.size + 2 := by rw [← hw1]; simp
  have hL1 : w1.heap[w.heap.size + 1]? = some (.loop (rec .ready none)) := by
    rw [← hw1]; have := World.alloc_heap_new (w.alloc (.deferred (some []))) (.loop (rec .ready none)); rwa [World.size_alloc] at this
  have hK1 : w1.heap[w.heap.size]? = some (.deferred (some [])) := by
    rw [← hw1]; exact (Below.heap_alloc _ _ _ (by simp)).trans (World.alloc_heap_new w _)
  have hold : ∀ k, k < w.heap.size → w1.heap[k]? = w.heap[k]? := fun k hk => by
    rw [← hw1]; exact (Below.heap_alloc _ _ _ (by simp; omega)).trans (Below.heap_alloc _ _ _ hk)
  have hH : HRep ⟨C.P, w1, 0, names, [], []⟩ (hpF 0) w1 := HRep.base (fun b hb => (hrep.rh.cells b hb).of_heap (hold _ (hrep.rh.cells b hb).lt)) (hnames 0) hnd
  have lN : w.heap.size + 1 ∉ names := fun h => by have := hlt _ h; omega
  have dN : w.heap.size ∉ names := fun h => by have := hlt _ h; omega
  refine ⟨w.heap.size + 1, [{ target := .collected w.heap.size, args := #[] }], w1, { target := .fn (.func gf) lb, args := #[.func (.yield (w.heap.size + 1)) #[] #[]] }, w1, gf,
    #[.func (.yield (w.heap.size + 1)) #[] #[]] ++ lb, w1, ?_, ?_, fun _ _ => trivial, ?_, fun h => (by cases h), ?_⟩
  · rw [← hw1, hrec]; exact run_enterLoop_outer _ _ _ _ _
  · have := hrep.rs.eval hg
    simp only [resolve, this]
    simp [go_sem]
  · have := eg (#[.func (.yield (w.heap.size + 1)) #[] #[]] ++ lb) w1
    simpa [invoke] using this
  refine (iter (w.heap.size + 1) w1 hH fun i hi W hh => ?_).mono ?_
  · -- one round
    have hl : W.heap[w.heap.size + 1]? = some (.loop (rec .ready none)) := (hh.keeps.block _ (by show _ < w1.heap.size; omega) lN).trans hL1
    have hy := run_yield (P := C.P) (args := #[enc i]) hl (by rw [hrec]; rfl)
    rw [hrec] at hy
    have rep0 : Rep ⟨C.P, W, C.N, names, [], []⟩ ⟨(p0, enc i) :: sl, hpF i⟩ { tmps := (#[p0].zip #[enc i]).foldl (fun t (p, v) => t.setIfInBounds p v) a.tmps, defers := [] } W := by
      refine ⟨?_, HRep.base hh.cells (hnames i) hnd⟩
      have s0 : SRep [] C.N sl ⟨a.tmps, []⟩ := ⟨hrep.rs.size, rfl, hrep.rs.slots⟩
      have s1 := s0.put (some p0) (enc i) fun t ht => by cases ht; exact hp0
      have e : (#[p0].zip #[enc i]).foldl (fun t (p, v) => t.setIfInBounds p v) a.tmps = a.tmps.setIfInBounds p0 (enc i) := by simp
      rw [e]
      exact s1
    refine ⟨fn, _, assign, body, hy, roundIn_of_wpIn trivial ?_⟩
    refine wpIn_mono (hassign i hi (w.heap.size + 1) W (HRep.base hh.cells (hnames i) hnd) _ _ rep0) fun e a1 W1 ⟨he, s1, r1, hs1, hs2⟩ => ?_
    subst he
    have hl1 : W1.heap[w.heap.size + 1]? = some (.loop (rec .ready none)) := (r1.rh.keeps.block _ (Array.getElem?_eq_some_iff.1 hl).1 lN).trans hl
    have hlt1 := (Array.getElem?_eq_some_iff.1 hl1).1
    refine ⟨_, run_beginRound hl1 (by rw [hrec]), ?_⟩
    obtain ⟨W2, hW2⟩ : ∃ W2, W1.putObj (w.heap.size + 1) (.loop { rec .ready none with state := .busy }) = W2 := ⟨_, rfl⟩
    rw [hW2]
    have ne1 : ∀ j, ∀ b ∈ hpF j, b.n ≠ w.heap.size + 1 := fun j b hb e => lN (e ▸ inN j b hb)
    have hc2 : ∀ b ∈ hpF i, BlkOk W2 b := fun b hb => by
      rw [← hs1] at hb
      refine (r1.rh.cells b hb).of_heap ?_
      rw [← hW2]
      rw [hs1] at hb
      exact World.putObj_heap_other (ne1 i b hb)
    have hl2 : W2.heap[w.heap.size + 1]? = some (.loop { rec .ready none with state := .busy }) := by rw [← hW2]; exact World.putObj_heap_same hlt1
    have rep2 : Rep ⟨C.P, W2, C.N, names, [], []⟩ ⟨slA i, hpF i⟩ a1 W2 := ⟨by have := r1.rs; rw [hs2] at this; exact this, HRep.base hc2 (hnames i) hnd⟩
    refine wpIn_mono (hbody i hi (w.heap.size + 1) W2 (HRep.base hc2 (hnames i) hnd) _ _ rep2) fun e a3 W3 ⟨he, s3, r3, hs3⟩ => ?_
    subst he
    have hl3 : W3.heap[w.heap.size + 1]? = some (.loop { rec .ready none with state := .busy }) := (r3.rh.keeps.block _ (Array.getElem?_eq_some_iff.1 hl2).1 lN).trans hl2
    have hend := run_endRound (P := C.P) none hl3
    refine ⟨_, _, hend, rfl, ?_⟩
    have hlt3 := (Array.getElem?_eq_some_iff.1 hl3).1
    refine ⟨fun b hb => ?_, by rw [hnames]; exact hnd, fun b hb => .inr (inN _ b hb), ?_, fun _ h => (by cases h), fun _ _ _ h => (by cases h)⟩
    · refine BlkOk.of_heap (r3.rh.cells b (by rw [hs3]; exact hb)) ?_
      exact World.putObj_heap_other (ne1 _ b hb)
    · have k1 := hh.keeps
      have k2 := r1.rh.keeps
      have k3 := r3.rh.keeps
      have os2 : W2.os = W1.os := by rw [← hW2]; rfl
      have tp2 : W2.tape = W1.tape := by rw [← hW2]; rfl
      have ot2 : W2.output = W1.output := by rw [← hW2]; rfl
      have sz2 : W2.heap.size = W1.heap.size := by rw [← hW2]; simp [World.putObj]
      refine ⟨k3.os.trans (os2.trans (k2.os.trans k1.os)), k3.tape.trans (tp2.trans (k2.tape.trans k1.tape)), k3.output.trans (ot2.trans (k2.output.trans k1.output)), ?_, fun j hj hjn => ?_⟩
      · have h1 := k1.size
        have h2 := k2.size
        have h3 := k3.size
        show w1.heap.size ≤ _
        have : (W3.putObj (w.heap.size + 1) (.loop { rec .ready none with state := .ready })).heap.size = W3.heap.size := by simp [World.putObj]
        simp only [World.putObj, Array.size_setIfInBounds]
        simp only at h1 h2 h3
        omega
      · by_cases hjl : j = w.heap.size + 1
        · subst hjl
          rw [hL1]
          refine (World.putObj_heap_same hlt3).trans ?_
          rw [hrec]
          rfl
        · refine (World.putObj_heap_other hjl).trans ?_
          have h1 := k1.size
          have h2 := k2.size
          simp only at h1 h2 hj
          refine (k3.block j (by simp only; omega) hjn).trans ?_
          simp only
          rw [← hW2]
          refine (World.putObj_heap_other hjl).trans ?_
          exact (k2.block j (by simp only; omega) hjn).trans (k1.block j hj hjn)
  · -- behind the iterator
    rintro e W ⟨⟨v, rfl⟩, hh⟩
    have hl : W.heap[w.heap.size + 1]? = some (.loop (rec .ready none)) := (hh.keeps.block _ (by show _ < w1.heap.size; omega) lN).trans hL1
    have hd : W.heap[w.heap.size]? = some (.deferred (some [])) := (hh.keeps.block _ (by simp only; omega) dN).trans hK1
    refine ⟨none, _, by have := run_endLoop (P := C.P) hl (by rw [hrec]; simp); rw [hrec] at this; exact this, ?_⟩
    have kw := hrep.rh.keeps
    refine hdone w.heap.size _ ⟨fun b hb => (hh.cells b hb).of_heap (World.putObj_heap_other fun e => lN (e ▸ inN K b hb)), by rw [hnames]; exact hnd, fun b hb => ?_, ?_, by rw [hkb]; exact fun _ h => (by cases h), by rw [hkb]; exact fun _ _ _ h => (by cases h)⟩
      ((World.putObj_heap_other (by omega)).trans hd) kw.size dN
    · have := inN K b hb
      rw [← hnames 0] at this
      obtain ⟨b0, hb0, e⟩ := List.mem_map.1 this
      rw [← e]
      exact hrep.rh.own b0 hb0
    · have k1 := hh.keeps
      have osw : w1.os = w.os ∧ w1.tape = w.tape ∧ w1.output = w.output := by rw [← hw1]; exact ⟨rfl, rfl, rfl⟩
      refine ⟨k1.os.trans (osw.1.trans kw.os), k1.tape.trans (osw.2.1.trans kw.tape), k1.output.trans (osw.2.2.trans kw.output), ?_, fun j hj hjn => ?_⟩
      · have h1 := k1.size
        have h2 := kw.size
        simp only [World.putObj, Array.size_setIfInBounds]
        simp only at h1
        omega
      · have h2 := kw.size
        have hjN : j ∉ names := fun h => by
          rw [← hnames 0] at h
          obtain ⟨b0, hb0, e⟩ := List.mem_map.1 h
          rcases hrep.rh.own b0 hb0 with h3 | h3
          · omega
          · exact hjn (e ▸ h3)
        refine (World.putObj_heap_other (by omega)).trans ?_
        exact (k1.block j (by simp only; omega) hjN).trans ((hold j (by omega)).trans (kw.block j hj hjn))

/-- the end of a function, whatever world its frame began in -/
def endAtA (P : Program) (N : Nat) (ds : List Deferred) (fn : Func) (R : Value → List Blk → Prop) (s : St) : Prop :=
  ∃ v out, (∀ W names, Res ⟨P, W, N, names, [], ds⟩ fn s v) ∧ (∀ b ∈ out, b ∈ s.hp) ∧ ((s.hp.map (·.n)).Nodup → (out.map (·.n)).Nodup) ∧ R v out
def endQA (P : Program) (N : Nat) (ds : List Deferred) (fn : Func) (R : Value → List Blk → Prop) : Exit → St → Prop
  | .normal, s | .ret, s => endAtA P N ds fn R s
  | _, _ => False
theorem enA_r {P : Program} {N : Nat} {ds : List Deferred} {fn : Func} {R : Value → List Blk → Prop} {s : St} (h : endAtA P N ds fn R s) : endQA P N ds fn R .ret s := h
/-- what a function owes at its one range over a function -/
def RangeSt (P : Program) (W : World) (N : Nat) (fn : Func) (g : Operand) (p0 : Tmp) (assign body tail : Code) (R : Value → List Blk → Prop) (s : St) : Prop :=
  ∃ (gf : Nat) (lb : Array Value) (hpF : Nat → List Blk) (names : List Nat) (enc : Nat → Value) (K : Nat) (slA : List (Nat × Value) → Nat → List (Nat × Value)), s.hp = hpF 0 ∧ evIn s.sl g = some (.func (.func gf) #[] lb) ∧ Body P gf ∧ p0 < N ∧ (∀ i, (hpF i).map (·.n) = names) ∧
    (∀ (l : Nat) (w1 : World), HRep ⟨P, w1, 0, names, [], []⟩ (hpF 0) w1 →
      (∀ i, i < K → ∀ W, HRep ⟨P, w1, 0, names, [], []⟩ (hpF i) W → YieldAt Fence.wide 0 P l #[enc i] W fun e W' => e = .returned (.bool true) ∧ HRep ⟨P, w1, 0, names, [], []⟩ (hpF (i + 1)) W') →
      CallsIn Fence.wide 0 P gf (#[.func (.yield l) #[] #[]] ++ lb) w1 fun e W' => (∃ v, e = .returned v) ∧ HRep ⟨P, w1, 0, names, [], []⟩ (hpF K) W') ∧
    (∀ i, i < K → ∀ l W, HRep ⟨P, W, N, names, [], []⟩ (hpF i) W → SatI (some l) ⟨P, W, N, names, [], []⟩ assign ⟨(p0, enc i) :: s.sl, hpF i⟩ (fun s' => s'.hp = hpF i ∧ s'.sl = slA s.sl i)) ∧
    (∀ i, i < K → ∀ l W, HRep ⟨P, W, N, names, [], []⟩ (hpF i) W → SatI (some l) ⟨P, W, N, names, [], []⟩ body ⟨slA s.sl i, hpF i⟩ (fun s' => s'.hp = hpF (i + 1))) ∧
    (∀ D W2, Sat ⟨P, W2, N, names, [], [{ target := .collected D, args := #[] }]⟩ tail ⟨s.sl, hpF K⟩ (endQA P N [{ target := .collected D, args := #[] }] fn R))

theorem calls_range {P : Program} {f : FuncId} {fn : Func} {R0 R1 assign body tail : Code} {id : Nat} {g : Operand} {p0 : Tmp} {args : List Value} {W : World} {R : Value → List Blk → Prop}
    (hf : P.funcs[f]? = some fn) (hb : fn.body = some (.seq R0 (.seq (.seq R1 (.block id (.rangeFunc g #[p0] assign body))) tail))) (N : Nat) (hN : fn.ntmps = N) (hlen : Nat.ble args.length N = true)
    (h : Sat ⟨P, W, N, [], [], []⟩ R0 ⟨argSlots 0 args, []⟩ (thenQ (fun s' => Sat ⟨P, W, N, [], [], []⟩ R1 s' (thenQ (RangeSt P W N fn g p0 assign body tail R) (fun _ _ => False))) (fun _ _ => False))) :
    Calls P f args.toArray W fun e W' => ∃ v out, e = .returned v ∧ R v out ∧ Ret [] out W W' := by
  have hlen := Nat.le_of_ble_eq_true hlen
  subst hN
  refine callsIn_wide.1 (callsIn_of_wp_marks (F := Fence.wide) (n := 0) hf hb trivial ?_)
  have rep0 : Rep ⟨P, W, fn.ntmps, [], [], []⟩ ⟨argSlots 0 args, []⟩ { tmps := args.toArray ++ Array.replicate (fn.ntmps - args.toArray.size) undef, defers := [] } W := by
    refine ⟨⟨?_, rfl, fun t v ht => ?_⟩, HRep.nil _⟩
    · simp; omega
    · have := argSlots_look args 0 t v ht
      rw [Array.getElem?_append]
      have hlt : t < args.length := by
        rcases Nat.lt_or_ge t args.length with h1 | h1
        · exact h1
        · rw [List.getElem?_eq_none (by omega)] at this; cases this.2
      simp only [List.size_toArray]
      rw [if_pos hlt]
      simpa using this.2
  refine wpIn_seq (wpIn_wide.2 (wp_mono (h _ _ rep0) fun e a w ⟨s, r, q⟩ => ?_))
  cases e with
  | normal =>
    refine wpIn_seq (wpIn_seq (wpIn_wide.2 (wp_mono (q a w r) fun e a1 w1 ⟨s1, r1, q1⟩ => ?_)))
    cases e with
    | normal =>
      obtain ⟨gf, lb, hpF, names, enc, K, slA, hs, hg, eg, hp0, hnames, iter, hassign, hbody, htail⟩ := q1
      obtain ⟨sl, hp⟩ := s1
      simp only at hs hg hassign htail
      subst hs
      refine wpIn_block (wpIn_range (C := ⟨P, W, fn.ntmps, [], [], []⟩) hpF names enc K (slA sl) r1 rfl hg eg hp0 hnames iter hassign hbody fun D W2 hh hD hDl hDn => ?_)
      refine wpIn_wide.2 ?_
      have hnd : names.Nodup := by rw [← hnames K]; exact hh.nodup
      have rep2 : Rep ⟨P, W2, fn.ntmps, names, [], [{ target := .collected D, args := #[] }]⟩ ⟨sl, hpF K⟩ { a1 with defers := { target := .collected D, args := #[] } :: a1.defers } W2 := by
        refine ⟨⟨r1.rs.size, ?_, r1.rs.slots⟩, hh.cells, hh.nodup, fun b hb => .inr ?_, Keeps.refl _ _, fun _ h => (by cases h), fun _ _ _ h => (by cases h)⟩
        · show _ :: a1.defers = _
          rw [r1.rs.defers]
        · show b.n ∈ names
          rw [← hnames K]; exact List.mem_map.2 ⟨b, hb, rfl⟩
      refine wp_mono (htail D W2 _ _ rep2) fun e a3 W3 ⟨s3, r3, q3⟩ => ?_
      have own : ∀ b : Blk, (W2.heap.size ≤ b.n ∨ b.n ∈ names) → W.heap.size ≤ b.n := fun b hb => by
        rcases hb with h1 | h1
        · exact Nat.le_trans hh.keeps.size h1
        · rw [← hnames K] at h1
          obtain ⟨b0, hb0, e⟩ := List.mem_map.1 h1
          rcases hh.own b0 hb0 with h2 | h2
          · rw [← e]; exact h2
          · cases h2
      have fin : endAtA P fn.ntmps [{ target := .collected D, args := #[] }] fn R s3 → LeavesInM Fence.wide 0 P fn a3.tmps (fun e W' => ∃ v out, e = .returned v ∧ R v out ∧ Ret [] out W W') a3.defers .returning W3 := by
        rintro ⟨v, out, hr, hsub, hnd3, hR⟩
        have hd3 : a3.defers = [{ target := .collected D, args := #[] }] := r3.rs.defers
        rw [hd3]
        have hD3 : W3.heap[D]? = some (.deferred (some [])) := (r3.rh.keeps.block D (Array.getElem?_eq_some_iff.1 hD).1 hDn).trans hD
        refine ⟨by simp, .inl ⟨D, _, rfl, run_takeDeferred hD3, ?_⟩⟩
        have hDout : ∀ b ∈ s3.hp, b.n ≠ D := fun b hb e => by
          obtain ⟨full, fr, hbk⟩ := r3.rh.cells b hb
          have := hbk.heap
          rw [e, hD3] at this
          cases this
        have rep4 : Rep ⟨P, W3.putObj D (.deferred none), fn.ntmps, s3.hp.map (·.n), [], [{ target := .collected D, args := #[] }]⟩ s3 a3 (W3.putObj D (.deferred none)) :=
          ⟨⟨r3.rs.size, r3.rs.defers, r3.rs.slots⟩, fun b hb => (r3.rh.cells b hb).of_heap (World.putObj_heap_other (hDout b hb)), r3.rh.nodup, fun b hb => .inr (List.mem_map.2 ⟨b, hb, rfl⟩), Keeps.refl _ _, fun _ h => (by cases h), fun _ _ _ h => (by cases h)⟩
        refine ⟨v, ?_, v, out, rfl, hR, ⟨?_, fun b hb => rep4.rh.cells b (hsub b hb), hnd3 r3.rh.nodup, fun b hb => .inl (own b (r3.rh.own b (hsub b hb)))⟩⟩
        · exact hr _ _ _ _ rep4
        · have k1 := hh.keeps
          have k2 := r3.rh.keeps
          refine ⟨k2.os.trans k1.os, k2.tape.trans k1.tape, k2.output.trans k1.output, ?_, fun j hj hjn => ?_⟩
          · have h1 := k1.size
            have h2 := k2.size
            simp only [World.putObj, Array.size_setIfInBounds]
            simp only at h1 h2
            omega
          · simp only at hDl
            refine (World.putObj_heap_other (by omega)).trans ?_
            have h1 := k1.size
            simp only at h1
            refine (k2.block j (by simp only; omega) (fun hjn2 => ?_)).trans (k1.block j hj hjn)
            have := own ⟨j, [], 0, 0⟩ (.inr hjn2)
            simp only at this
            omega
      cases e with
      | normal => exact fin q3
      | ret => exact fin q3
      | _ => exact q3.elim
    | _ => exact q1.elim
  | _ => exact q.elim
end Hw
