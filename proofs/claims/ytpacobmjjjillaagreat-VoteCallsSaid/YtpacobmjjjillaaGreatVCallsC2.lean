/- Contracts of functions of the loaded program, and the lemmas that they need (part 2). It proves no statement by itself; it has no conditions. -/
import Derived.WalkKit
import Derived.Orders
import Derived.Deep.LoopGhost
import Derived.IntWalk
import Derived.Laws.StructEq
import Derived.ArgAppend
import Derived.Deep.AppendSrc
import Derived.Lib.Bytealg
import Derived.Lib.BytesEntry
import Derived.Laws.IdiomStrings
import Derived.WideKeyArr2
import Derived.ProofKit
import Derived.OpenShut
import Derived.Deep.Slices
import Derived.Laws.Pointers
import Derived.Laws.Cover3
import Derived.LaidEqlPtr
import Derived.LoopN
import Derived.RangeFuncLeaves
import Derived.RangeFuncSeq
import Derived.OrdersIn
import Derived.Test.YtpacobmjjjillaaGreatRows
import Derived.KernelRfl
import Derived.Laws.Externs
import Derived.Defers
import Derived.Laws.MathBits
import Derived.ChangeOld
import Derived.Below
import Derived.Test.YtpacobmjjjillaaGreatVCallsC1
set_option maxRecDepth 100000
set_option maxHeartbeats 8000000
section
namespace Hw
open Go Go.RowKit
set_option linter.unusedSimpArgs false
set_option linter.unusedVariables false

def FW (ro : Option Nat) : Fence := { Fence.wide with round := ro }
def noDefer (ops : Array Oper) : Bool := ops.all fun o => match o.op with | .defer _ => false | _ => true
theorem noDefer_at {ops : Array Oper} (h : noDefer ops = true) {i : Nat} {o : Oper} (hi : ops[i]? = some o) : ∀ c, o.op ≠ .defer c := fun c hc => by
  obtain ⟨hlt, he⟩ := Array.getElem?_eq_some_iff.1 hi
  have := (Array.all_eq_true.1 h) i hlt
  rw [he, hc] at this
  cases this

section
variable {ro : Option Nat} {n : Nat} {P : Program}
theorem calls_FW {f : FuncId} {args : Array Value} {w : World} {R R' : Ending → World → Prop} (h : Calls P f args w R) (hr : ∀ e w, R e w → R' e w) : CallsIn (FW ro) n P f args w R' :=
  show CallsIn Fence.wide n P f args w R' from callsIn_wide.2 (h.mono hr)
theorem rows_FW {row : String} {args : Array Value} {w : World} {R : Value → World → Prop} (h : Rows P row args w R) : RowsIn (FW ro) n P row args w R :=
  show RowsIn Fence.wide n P row args w R from fun c cs _ => let ⟨v, w', r, s⟩ := h c cs; ⟨v, w', r, stepsIn_wide.2 s⟩

theorem wp_in {o : Oper} {a : Act} {w : World} {K : Act → World → Prop} {X : Exit → Act → World → Prop} (h : Oper.wp P o a w K X) (hnd : ∀ c, o.op ≠ .defer c) : Oper.wpIn (FW ro) n P o a w K X := by
  refine ⟨fun f _ => trivial, ?_⟩
  rw [Oper.semAt_eq _ _ _ hnd]
  unfold Oper.wp at h
  generalize (execOp a.eval o).run P w = r at h ⊢
  cases r with
  | ok x w' =>
    cases x <;> simp only [Oper.upon] at h <;> simp only [Oper.uponIn]
    case value => exact h
    case skip => exact h
    case defer => exact h
    case enter f args => exact ⟨fun h0 => (by cases h0), calls_FW h fun e w h => h⟩
    case row => exact ⟨fun h0 => (by cases h0), rows_FW h⟩
  | halt x w' => cases x <;> simp only [Oper.upon] at h <;> simp only [Oper.uponIn] <;> exact h

theorem wpOp_in {ops : Array Oper} {X : Exit → Act → World → Prop} {i : Nat} {K : Act → World → Prop} {a : Act} {w : World} (h : wpOp P ops X i K a w) (hnd : noDefer ops = true) (hX : ∀ a w, ¬ X .outgrown a w) : wpOpIn (FW ro) n P ops X i K a w := by
  unfold wpOp at h
  unfold wpOpIn
  cases ho : ops[i]? with
  | none => rw [ho] at h; exact h
  | some o =>
    rw [ho] at h
    simp only at h ⊢
    split
    · rename_i hw
      rw [if_pos hw] at h
      rcases h with h | ⟨_, a0, w0, h⟩
      · exact wp_in h (noDefer_at hnd ho)
      · exact absurd h (hX a0 w0)
    · rename_i hw
      rw [if_neg hw] at h
      exact ⟨fun f _ => trivial, h⟩
theorem wpOps_in {ops : Array Oper} {X : Exit → Act → World → Prop} (hnd : noDefer ops = true) (hX : ∀ a w, ¬ X .outgrown a w) : ∀ (l : List Nat) (a : Act) (w : World), wpOps P ops X l a w → wpOpsIn (FW ro) n P ops X l a w
  | [], a, w, h => h
  | i :: l, a, w, h => by
    rw [wpOps_cons] at h
    rw [wpOpsIn_cons]
    exact wpOpIn_mono (fun a w h => wpOps_in hnd hX l a w h) (wpOp_in h hnd hX)
end

/-- as Sat, in a round's frame (or a plain one) -/
def SatI (ro : Option Nat) (C : Cx) (code : Code) (s : St) (Q : St → Prop) : Prop :=
  ∀ a w, Rep C s a w → code.wpIn (FW ro) 0 C.P (Fin C Q) a w
theorem fin_out {C : Cx} {Q : St → Prop} : ∀ a w, ¬ Fin C Q .outgrown a w := fun a w h => by cases h.1
theorem SatI.region {ro : Option Nat} {C : Cx} {id : Nat} {ops : List Oper} {s : St} {Q : St → Prop} (hnd : noDefer ops.toArray = true) (h : Tr C ops.toArray (ops.map fun o => (4, o)) s Q) : SatI ro C (.region id ops.toArray false) s Q := by
  intro a w r
  refine wpIn_region (wpOps_in hnd fin_out _ _ _ (wpOps_of_tr _ _ s a w _ sP (fun k => ?_) r h fun s' a' w' r' q => ⟨rfl, s', r', q⟩))
  by_cases hk : k < ops.length
  · simp [hk]
  · simp [hk]
theorem SatI.draw {ro : Option Nat} {C : Cx} {id : Nat} {ops : List Oper} {s : St} {Q : St → Prop} (perm : List (Nat × Nat)) (hm : C.P.follows .mixedOrders = true) (hok : orderOk ops.toArray perm = true) (hnd : noDefer ops.toArray = true)
    (h : Tr C ops.toArray (items ops.toArray perm) s Q) : SatI ro C (.region id ops.toArray true) s Q := by
  intro a w r
  have hlen : perm.length ≤ ops.length := by
    simp only [orderOk, Bool.and_eq_true] at hok
    have hnd := topo_nodup perm [] hok.1.1
    have hlt : ∀ x ∈ perm.map (·.2), x ∈ List.range ops.length := fun x hx => by
      obtain ⟨p, hp, rfl⟩ := List.mem_map.1 hx
      have := (topo_mem perm [] hok.1.1 p hp).1
      simpa using this
    have := hnd.length_le_of_subset hlt
    simpa using this
  have h0 : perm.filter (fun p => !(Array.replicate ops.toArray.size false).getD p.2 false) = perm := List.filter_eq_self.2 fun p _ => by
    rw [Array.getD_eq_getD_getElem?, Array.getElem?_replicate]
    split <;> rfl
  have := wpAny_of_tr (C := C) hok ops.toArray.size (Array.replicate ops.toArray.size false) s a { w with drawn := w.drawn + 1 } Q sP
    (fun j hj => by
      rw [Array.getD_eq_getD_getElem?, Array.getElem?_replicate] at hj
      split at hj <;> simp at hj) (by rw [h0]; simpa using hlen) ⟨r.rs, r.rh.drew _⟩ (by rw [h0]; exact h)
  refine wpIn_region_draw fun t => ?_
  simp only [Region.schedule, hm, Bool.true_or, if_true]
  exact wpOps_in hnd fin_out _ _ _ (wpAny_sound ops.toArray.size t _ a _ this)
theorem SatI.block {ro : Option Nat} {C : Cx} {id : Nat} {x : Code} {s : St} {Q : St → Prop} (h : SatI ro C x s Q) : SatI ro C (.block id x) s Q := fun a w r =>
  wpIn_block (wpIn_mono (h a w r) fun e a w ⟨he, q⟩ => by subst he; exact ⟨rfl, q⟩)

/-- what an iterator's call leaves, as its caller sees it -/
theorem HRep.ofRet {P : Program} {w w' : World} {names : List Nat} {hp : List Blk} (h : Ret names hp w w') (hn : hp.map (·.n) = names) : HRep ⟨P, w, 0, names, [], []⟩ hp w' :=
  ⟨h.cells, h.nodup, fun b hb => .inr (by show b.n ∈ names; rw [← hn]; exact List.mem_map.2 ⟨b, hb, rfl⟩), h.keeps, fun _ h => (by cases h), fun _ _ _ h => (by cases h)⟩
theorem acc_pos {s : Sl} {bl : List Blk} {cells : List Value} {E : TypeId} {n size : Nat} (h : Acc s bl cells E n size) (hn : 0 < n) : ∃ q c, s = ⟨some ⟨q, 0, none⟩, n, c⟩ ∧ n ≤ c ∧ bl = [⟨q, cells, E, c * size⟩] := by
  rcases h with ⟨_, _, _, rfl⟩ | ⟨q, c, h1, h2, _, h4⟩
  · omega
  · exact ⟨q, c, h1, h2, h4⟩
section
variable {C : Cx} {ops : Array Oper} {rest : List (Nat × Oper)} {sl : List (Nat × Value)} {hp : List Blk} {Q : St → Prop} {c d : Nat} {ty : TypeId} {pos : String} {af : Array Edge} {g : Option (Nat × Bool)}
/-- a literal's row, marked as a string's: nothing turns -/
theorem Tr.constB {x : Operand} {b n cap : Nat} {T E : TypeId} {cs : List Value} {m : Nat} (hg : guardOk ops sl g = true) (hc : Nat.beq c 4 = true) (hd : Nat.blt d C.N = true) (hx : evIn sl x = some (.slice (some ⟨b, 0, none⟩) n cap)) (hu : C.P.underlying T = some (.slice E)) (he : C.P.underlying E = some (.int .u8)) (hb : (⟨b, cs, E, m⟩ : Blk) ∈ hp)
    (k : Tr C ops rest ⟨(d, .slice (some ⟨b, 0, none⟩) n cap) :: sl, hp⟩ Q) : Tr C ops ((c, ⟨some d, .convert T T x, ty, pos, af, g⟩) :: rest) ⟨sl, hp⟩ Q := by
  refine Tr.act (ρ := Unit) (fun _ => True) (fun _ => .slice (some ⟨b, 0, none⟩) n cap) (fun _ => hp) (nbeq' hc) (wantS_of_guardOk hg) (dst_some (nblt hd)) ⟨known1 hx, fun a w hf hh => ?_⟩ (fun _ _ => k)
  have h1 := hf x (by simp [Op.operands]); rw [hx] at h1
  simp only [Option.some.injEq] at h1
  obtain ⟨full, fr, hbk⟩ := hh.cells _ hb
  have hlt := (hh.cells _ hb).lt
  have hsh : w.shape? b = some (E, full.size) := by unfold World.shape?; rw [hbk.heap]
  obtain ⟨fr', hfr', hfree⟩ : ∃ fr', w.freeze ⟨b, full.size, none⟩ 1 = setBlk w b full E fr' ∧ Free fr' m := by
    refine ⟨if fr.1 == fr.2 then (full.size, full.size + 1) else (min fr.1 full.size, max fr.2 (full.size + 1)), ?_, ?_⟩
    · unfold World.freeze setBlk
      rw [if_neg dE]
      congr 1
      apply Array.ext_getElem?
      intro i
      rw [Array.getElem?_setIfInBounds, Array.getElem?_modify]
      by_cases hi : b = i
      · subst hi
        rw [if_pos rfl, if_pos rfl, if_pos hlt, hbk.heap]
        rfl
      · rw [if_neg hi, if_neg hi]
    · have hf := hbk.free
      have hs := hbk.size
      simp only at hf hs
      by_cases e : fr.1 = fr.2
      · rw [if_pos (by simpa using e)]
        exact ⟨by simp, fun i hi => by simp; omega⟩
      · rw [if_neg (by simpa using e)]
        have hle := hf.le
        have hm : m ≤ fr.1 := by
          rcases Nat.lt_or_ge fr.1 m with h1 | h1
          · have := hf.at' fr.1 h1
            simp at this
            omega
          · exact h1
        exact ⟨by simp; omega, fun i hi => by simp; omega⟩
  have hrun : (execOp a.eval ⟨some d, .convert T T x, ty, pos, af, g⟩).run C.P w = .ok (.value (.slice (some ⟨b, 0, none⟩) n cap)) (setBlk w b full E fr') := by
    simp [execOp, convert, ← h1, run_underlying hu, run_underlying he, markStringish, hsh, hfr']
  unfold Oper.wp
  rw [hrun]
  have hup : Upd hp b cs E m cs hp := by
    clear hh k hf
    induction hp with
    | nil => cases hb
    | cons y l ih =>
      rcases List.mem_cons.1 hb with rfl | h
      · exact .head
      · exact .tail (ih h)
  exact ⟨(), trivial, rfl, hh.upd hup hlt hbk.size hbk.pre hfree⟩

/-- the first elements of an array, as a slice -/
theorem Tr.sliceArrHi {x hi : Operand} {b o len : Nat} {xT E : TypeId} {kl : IntKind} {l : Int} (j : Nat) (hg : guardOk ops sl g = true) (hk : okD c d C.N = true) (hx : evIn sl x = some (ptr b o)) (hlo : evIn sl hi = some (.int kl l)) (hj : l = j) (hlt : j ≤ len) (hpos : 0 < len) (hu : C.P.underlying xT = some (.array len E)) {sz : Nat} (hs : Sz C.P E sz)
    (k : Tr C ops rest ⟨(d, .slice (some ⟨b, o, none⟩) j len) :: sl, hp⟩ Q) : Tr C ops ((c, ⟨some d, .slice xT x none (some hi) none, ty, pos, af, g⟩) :: rest) ⟨sl, hp⟩ Q :=
  .pv hg hk ⟨by simpa [Known, Op.operands] using known2 hx hlo, fun ρ hfi w => by
    have h1 := hfi x (by simp [Op.operands]); rw [hx] at h1
    have h2 := hfi hi (by simp [Op.operands]); rw [hlo] at h2
    simp only [Option.some.injEq] at h1 h2
    subst hj
    have e : ¬ (len = 0) := by omega
    simp [execOp, Instr.sliceAt, ← h1, ← h2, run_underlying hu, Instr.sureAddr, Instr.sliceBounds, Instr.sliceBound, asIntOf, run_sz hs, add_addr, e, hlt]⟩ k

theorem Tr.slice3 {x lo hi mx : Operand} {b o n cap : Nat} {T E : TypeId} {kl kh km : IntKind} {l h m : Int} {sz : Nat} (i j t : Nat) (hg : guardOk ops sl g = true) (hk : okD c d C.N = true) (hx : evIn sl x = some (.slice (some ⟨b, o, none⟩) n cap)) (hl : evIn sl lo = some (.int kl l)) (hh : evIn sl hi = some (.int kh h)) (hm : evIn sl mx = some (.int km m)) (hi' : l = i) (hj : h = j) (ht : m = t) (hij : i ≤ j) (hjt : j ≤ t) (htc : t ≤ cap)
    (hu : C.P.underlying T = some (.slice E)) (hs : Sz C.P E sz)
    (k : Tr C ops rest ⟨(d, .slice (some ⟨b, if t = i then o else o + i * sz, none⟩) (j - i) (t - i)) :: sl, hp⟩ Q) : Tr C ops ((c, ⟨some d, .slice T x (some lo) (some hi) (some mx), ty, pos, af, g⟩) :: rest) ⟨sl, hp⟩ Q :=
  .pv hg hk ⟨fun z hz => by
    simp [Op.operands] at hz
    rcases hz with rfl | rfl | rfl | rfl
    · simp [hx]
    · simp [hl]
    · simp [hh]
    · simp [hm], fun ρ hfi w => by
    have h1 := hfi x (by simp [Op.operands]); rw [hx] at h1
    have h2 := hfi lo (by simp [Op.operands]); rw [hl] at h2
    have h3 := hfi hi (by simp [Op.operands]); rw [hh] at h3
    have h4 := hfi mx (by simp [Op.operands]); rw [hm] at h4
    simp only [Option.some.injEq] at h1 h2 h3 h4
    subst hi'
    subst hj
    subst ht
    by_cases e : t = i
    · subst e
      simp [execOp, Instr.sliceAt, Instr.slice, ← h1, ← h2, ← h3, ← h4, run_underlying hu, Instr.sliceBounds, Instr.sliceBound, asIntOf, run_sz hs, add_addr, hjt, hij, htc]
    · simp [execOp, Instr.sliceAt, Instr.slice, ← h1, ← h2, ← h3, ← h4, run_underlying hu, Instr.sliceBounds, Instr.sliceBound, asIntOf, run_sz hs, add_addr, e, hjt, hij, htc]⟩ k
end

def YOp (C : Cx) (y : Oper) (s : St) (K : St → Prop) : Prop := y.guard = none ∧ ∀ a w, Rep C s a w → y.wpIn Fence.wide 0 C.P a w (fun a' w' => ∃ s2, Rep C s2 a' w' ∧ K s2) (fun _ _ _ => False)

theorem Sat.regionY {C : Cx} {id : Nat} {ops : List Oper} {s : St} {Q : Exit → St → Prop} (k : Nat) {y : Oper} (hy : ops[k]? = some y) (hnd : noDefer ops.toArray = true)
    (h : Tr C ops.toArray ((ops.take k).map fun o => (4, o)) s (fun s1 => YOp C y s1 fun s2 => Tr C ops.toArray ((ops.drop (k + 1)).map fun o => (4, o)) s2 (Q .normal))) : Sat C (.region id ops.toArray false) s Q := by
  intro a w r
  refine wpIn_wide (n := 0).1 ?_
  refine wpIn_mono (Q := Fin C (Q .normal)) ?_ fun e a' w' ⟨he, s', r', q⟩ => by subst he; exact ⟨s', r', q⟩
  have hk : k < ops.length := by
    rcases Nat.lt_or_ge k ops.length with h1 | h1
    · exact h1
    · rw [List.getElem?_eq_none h1] at hy; cases hy
  refine wpIn_region ?_
  have e : List.range ops.toArray.size = List.range k ++ k :: List.range' (k + 1) (ops.length - (k + 1)) := by
    rw [List.size_toArray, List.range_eq_range', List.range_eq_range', show ops.length = k + (1 + (ops.length - (k + 1))) by omega, ← List.range'_append_1, ← List.range'_append_1]
    simp
    omega
  rw [e]
  have hB : ∀ s2 a w, Rep C s2 a w → Tr C ops.toArray ((ops.drop (k + 1)).map fun o => (4, o)) s2 (Q .normal) → wpOpsIn Fence.wide 0 C.P ops.toArray (Fin C (Q .normal)) (List.range' (k + 1) (ops.length - (k + 1))) a w := fun s2 a w r2 h2 => by
    refine wpOps_in (ro := none) hnd fin_out _ _ _ (wpOps_of_tr _ _ s2 a w _ sP (fun j => ?_) r2 h2 fun s' a' w' r' q => ⟨rfl, s', r', q⟩)
    by_cases hj : j < ops.length - (k + 1)
    · rw [List.getElem?_range' hj]
      simp only [Option.bind_some, List.getElem?_map, List.getElem?_drop, List.getElem?_toArray, Nat.one_mul]
      cases ops[k + 1 + j]? <;> rfl
    · rw [List.getElem?_eq_none (by simp; omega), List.getElem?_map, List.getElem?_drop, List.getElem?_eq_none oM]
      rfl
  have hA : ∀ (l : List (Nat × Oper)) (is : List Nat) (s : St) (a : Act) (w : World), is.length = l.length → (∀ j : Nat, (is[j]?).bind (fun i => ops.toArray[i]?) = (l[j]?).map Prod.snd) → Rep C s a w →
      Tr C ops.toArray l s (fun s1 => YOp C y s1 fun s2 => Tr C ops.toArray ((ops.drop (k + 1)).map fun o => (4, o)) s2 (Q .normal)) →
      wpOpsIn Fence.wide 0 C.P ops.toArray (Fin C (Q .normal)) (is ++ k :: List.range' (k + 1) (ops.length - (k + 1))) a w := by
    intro l
    induction l with
    | nil =>
      intro is s a w hl _ r h
      have : is = [] := List.eq_nil_of_length_eq_zero hl
      subst this
      cases h with
      | dup h => exact absurd r.rh.nodup h
      | nil h =>
        rw [List.nil_append, wpOpsIn_cons]
        unfold wpOpIn
        have hy' : ops.toArray[k]? = some y := by simpa using hy
        rw [hy']
        simp only
        rw [if_pos (by unfold Region.wanted; rw [h.1])]
        have := h.2 a w r
        refine Oper.wpIn_mono (K := fun a' w' => ∃ s2, Rep C s2 a' w' ∧ Tr C ops.toArray ((ops.drop (k + 1)).map fun o => (4, o)) s2 (Q .normal)) (fun a' w' ⟨s2, r2, h2⟩ => hB s2 a' w' r2 h2) ?_
        unfold Oper.wpIn at this ⊢
        refine ⟨this.1, ?_⟩
        have := this.2
        generalize (y.semAt Fence.wide.round a.eval).run C.P w = res at this ⊢
        cases res with
        | ok x w' =>
          cases x <;> simp only [Oper.uponIn] at this ⊢
          case value => exact this
          case skip => exact this
          case defer => exact this
          case enter f args =>
            refine ⟨this.1, CallsIn.mono this.2 fun e w'' he => ?_⟩
            cases e with
            | returned v => exact he
            | panicked ch => exact he.elim
            | outgrown => exact he.elim (fun _ hx => hx.elim (fun _ hy => hy.elim))
          case row row args => exact this
          case round l f tmps ars bd =>
            refine ⟨this.1, RoundIn.mono this.2 fun e w'' he => ?_⟩
            cases e with
            | returned v => exact he
            | panicked ch => exact he.elim
            | outgrown => exact he.elim (fun _ hx => hx.elim (fun _ hy => hy.elim))
        | halt x w' => cases x <;> simp only [Oper.uponIn] at this
    | cons p l ih =>
      intro is s a w hl he r h
      obtain ⟨c, o⟩ := p
      cases is with
      | nil => cases hl
      | cons i is =>
        rw [List.cons_append, wpOpsIn_cons]
        have h0 : ops.toArray[i]? = some o := by simpa using he 0
        refine wpOp_in (ro := none) (X := Fin C (Q .normal)) (Tr.step h0 h a w r _ (fun s' a' w' r' k' => ?_) _) hnd fin_out
        exact ih is s' a' w' (by simpa using hl) (fun j => by simpa using he (j + 1)) r' k'
  refine hA _ (List.range k) s a w (by simp; omega) (fun j => ?_) r h
  by_cases hj : j < k
  · rw [List.getElem?_range hj]
    simp only [Option.bind_some, List.getElem?_map, List.getElem?_toArray]
    rw [List.getElem?_take_of_lt hj]
    cases ops[j]? <;> rfl
  · rw [List.getElem?_eq_none (by simp; omega), List.getElem?_map, List.getElem?_eq_none (by simp; omega)]
    rfl

theorem yop {P : Program} {w1 : World} {N : Nat} {names : List Nat} {sl : List (Nat × Value)} {hp hp' : List Blk} {d : Nat} {ty : TypeId} {pos : String} {af : Array Edge} {f x : Operand} {ats : Array TypeId} {l : Nat} {v : Value} {K : St → Prop} (hd : Nat.blt d N = true)
    (hf : evIn sl f = some (.func (.yield l) #[] #[])) (hx : evIn sl x = some v) (hY : ∀ w, HRep ⟨P, w1, 0, names, [], []⟩ hp w → YieldAt Fence.wide 0 P l #[v] w fun e w' => e = .returned (.bool true) ∧ HRep ⟨P, w1, 0, names, [], []⟩ hp' w')
    (k : K ⟨(d, .bool true) :: sl, hp'⟩) : YOp ⟨P, w1, N, names, [], []⟩ ⟨some d, .call ⟨.value f, #[x], ats⟩, ty, pos, af, none⟩ ⟨sl, hp⟩ K := by
  refine ⟨rfl, fun a w r => ?_⟩
  have h1 := r.rs.eval hf
  have h2 := r.rs.eval hx
  obtain ⟨fn, tmps, ars, bd, hrun, hR⟩ := hY w ⟨r.rh.cells, r.rh.nodup, r.rh.own, r.rh.keeps, r.rh.kok, r.rh.kd⟩
  refine ⟨fun _ _ => trivial, ?_⟩
  rw [show (Oper.semAt Fence.wide.round a.eval ⟨some d, .call ⟨.value f, #[x], ats⟩, ty, pos, af, none⟩).run P w = .ok (.round l fn tmps ars bd) w by
    rw [Oper.semAt_eq _ _ _ (by intro c hc; cases hc)]
    simp [execOp, resolve, Deferred.ofValue, h1, h2, invoke, hrun]]
  simp only [Oper.uponIn]
  refine ⟨fun h0 => (by cases h0), RoundIn.mono hR fun e w' ⟨he, hh⟩ => ?_⟩
  subst he
  exact ⟨⟨(d, .bool true) :: sl, hp'⟩, ⟨r.rs.put (some d) (.bool true) fun t ht => by cases ht; exact nblt hd, hh.cells, hh.nodup, hh.own, hh.keeps, hh.kok, hh.kd⟩, k⟩

theorem HRep.base {P : Program} {w : World} {N : Nat} {names : List Nat} {hp : List Blk} (hc : ∀ b ∈ hp, BlkOk w b) (hn : hp.map (·.n) = names) (hd : names.Nodup) : HRep ⟨P, w, N, names, [], []⟩ hp w :=
  ⟨hc, by rw [hn]; exact hd, fun b hb => .inr (by rw [← hn]; exact List.mem_map.2 ⟨b, hb, rfl⟩), Keeps.refl _ _, fun _ h => (by cases h), fun _ _ _ h => (by cases h)⟩
theorem HRep.reN {P : Program} {w w' : World} {N N' : Nat} {names : List Nat} {hp : List Blk} (h : HRep ⟨P, w, N, names, [], []⟩ hp w') : HRep ⟨P, w, N', names, [], []⟩ hp w' :=
  ⟨h.cells, h.nodup, h.own, h.keeps, h.kok, h.kd⟩

theorem wpIn_range {C : Cx} {sl : List (Nat × Value)} {g : Operand} {p0 : Tmp} {assign body : Code} {QQ : Exit → Act → World → Prop} {a : Act} {w : World} {gf : Nat} {lb : Array Value} (hpF : Nat → List Blk) (names : List Nat) (enc : Nat → Value) (K : Nat) (slA : Nat → List (Nat × Value))
    (hrep : Rep C ⟨sl, hpF 0⟩ a w) (hkb : C.kb = []) (hg : evIn sl g = some (.func (.func gf) #[] lb)) (eg : Body C.P gf) (hp0 : p0 < C.N) (hnames : ∀ i, (hpF i).map (·.n) = names)
    (iter : ∀ (l : Nat) (w1 : World), HRep ⟨C.P, w1, 0, names, [], []⟩ (hpF 0) w1 →
      (∀ i, i < K → ∀ W, HRep ⟨C.P, w1, 0, names, [], []⟩ (hpF i) W → YieldAt Fence.wide 0 C.P l #[enc i] W fun e W' => e = .returned (.bool true) ∧ HRep ⟨C.P, w1, 0, names, [], []⟩ (hpF (i + 1)) W') →
      CallsIn Fence.wide 0 C.P gf (#[.func (.yield l) #[] #[]] ++ lb) w1 fun e W' => (∃ v, e = .returned v) ∧ HRep ⟨C.P, w1, 0, names, [], []⟩ (hpF K) W')
    (hassign : ∀ i, i < K → ∀ l W, HRep ⟨C.P, W, C.N, names, [], []⟩ (hpF i) W → SatI (some l) ⟨C.P, W, C.N, names, [], []⟩ assign ⟨(p0, enc i) :: sl, hpF i⟩ (fun s' => s'.hp = hpF i ∧ s'.sl = slA i))
    (hbody : ∀ i, i < K → ∀ l W, HRep ⟨C.P, W, C.N, names, [], []⟩ (hpF i) W → SatI (some l) ⟨C.P, W, C.N, names, [], []⟩ body ⟨slA i, hpF i⟩ (fun s' => s'.hp = hpF (i + 1)))
    (hdone : ∀ D W, HRep C (hpF K) W → W.heap[D]? = some (.deferred (some [])) → C.W0.heap.size ≤ D → D ∉ names → QQ .normal { a with defers := { target := .collected D, args := #[] } :: a.defers } W) :
    (Code.rangeFunc g #[p0] assign body).wpIn Fence.wide 0 C.P QQ a w := by
  have hnd : names.Nodup := by rw [← hnames 0]; exact hrep.rh.nodup
  have hlt : ∀ k ∈ names, k < w.heap.size := fun k hk => by
    rw [← hnames 0] at hk
    obtain ⟨b, hb, rfl⟩ := List.mem_map.1 hk
    exact (hrep.rh.cells b hb).lt
  have inN : ∀ i, ∀ b ∈ hpF i, b.n ∈ names := fun i b hb => by rw [← hnames i]; exact List.mem_map.2 ⟨b, hb, rfl⟩
  refine wpIn_rangeFunc ?_
  intro fn _
  obtain ⟨rec, hrec⟩ : ∃ rec : LoopState → Option Code → Loop, rec = fun st pe => { state := st, pending := pe, fn, tmps := a.tmps, params := #[p0], assign, body, defers := w.heap.size } := ⟨_, rfl⟩
  obtain ⟨w1, hw1⟩ : ∃ w1, (w.alloc (.deferred (some []))).alloc (.loop (rec .ready none)) = w1 := ⟨_, rfl⟩
  have hsz1 : w1.heap.size = w.heap.size + 2 := by rw [← hw1]; simp
  have hL1 : w1.heap[w.heap.size + 1]? = some (.loop (rec .ready none)) := by
    rw [← hw1]; have := World.alloc_heap_new (w.alloc (.deferred (some []))) (.loop (rec .ready none)); rwa [World.size_alloc] at this
  have hK1 : w1.heap[w.heap.size]? = some (.deferred (some [])) := by
    rw [← hw1]; exact (Below.heap_alloc _ _ _ sP).trans (World.alloc_heap_new w _)
  have hold : ∀ k, k < w.heap.size → w1.heap[k]? = w.heap[k]? := fun k hk => by
    rw [← hw1]; exact (Below.heap_alloc _ _ _ (by simp; omega)).trans (Below.heap_alloc _ _ _ hk)
  have hH : HRep ⟨C.P, w1, 0, names, [], []⟩ (hpF 0) w1 := HRep.base (fun b hb => (hrep.rh.cells b hb).of_heap (hold _ (hrep.rh.cells b hb).lt)) (hnames 0) hnd
  have lN : w.heap.size + 1 ∉ names := fun h => by have := hlt _ h; omega
  have dN : w.heap.size ∉ names := fun h => by have := hlt _ h; omega
  refine ⟨w.heap.size + 1, [{ target := .collected w.heap.size, args := #[] }], w1, { target := .fn (.func gf) lb, args := #[.func (.yield (w.heap.size + 1)) #[] #[]] }, w1, gf,
    #[.func (.yield (w.heap.size + 1)) #[] #[]] ++ lb, w1, ?_, ?_, fun _ _ => trivial, ?_, fun h => (by cases h), ?_⟩
  · rw [← hw1, hrec]; exact run_enterLoop_outer _ _ _ _ _
  · have := hrep.rs.eval hg
    simp only [resolve, this]
    simp [go_sem]
  · have := eg (#[.func (.yield (w.heap.size + 1)) #[] #[]] ++ lb) w1
    simpa [invoke] using this
  refine (iter (w.heap.size + 1) w1 hH fun i hi W hh => ?_).mono ?_
  · -- one round
    have hl : W.heap[w.heap.size + 1]? = some (.loop (rec .ready none)) := (hh.keeps.block _ (by show _ < w1.heap.size; omega) lN).trans hL1
    have hy := run_yield (P := C.P) (args := #[enc i]) hl (by rw [hrec]; rfl)
    rw [hrec] at hy
    have rep0 : Rep ⟨C.P, W, C.N, names, [], []⟩ ⟨(p0, enc i) :: sl, hpF i⟩ { tmps := (#[p0].zip #[enc i]).foldl (fun t (p, v) => t.setIfInBounds p v) a.tmps, defers := [] } W := by
      refine ⟨?_, HRep.base hh.cells (hnames i) hnd⟩
      have s0 : SRep [] C.N sl ⟨a.tmps, []⟩ := ⟨hrep.rs.size, rfl, hrep.rs.slots⟩
      have s1 := s0.put (some p0) (enc i) fun t ht => by cases ht; exact hp0
      have e : (#[p0].zip #[enc i]).foldl (fun t (p, v) => t.setIfInBounds p v) a.tmps = a.tmps.setIfInBounds p0 (enc i) := by simp
      rw [e]
      exact s1
    refine ⟨fn, _, assign, body, hy, roundIn_of_wpIn trivial ?_⟩
    refine wpIn_mono (hassign i hi (w.heap.size + 1) W (HRep.base hh.cells (hnames i) hnd) _ _ rep0) fun e a1 W1 ⟨he, s1, r1, hs1, hs2⟩ => ?_
    subst he
    have hl1 : W1.heap[w.heap.size + 1]? = some (.loop (rec .ready none)) := (r1.rh.keeps.block _ (Array.getElem?_eq_some_iff.1 hl).1 lN).trans hl
    have hlt1 := (Array.getElem?_eq_some_iff.1 hl1).1
    refine ⟨_, run_beginRound hl1 (by rw [hrec]), ?_⟩
    obtain ⟨W2, hW2⟩ : ∃ W2, W1.putObj (w.heap.size + 1) (.loop { rec .ready none with state := .busy }) = W2 := ⟨_, rfl⟩
    rw [hW2]
    have ne1 : ∀ j, ∀ b ∈ hpF j, b.n ≠ w.heap.size + 1 := fun j b hb e => lN (e ▸ inN j b hb)
    have hc2 : ∀ b ∈ hpF i, BlkOk W2 b := fun b hb => by
      rw [← hs1] at hb
      refine (r1.rh.cells b hb).of_heap ?_
      rw [← hW2]
      rw [hs1] at hb
      exact World.putObj_heap_other (ne1 i b hb)
    have hl2 : W2.heap[w.heap.size + 1]? = some (.loop { rec .ready none with state := .busy }) := by rw [← hW2]; exact World.putObj_heap_same hlt1
    have rep2 : Rep ⟨C.P, W2, C.N, names, [], []⟩ ⟨slA i, hpF i⟩ a1 W2 := ⟨by have := r1.rs; rw [hs2] at this; exact this, HRep.base hc2 (hnames i) hnd⟩
    refine wpIn_mono (hbody i hi (w.heap.size + 1) W2 (HRep.base hc2 (hnames i) hnd) _ _ rep2) fun e a3 W3 ⟨he, s3, r3, hs3⟩ => ?_
    subst he
    have hl3 : W3.heap[w.heap.size + 1]? = some (.loop { rec .ready none with state := .busy }) := (r3.rh.keeps.block _ (Array.getElem?_eq_some_iff.1 hl2).1 lN).trans hl2
    have hend := run_endRound (P := C.P) none hl3
    refine ⟨_, _, hend, rfl, ?_⟩
    have hlt3 := (Array.getElem?_eq_some_iff.1 hl3).1
    refine ⟨fun b hb => ?_, by rw [hnames]; exact hnd, fun b hb => .inr (inN _ b hb), ?_, fun _ h => (by cases h), fun _ _ _ h => (by cases h)⟩
    · refine BlkOk.of_heap (r3.rh.cells b (by rw [hs3]; exact hb)) ?_
      exact World.putObj_heap_other (ne1 _ b hb)
    · have k1 := hh.keeps
      have k2 := r1.rh.keeps
      have k3 := r3.rh.keeps
      have os2 : W2.os = W1.os := by rw [← hW2]; rfl
      have tp2 : W2.tape = W1.tape := by rw [← hW2]; rfl
      have ot2 : W2.output = W1.output := by rw [← hW2]; rfl
      have sz2 : W2.heap.size = W1.heap.size := by rw [← hW2]; simp [World.putObj]
      refine ⟨k3.os.trans (os2.trans (k2.os.trans k1.os)), k3.tape.trans (tp2.trans (k2.tape.trans k1.tape)), k3.output.trans (ot2.trans (k2.output.trans k1.output)), ?_, fun j hj hjn => ?_⟩
      · have h1 := k1.size
        have h2 := k2.size
        have h3 := k3.size
        show w1.heap.size ≤ _
        have : (W3.putObj (w.heap.size + 1) (.loop { rec .ready none with state := .ready })).heap.size = W3.heap.size := by simp [World.putObj]
        simp only [World.putObj, Array.size_setIfInBounds]
        simp only at h1 h2 h3
        omega
      · by_cases hjl : j = w.heap.size + 1
        · subst hjl
          rw [hL1]
          refine (World.putObj_heap_same hlt3).trans ?_
          rw [hrec]
          rfl
        · refine (World.putObj_heap_other hjl).trans ?_
          have h1 := k1.size
          have h2 := k2.size
          simp only at h1 h2 hj
          refine (k3.block j (by simp only; omega) hjn).trans ?_
          simp only
          rw [← hW2]
          refine (World.putObj_heap_other hjl).trans ?_
          exact (k2.block j (by simp only; omega) hjn).trans (k1.block j hj hjn)
  · -- behind the iterator
    rintro e W ⟨⟨v, rfl⟩, hh⟩
    have hl : W.heap[w.heap.size + 1]? = some (.loop (rec .ready none)) := (hh.keeps.block _ (by show _ < w1.heap.size; omega) lN).trans hL1
    have hd : W.heap[w.heap.size]? = some (.deferred (some [])) := (hh.keeps.block _ (by simp only; omega) dN).trans hK1
    refine ⟨none, _, by have := run_endLoop (P := C.P) hl (by rw [hrec]; simp); rw [hrec] at this; exact this, ?_⟩
    have kw := hrep.rh.keeps
    refine hdone w.heap.size _ ⟨fun b hb => (hh.cells b hb).of_heap (World.putObj_heap_other fun e => lN (e ▸ inN K b hb)), by rw [hnames]; exact hnd, fun b hb => ?_, ?_, by rw [hkb]; exact fun _ h => (by cases h), by rw [hkb]; exact fun _ _ _ h => (by cases h)⟩
      ((World.putObj_heap_other oM).trans hd) kw.size dN
    · have := inN K b hb
      rw [← hnames 0] at this
      obtain ⟨b0, hb0, e⟩ := List.mem_map.1 this
      rw [← e]
      exact hrep.rh.own b0 hb0
    · have k1 := hh.keeps
      have osw : w1.os = w.os ∧ w1.tape = w.tape ∧ w1.output = w.output := by rw [← hw1]; exact ⟨rfl, rfl, rfl⟩
      refine ⟨k1.os.trans (osw.1.trans kw.os), k1.tape.trans (osw.2.1.trans kw.tape), k1.output.trans (osw.2.2.trans kw.output), ?_, fun j hj hjn => ?_⟩
      · have h1 := k1.size
        have h2 := kw.size
        simp only [World.putObj, Array.size_setIfInBounds]
        simp only at h1
        omega
      · have h2 := kw.size
        have hjN : j ∉ names := fun h => by
          rw [← hnames 0] at h
          obtain ⟨b0, hb0, e⟩ := List.mem_map.1 h
          rcases hrep.rh.own b0 hb0 with h3 | h3
          · omega
          · exact hjn (e ▸ h3)
        refine (World.putObj_heap_other oM).trans ?_
        exact (k1.block j (by simp only; omega) hjN).trans ((hold j oM).trans (kw.block j hj hjn))

/-- the end of a function, whatever world its frame began in -/
def endAtA (P : Program) (N : Nat) (ds : List Deferred) (fn : Func) (R : Value → List Blk → Prop) (s : St) : Prop :=
  ∃ v out, (∀ W names, Res ⟨P, W, N, names, [], ds⟩ fn s v) ∧ (∀ b ∈ out, b ∈ s.hp) ∧ ((s.hp.map (·.n)).Nodup → (out.map (·.n)).Nodup) ∧ R v out
def endQA (P : Program) (N : Nat) (ds : List Deferred) (fn : Func) (R : Value → List Blk → Prop) : Exit → St → Prop
  | .normal, s | .ret, s => endAtA P N ds fn R s
  | _, _ => False
theorem enA_r {P : Program} {N : Nat} {ds : List Deferred} {fn : Func} {R : Value → List Blk → Prop} {s : St} (h : endAtA P N ds fn R s) : endQA P N ds fn R .ret s := h
/-- what a function owes at its one range over a function -/
def RangeSt (P : Program) (W : World) (N : Nat) (fn : Func) (g : Operand) (p0 : Tmp) (assign body tail : Code) (R : Value → List Blk → Prop) (s : St) : Prop :=
  ∃ (gf : Nat) (lb : Array Value) (hpF : Nat → List Blk) (names : List Nat) (enc : Nat → Value) (K : Nat) (slA : List (Nat × Value) → Nat → List (Nat × Value)), s.hp = hpF 0 ∧ evIn s.sl g = some (.func (.func gf) #[] lb) ∧ Body P gf ∧ p0 < N ∧ (∀ i, (hpF i).map (·.n) = names) ∧
    (∀ (l : Nat) (w1 : World), HRep ⟨P, w1, 0, names, [], []⟩ (hpF 0) w1 →
      (∀ i, i < K → ∀ W, HRep ⟨P, w1, 0, names, [], []⟩ (hpF i) W → YieldAt Fence.wide 0 P l #[enc i] W fun e W' => e = .returned (.bool true) ∧ HRep ⟨P, w1, 0, names, [], []⟩ (hpF (i + 1)) W') →
      CallsIn Fence.wide 0 P gf (#[.func (.yield l) #[] #[]] ++ lb) w1 fun e W' => (∃ v, e = .returned v) ∧ HRep ⟨P, w1, 0, names, [], []⟩ (hpF K) W') ∧
    (∀ i, i < K → ∀ l W, HRep ⟨P, W, N, names, [], []⟩ (hpF i) W → SatI (some l) ⟨P, W, N, names, [], []⟩ assign ⟨(p0, enc i) :: s.sl, hpF i⟩ (fun s' => s'.hp = hpF i ∧ s'.sl = slA s.sl i)) ∧
    (∀ i, i < K → ∀ l W, HRep ⟨P, W, N, names, [], []⟩ (hpF i) W → SatI (some l) ⟨P, W, N, names, [], []⟩ body ⟨slA s.sl i, hpF i⟩ (fun s' => s'.hp = hpF (i + 1))) ∧
    (∀ D W2, Sat ⟨P, W2, N, names, [], [{ target := .collected D, args := #[] }]⟩ tail ⟨s.sl, hpF K⟩ (endQA P N [{ target := .collected D, args := #[] }] fn R))

theorem calls_range {P : Program} {f : FuncId} {fn : Func} {R0 R1 assign body tail : Code} {id : Nat} {g : Operand} {p0 : Tmp} {args : List Value} {W : World} {R : Value → List Blk → Prop}
    (hf : P.funcs[f]? = some fn) (hb : fn.body = some (.seq R0 (.seq (.seq R1 (.block id (.rangeFunc g #[p0] assign body))) tail))) (N : Nat) (hN : fn.ntmps = N) (hlen : Nat.ble args.length N = true)
    (h : Sat ⟨P, W, N, [], [], []⟩ R0 ⟨argSlots 0 args, []⟩ (thenQ (fun s' => Sat ⟨P, W, N, [], [], []⟩ R1 s' (thenQ (RangeSt P W N fn g p0 assign body tail R) (fun _ _ => False))) (fun _ _ => False))) :
    Calls P f args.toArray W fun e W' => ∃ v out, e = .returned v ∧ R v out ∧ Ret [] out W W' := by
  have hlen := Nat.le_of_ble_eq_true hlen
  subst hN
  refine callsIn_wide.1 (callsIn_of_wp_marks (F := Fence.wide) (n := 0) hf hb trivial ?_)
  have rep0 : Rep ⟨P, W, fn.ntmps, [], [], []⟩ ⟨argSlots 0 args, []⟩ { tmps := args.toArray ++ Array.replicate (fn.ntmps - args.toArray.size) undef, defers := [] } W := by
    refine ⟨⟨?_, rfl, fun t v ht => ?_⟩, HRep.nil _⟩
    · simp; omega
    · have := argSlots_look args 0 t v ht
      rw [Array.getElem?_append]
      have hlt : t < args.length := by
        rcases Nat.lt_or_ge t args.length with h1 | h1
        · exact h1
        · rw [List.getElem?_eq_none oM] at this; cases this.2
      simp only [List.size_toArray]
      rw [if_pos hlt]
      simpa using this.2
  refine wpIn_seq (wpIn_wide.2 (wp_mono (h _ _ rep0) fun e a w ⟨s, r, q⟩ => ?_))
  cases e with
  | normal =>
    refine wpIn_seq (wpIn_seq (wpIn_wide.2 (wp_mono (q a w r) fun e a1 w1 ⟨s1, r1, q1⟩ => ?_)))
    cases e with
    | normal =>
      obtain ⟨gf, lb, hpF, names, enc, K, slA, hs, hg, eg, hp0, hnames, iter, hassign, hbody, htail⟩ := q1
      obtain ⟨sl, hp⟩ := s1
      simp only at hs hg hassign htail
      subst hs
      refine wpIn_block (wpIn_range (C := ⟨P, W, fn.ntmps, [], [], []⟩) hpF names enc K (slA sl) r1 rfl hg eg hp0 hnames iter hassign hbody fun D W2 hh hD hDl hDn => ?_)
      refine wpIn_wide.2 ?_
      have hnd : names.Nodup := by rw [← hnames K]; exact hh.nodup
      have rep2 : Rep ⟨P, W2, fn.ntmps, names, [], [{ target := .collected D, args := #[] }]⟩ ⟨sl, hpF K⟩ { a1 with defers := { target := .collected D, args := #[] } :: a1.defers } W2 := by
        refine ⟨⟨r1.rs.size, ?_, r1.rs.slots⟩, hh.cells, hh.nodup, fun b hb => .inr ?_, Keeps.refl _ _, fun _ h => (by cases h), fun _ _ _ h => (by cases h)⟩
        · show _ :: a1.defers = _
          rw [r1.rs.defers]
        · show b.n ∈ names
          rw [← hnames K]; exact List.mem_map.2 ⟨b, hb, rfl⟩
      refine wp_mono (htail D W2 _ _ rep2) fun e a3 W3 ⟨s3, r3, q3⟩ => ?_
      have own : ∀ b : Blk, (W2.heap.size ≤ b.n ∨ b.n ∈ names) → W.heap.size ≤ b.n := fun b hb => by
        rcases hb with h1 | h1
        · exact Nat.le_trans hh.keeps.size h1
        · rw [← hnames K] at h1
          obtain ⟨b0, hb0, e⟩ := List.mem_map.1 h1
          rcases hh.own b0 hb0 with h2 | h2
          · rw [← e]; exact h2
          · cases h2
      have fin : endAtA P fn.ntmps [{ target := .collected D, args := #[] }] fn R s3 → LeavesInM Fence.wide 0 P fn a3.tmps (fun e W' => ∃ v out, e = .returned v ∧ R v out ∧ Ret [] out W W') a3.defers .returning W3 := by
        rintro ⟨v, out, hr, hsub, hnd3, hR⟩
        have hd3 : a3.defers = [{ target := .collected D, args := #[] }] := r3.rs.defers
        rw [hd3]
        have hD3 : W3.heap[D]? = some (.deferred (some [])) := (r3.rh.keeps.block D (Array.getElem?_eq_some_iff.1 hD).1 hDn).trans hD
        refine ⟨by simp, .inl ⟨D, _, rfl, run_takeDeferred hD3, ?_⟩⟩
        have hDout : ∀ b ∈ s3.hp, b.n ≠ D := fun b hb e => by
          obtain ⟨full, fr, hbk⟩ := r3.rh.cells b hb
          have := hbk.heap
          rw [e, hD3] at this
          cases this
        have rep4 : Rep ⟨P, W3.putObj D (.deferred none), fn.ntmps, s3.hp.map (·.n), [], [{ target := .collected D, args := #[] }]⟩ s3 a3 (W3.putObj D (.deferred none)) :=
          ⟨⟨r3.rs.size, r3.rs.defers, r3.rs.slots⟩, fun b hb => (r3.rh.cells b hb).of_heap (World.putObj_heap_other (hDout b hb)), r3.rh.nodup, fun b hb => .inr (List.mem_map.2 ⟨b, hb, rfl⟩), Keeps.refl _ _, fun _ h => (by cases h), fun _ _ _ h => (by cases h)⟩
        refine ⟨v, ?_, v, out, rfl, hR, ⟨?_, fun b hb => rep4.rh.cells b (hsub b hb), hnd3 r3.rh.nodup, fun b hb => .inl (own b (r3.rh.own b (hsub b hb)))⟩⟩
        · exact hr _ _ _ _ rep4
        · have k1 := hh.keeps
          have k2 := r3.rh.keeps
          refine ⟨k2.os.trans k1.os, k2.tape.trans k1.tape, k2.output.trans k1.output, ?_, fun j hj hjn => ?_⟩
          · have h1 := k1.size
            have h2 := k2.size
            simp only [World.putObj, Array.size_setIfInBounds]
            simp only at h1 h2
            omega
          · simp only at hDl
            refine (World.putObj_heap_other oM).trans ?_
            have h1 := k1.size
            simp only at h1
            refine (k2.block j (by simp only; omega) (fun hjn2 => ?_)).trans (k1.block j hj hjn)
            have := own ⟨j, [], 0, 0⟩ (.inr hjn2)
            simp only at this
            omega
      cases e with
      | normal => exact fin q3
      | ret => exact fin q3
      | _ => exact q3.elim
    | _ => exact q1.elim
  | _ => exact q.elim
end Hw
end

section
namespace Hw
open Go Go.RowKit
set_option linter.unusedSimpArgs false
set_option linter.unusedVariables false

theorem flat_get {m : Nat} : ∀ {cs : List (List Value)} {i j : Nat} {l : List Value}, (∀ l ∈ cs, l.length = m) → cs[i]? = some l → j < l.length → cs.flatten[i * m + j]? = l[j]?
  | [], i, j, l, _, h, _ => by simp at h
  | x :: cs, 0, j, l, hl, h, hj => by
    simp only [List.getElem?_cons_zero, Option.some.injEq] at h
    subst h
    rw [Nat.zero_mul, Nat.zero_add, List.flatten_cons, List.getElem?_append_left hj]
  | x :: cs, i + 1, j, l, hl, h, hj => by
    rw [List.getElem?_cons_succ] at h
    have hx := hl x sP
    rw [List.flatten_cons, List.getElem?_append_right (by rw [hx, Nat.add_mul]; omega), hx, show (i + 1) * m + j - m = i * m + j by rw [Nat.add_mul]; omega]
    exact flat_get (fun y hy => hl y (by simp [hy])) h hj
theorem sees_elem {w : World} {b o m i : Nat} {cs : List (List Value)} {l : List Value} (hl : ∀ l ∈ cs, l.length = m) (hs : Sees w b o cs.flatten) (hi : cs[i]? = some l) : Sees w b (o + i * m) l := fun j v hj => by
  have hlt : j < l.length := (List.getElem?_eq_some_iff.1 hj).1
  have := hs (i * m + j) v (by rw [flat_get hl hi hlt]; exact hj)
  rwa [Nat.add_assoc]

/-- a slice of records, and the data that they are -/
structure SeqIs {R D : Type} (cells : R → List Value) (k : Nat) (Is : World → R → D → Prop) (W : World) (s : Sl) (rs : List R) (ds : List D) : Prop where
  nr : rs.length = s.n
  nd : ds.length = s.n
  is : ∀ (i : Nat) (r : R) (d : D), rs[i]? = some r → ds[i]? = some d → Is W r d
  len : ∀ r ∈ rs, (cells r).length = k
  cap : s.n ≤ s.c
  see : SeesP W s.p (rs.map cells).flatten
  max : s.n ≤ maxLen
  nil : s.p = none → s.c = 0
section
variable {R D : Type} {cells : R → List Value} {k : Nat} {Is : World → R → D → Prop} {W w : World} {s : Sl} {rs : List R} {ds : List D}
theorem SeqIs.flat (h : SeqIs cells k Is W s rs ds) : (rs.map cells).flatten.length = s.n * k := by
  rw [← h.nr]
  have hl := h.len
  clear h
  induction rs with
  | nil => simp
  | cons r rs ih => rw [List.map_cons, List.flatten_cons, List.length_append, ih (fun x hx => hl x (by simp [hx])), hl r sP, List.length_cons, Nat.add_mul]; omega
theorem SeqIs.at (h : SeqIs cells k Is W s rs ds) (hk : 0 < k) {i : Nat} (hi : i < s.n) : ∃ b o r d, s.p = some ⟨b, o, none⟩ ∧ rs[i]? = some r ∧ ds[i]? = some d ∧ Is W r d ∧ (cells r).length = k ∧ Sees W b (o + i * k) (cells r) := by
  have h1 : i < rs.length := by rw [h.nr]; exact hi
  have h2 : i < ds.length := by rw [h.nd]; exact hi
  have h3 : 0 < s.n * k := Nat.mul_pos oM hk
  obtain ⟨b, o, hp, hs⟩ := h.see.at (by rw [h.flat]; exact h3)
  have e1 := List.getElem?_eq_getElem h1
  have e2 := List.getElem?_eq_getElem h2
  refine ⟨b, o, rs[i], ds[i], hp, e1, e2, h.is i _ _ e1 e2, h.len _ (List.getElem_mem h1), ?_⟩
  exact sees_elem (cs := rs.map cells) (fun l hl => by obtain ⟨r, hr, rfl⟩ := List.mem_map.1 hl; exact h.len r hr) hs (by rw [List.getElem?_map, e1]; rfl)
theorem SeqIs.ext {C : Cx} {hp : List Blk} (hh : HRep C hp w) (hl : C.lent = []) (hIs : ∀ r d, Is C.W0 r d → Is w r d) (h : SeqIs cells k Is C.W0 s rs ds) : SeqIs cells k Is w s rs ds :=
  ⟨h.nr, h.nd, fun i r d h1 h2 => hIs r d (h.is i r d h1 h2), h.len, h.cap, seesP_ext hh hl h.see, h.max, h.nil⟩
theorem SeqIs.none : SeqIs cells k Is W Sl.nil [] [] :=
  ⟨rfl, rfl, fun i r d h => (by simp at h), fun r h => (by cases h), Nat.le_refl _, SeesP.nil, Nat.zero_le _, fun _ => rfl⟩
theorem acc_seq {bl : List Blk} {E : TypeId} {n : Nat} (h : Acc s bl (rs.map cells).flatten E n k) (hl : Lies bl w) (hr : rs.length = n) (hd : ds.length = n) (hlen : ∀ r ∈ rs, (cells r).length = k) (hm : n ≤ 1000000) (his : ∀ (i : Nat) (r : R) (d : D), rs[i]? = some r → ds[i]? = some d → Is w r d) : SeqIs cells k Is w s rs ds :=
  ⟨by rw [h.num, hr], by rw [h.num, hd], his, hlen, h.cap, h.see hl, by rw [h.num]; unfold maxLen; omega, h.nilc⟩
end

/-- a list of one's own, with what its elements hold -/
structure OwnSeq {R D : Type} (cells : R → List Value) (k : Nat) (Is : World → R → D → Prop) (E : TypeId) (s : Sl) (bl bl2 : List Blk) (rs : List R) (ds : List D) (n : Nat) : Prop where
  acc : Acc s bl (rs.map cells).flatten E n k
  nr : rs.length = n
  nd : ds.length = n
  len : ∀ r ∈ rs, (cells r).length = k
  is : ∀ W2, Lies bl2 W2 → ∀ (i : Nat) (r : R) (d : D), rs[i]? = some r → ds[i]? = some d → Is W2 r d
section
variable {R D : Type} {cells : R → List Value} {k : Nat} {Is : World → R → D → Prop} {w : World} {E : TypeId} {s s' : Sl} {bl bl' bl2 bl3 : List Blk} {rs : List R} {ds : List D} {n : Nat}
theorem OwnSeq.none : OwnSeq cells k Is E Sl.nil [] [] [] [] 0 := ⟨Acc.none, rfl, rfl, fun r h => (by cases h), fun W2 _ i r d h => (by simp at h)⟩
theorem OwnSeq.seq (h : OwnSeq cells k Is E s bl bl2 rs ds n) (h1 : Lies bl w) (h2 : Lies bl2 w) (hm : n ≤ 1000000) : SeqIs cells k Is w s rs ds := acc_seq h.acc h1 h.nr h.nd h.len hm (h.is w h2)
end

section
variable {C : Cx} {ops : Array Oper} {rest : List (Nat × Oper)} {sl : List (Nat × Value)} {hp : List Blk} {Q : St → Prop} {c d : Nat} {ty : TypeId} {pos : String} {af : Array Edge} {g : Option (Nat × Bool)}
variable {f : Operand} {fid : FuncId} {ars : List Operand} {ats : Array TypeId} {vs us : List Value} {fst cap : Array Value}
end

section
variable {H : Type} {enc : TypeId × Value → H} {P : Program} {W : World} {base : Nat} {sp : Nat → Bool} {held : Bool}
end
end Hw
end

section
namespace Go.Proofs.YtpacobmjjjillaaGreat
open Go Hw
theorem Sz2 : Sz Tryz.prog 2 1 := by unfold Sz; kernel_rfl
theorem Sz3 : Sz Tryz.prog 3 1 := by unfold Sz; kernel_rfl
theorem Zr3 : Zr Tryz.prog 3 (i64 0) := by unfold Zr; kernel_rfl
theorem Sz5 : Sz Tryz.prog 5 1 := by unfold Sz; kernel_rfl
theorem Zr5 : Zr Tryz.prog 5 (u8 0) := by unfold Zr; kernel_rfl
theorem Sz22 : Sz Tryz.prog 22 1 := by unfold Sz; kernel_rfl
theorem Sz23 : Sz Tryz.prog 23 32 := by unfold Sz; kernel_rfl
theorem Zr23 : Zr Tryz.prog 23 (agg (bytesV (List.replicate 32 0))) := by unfold Zr; kernel_rfl
theorem Sz24 : Sz Tryz.prog 24 32 := by unfold Sz; kernel_rfl
theorem Zr24 : Zr Tryz.prog 24 (agg (bytesV (List.replicate 32 0))) := by unfold Zr; kernel_rfl
theorem Sz25 : Sz Tryz.prog 25 32 := by unfold Sz; kernel_rfl
theorem Zr25 : Zr Tryz.prog 25 (agg (bytesV (List.replicate 32 0))) := by unfold Zr; kernel_rfl
theorem Sz26 : Sz Tryz.prog 26 64 := by unfold Sz; kernel_rfl
theorem Zr26 : Zr Tryz.prog 26 (agg (bytesV (List.replicate 64 0))) := by unfold Zr; kernel_rfl
theorem Sz27 : Sz Tryz.prog 27 64 := by unfold Sz; kernel_rfl
theorem Zr27 : Zr Tryz.prog 27 (agg (bytesV (List.replicate 64 0))) := by unfold Zr; kernel_rfl
theorem Sz29 : Sz Tryz.prog 29 132 := by unfold Sz; kernel_rfl
theorem Sz31 : Sz Tryz.prog 31 1 := by unfold Sz; kernel_rfl
theorem Sz39 : Sz Tryz.prog 39 1 := by unfold Sz; kernel_rfl
theorem Zr39 : Zr Tryz.prog 39 (.slice none 0 0) := by unfold Zr; kernel_rfl
theorem Sz77 : Sz Tryz.prog 77 32 := by unfold Sz; kernel_rfl
theorem Zr77 : Zr Tryz.prog 77 (agg (bytesV (List.replicate 32 0))) := by unfold Zr; kernel_rfl
theorem Sz79 : Sz Tryz.prog 79 64 := by unfold Sz; kernel_rfl
theorem Sz84 : Sz Tryz.prog 84 1 := by unfold Sz; kernel_rfl
theorem Sz94 : Sz Tryz.prog 94 6 := by unfold Sz; kernel_rfl
theorem Zr94 : Zr Tryz.prog 94 (agg (intsV (List.replicate 6 0))) := by unfold Zr; kernel_rfl
theorem Sz114 : Sz Tryz.prog 114 64 := by unfold Sz; kernel_rfl
theorem Sz135 : Sz Tryz.prog 135 8 := by unfold Sz; kernel_rfl
theorem Zr135 : Zr Tryz.prog 135 (agg (wordsV (List.replicate 8 0))) := by unfold Zr; kernel_rfl
theorem Sz140 : Sz Tryz.prog 140 4 := by unfold Sz; kernel_rfl
theorem Sz156 : Sz Tryz.prog 156 4 := by unfold Sz; kernel_rfl
theorem Zr156 : Zr Tryz.prog 156 (agg (wordsV (List.replicate 4 0))) := by unfold Zr; kernel_rfl
theorem Sz157 : Sz Tryz.prog 157 4 := by unfold Sz; kernel_rfl
theorem Zr157 : Zr Tryz.prog 157 (agg (wordsV (List.replicate 4 0))) := by unfold Zr; kernel_rfl
theorem Sz168 : Sz Tryz.prog 168 128 := by unfold Sz; kernel_rfl
theorem Sz177 : Sz Tryz.prog 177 10 := by unfold Sz; kernel_rfl
theorem Zr177 : Zr Tryz.prog 177 (agg (intsV (List.replicate 10 0))) := by unfold Zr; kernel_rfl
theorem Sz180 : Sz Tryz.prog 180 30 := by unfold Sz; kernel_rfl
theorem Sz191 : Sz Tryz.prog 191 128 := by unfold Sz; kernel_rfl
theorem Sz197 : Sz Tryz.prog 197 5 := by unfold Sz; kernel_rfl
theorem Zr197 : Zr Tryz.prog 197 (agg (wordsV (List.replicate 5 0))) := by unfold Zr; kernel_rfl
theorem Sz209 : Sz Tryz.prog 209 80 := by unfold Sz; kernel_rfl
theorem Zr209 : Zr Tryz.prog 209 (agg (wordsV (List.replicate 80 0))) := by unfold Zr; kernel_rfl
theorem Zr213 : Zr Tryz.prog 213 (agg (intsV (List.replicate 64 0))) := by unfold Zr; kernel_rfl
theorem Sz216 : Sz Tryz.prog 216 2 := by unfold Sz; kernel_rfl
theorem Zr216 : Zr Tryz.prog 216 (agg ([u64 0] ++ [u64 0])) := by unfold Zr; kernel_rfl
theorem Body10 : Body Tryz.prog 10 := fun _ _ => zK
theorem Body11 : Body Tryz.prog 11 := fun _ _ => zK
theorem Body13 : Body Tryz.prog 13 := fun _ _ => zK
theorem Body14 : Body Tryz.prog 14 := fun _ _ => zK
theorem Body15 : Body Tryz.prog 15 := fun _ _ => zK
theorem Body17 : Body Tryz.prog 17 := fun _ _ => zK
theorem Body18 : Body Tryz.prog 18 := fun _ _ => zK
theorem Body19 : Body Tryz.prog 19 := fun _ _ => zK
theorem Body20 : Body Tryz.prog 20 := fun _ _ => zK
theorem Body21 : Body Tryz.prog 21 := fun _ _ => zK
theorem Body22 : Body Tryz.prog 22 := fun _ _ => zK
theorem Body23 : Body Tryz.prog 23 := fun _ _ => zK
theorem Body24 : Body Tryz.prog 24 := fun _ _ => zK
theorem Body25 : Body Tryz.prog 25 := fun _ _ => zK
theorem Body26 : Body Tryz.prog 26 := fun _ _ => zK
theorem Body27 : Body Tryz.prog 27 := fun _ _ => zK
theorem Body28 : Body Tryz.prog 28 := fun _ _ => zK
theorem Body29 : Body Tryz.prog 29 := fun _ _ => zK
theorem Body30 : Body Tryz.prog 30 := fun _ _ => zK
theorem Body31 : Body Tryz.prog 31 := fun _ _ => zK
theorem Body32 : Body Tryz.prog 32 := fun _ _ => zK
theorem Body33 : Body Tryz.prog 33 := fun _ _ => zK
theorem Body58 : Body Tryz.prog 58 := fun _ _ => zK
theorem Body59 : Body Tryz.prog 59 := fun _ _ => zK
theorem Body60 : Body Tryz.prog 60 := fun _ _ => zK
theorem Body61 : Body Tryz.prog 61 := fun _ _ => zK
theorem Body62 : Body Tryz.prog 62 := fun _ _ => zK
theorem Body63 : Body Tryz.prog 63 := fun _ _ => zK
theorem Body64 : Body Tryz.prog 64 := fun _ _ => zK
theorem Body65 : Body Tryz.prog 65 := fun _ _ => zK
theorem Body66 : Body Tryz.prog 66 := fun _ _ => zK
theorem Body67 : Body Tryz.prog 67 := fun _ _ => zK
theorem Body68 : Body Tryz.prog 68 := fun _ _ => zK
theorem Body69 : Body Tryz.prog 69 := fun _ _ => zK
theorem Body70 : Body Tryz.prog 70 := fun _ _ => zK
theorem Body71 : Body Tryz.prog 71 := fun _ _ => zK
theorem Body72 : Body Tryz.prog 72 := fun _ _ => zK
theorem Body73 : Body Tryz.prog 73 := fun _ _ => zK
theorem Body74 : Body Tryz.prog 74 := fun _ _ => zK
theorem Body75 : Body Tryz.prog 75 := fun _ _ => zK
theorem Body76 : Body Tryz.prog 76 := fun _ _ => zK
theorem Body77 : Body Tryz.prog 77 := fun _ _ => zK
theorem Body78 : Body Tryz.prog 78 := fun _ _ => zK
theorem Body79 : Body Tryz.prog 79 := fun _ _ => zK
theorem Body80 : Body Tryz.prog 80 := fun _ _ => zK
theorem Body81 : Body Tryz.prog 81 := fun _ _ => zK
theorem Body82 : Body Tryz.prog 82 := fun _ _ => zK
theorem Body83 : Body Tryz.prog 83 := fun _ _ => zK
theorem Body84 : Body Tryz.prog 84 := fun _ _ => zK
theorem Body85 : Body Tryz.prog 85 := fun _ _ => zK
theorem Body86 : Body Tryz.prog 86 := fun _ _ => zK
theorem Body87 : Body Tryz.prog 87 := fun _ _ => zK
theorem Body101 : Body Tryz.prog 101 := fun _ _ => zK
theorem Body103 : Body Tryz.prog 103 := fun _ _ => zK
theorem Body104 : Body Tryz.prog 104 := fun _ _ => zK
theorem Body105 : Body Tryz.prog 105 := fun _ _ => zK
theorem Body106 : Body Tryz.prog 106 := fun _ _ => zK
theorem Body107 : Body Tryz.prog 107 := fun _ _ => zK
theorem Body108 : Body Tryz.prog 108 := fun _ _ => zK
theorem Body109 : Body Tryz.prog 109 := fun _ _ => zK
theorem Body110 : Body Tryz.prog 110 := fun _ _ => zK
theorem Body111 : Body Tryz.prog 111 := fun _ _ => zK
theorem Body112 : Body Tryz.prog 112 := fun _ _ => zK
theorem Body113 : Body Tryz.prog 113 := fun _ _ => zK
theorem Body114 : Body Tryz.prog 114 := fun _ _ => zK
theorem Body115 : Body Tryz.prog 115 := fun _ _ => zK
theorem Body116 : Body Tryz.prog 116 := fun _ _ => zK
theorem Body117 : Body Tryz.prog 117 := fun _ _ => zK
theorem Body118 : Body Tryz.prog 118 := fun _ _ => zK
theorem Body119 : Body Tryz.prog 119 := fun _ _ => zK
theorem Body120 : Body Tryz.prog 120 := fun _ _ => zK
theorem Body121 : Body Tryz.prog 121 := fun _ _ => zK
theorem Body122 : Body Tryz.prog 122 := fun _ _ => zK
theorem Body123 : Body Tryz.prog 123 := fun _ _ => zK
theorem Body124 : Body Tryz.prog 124 := fun _ _ => zK
theorem Body125 : Body Tryz.prog 125 := fun _ _ => zK
theorem Body126 : Body Tryz.prog 126 := fun _ _ => zK
theorem Body127 : Body Tryz.prog 127 := fun _ _ => zK
theorem Body128 : Body Tryz.prog 128 := fun _ _ => zK
theorem Body129 : Body Tryz.prog 129 := fun _ _ => zK
theorem Body130 : Body Tryz.prog 130 := fun _ _ => zK
theorem Body131 : Body Tryz.prog 131 := fun _ _ => zK
theorem Body132 : Body Tryz.prog 132 := fun _ _ => zK
theorem Body133 : Body Tryz.prog 133 := fun _ _ => zK
theorem Body134 : Body Tryz.prog 134 := fun _ _ => zK
theorem Body135 : Body Tryz.prog 135 := fun _ _ => zK
theorem Body136 : Body Tryz.prog 136 := fun _ _ => zK
theorem Body137 : Body Tryz.prog 137 := fun _ _ => zK
theorem Body138 : Body Tryz.prog 138 := fun _ _ => zK
theorem Body139 : Body Tryz.prog 139 := fun _ _ => zK
theorem Body140 : Body Tryz.prog 140 := fun _ _ => zK
theorem Body141 : Body Tryz.prog 141 := fun _ _ => zK
theorem Body142 : Body Tryz.prog 142 := fun _ _ => zK
theorem Body143 : Body Tryz.prog 143 := fun _ _ => zK
theorem Body144 : Body Tryz.prog 144 := fun _ _ => zK
theorem Body145 : Body Tryz.prog 145 := fun _ _ => zK
theorem Body152 : Body Tryz.prog 152 := fun _ _ => zK
theorem Body158 : Body Tryz.prog 158 := fun _ _ => zK
theorem Body159 : Body Tryz.prog 159 := fun _ _ => zK
theorem Body160 : Body Tryz.prog 160 := fun _ _ => zK
theorem Body161 : Body Tryz.prog 161 := fun _ _ => zK
theorem Body162 : Body Tryz.prog 162 := fun _ _ => zK
theorem Body163 : Body Tryz.prog 163 := fun _ _ => zK
theorem Body165 : Body Tryz.prog 165 := fun _ _ => zK
theorem Body166 : Body Tryz.prog 166 := fun _ _ => zK
theorem Body167 : Body Tryz.prog 167 := fun _ _ => zK
theorem Body168 : Body Tryz.prog 168 := fun _ _ => zK
theorem Body169 : Body Tryz.prog 169 := fun _ _ => zK
theorem Body170 : Body Tryz.prog 170 := fun _ _ => zK
theorem Body171 : Body Tryz.prog 171 := fun _ _ => zK
theorem Body172 : Body Tryz.prog 172 := fun _ _ => zK
theorem Body173 : Body Tryz.prog 173 := fun _ _ => zK
theorem Body174 : Body Tryz.prog 174 := fun _ _ => zK
theorem Body175 : Body Tryz.prog 175 := fun _ _ => zK
theorem Body176 : Body Tryz.prog 176 := fun _ _ => zK
theorem Body177 : Body Tryz.prog 177 := fun _ _ => zK
theorem Body178 : Body Tryz.prog 178 := fun _ _ => zK
theorem Body179 : Body Tryz.prog 179 := fun _ _ => zK
theorem Body180 : Body Tryz.prog 180 := fun _ _ => zK
theorem Body181 : Body Tryz.prog 181 := fun _ _ => zK
theorem Body182 : Body Tryz.prog 182 := fun _ _ => zK
theorem Body183 : Body Tryz.prog 183 := fun _ _ => zK
theorem Body184 : Body Tryz.prog 184 := fun _ _ => zK
theorem Body185 : Body Tryz.prog 185 := fun _ _ => zK
theorem Body186 : Body Tryz.prog 186 := fun _ _ => zK
theorem Body187 : Body Tryz.prog 187 := fun _ _ => zK
theorem Body188 : Body Tryz.prog 188 := fun _ _ => zK
theorem Body189 : Body Tryz.prog 189 := fun _ _ => zK
theorem Body190 : Body Tryz.prog 190 := fun _ _ => zK
theorem Body191 : Body Tryz.prog 191 := fun _ _ => zK
theorem Body192 : Body Tryz.prog 192 := fun _ _ => zK
theorem Body193 : Body Tryz.prog 193 := fun _ _ => zK
theorem Body194 : Body Tryz.prog 194 := fun _ _ => zK
theorem Body195 : Body Tryz.prog 195 := fun _ _ => zK
theorem Body196 : Body Tryz.prog 196 := fun _ _ => zK
theorem Body197 : Body Tryz.prog 197 := fun _ _ => zK
theorem Body198 : Body Tryz.prog 198 := fun _ _ => zK
theorem Body199 : Body Tryz.prog 199 := fun _ _ => zK
theorem Body200 : Body Tryz.prog 200 := fun _ _ => zK
theorem Body201 : Body Tryz.prog 201 := fun _ _ => zK
theorem Body202 : Body Tryz.prog 202 := fun _ _ => zK
theorem Body203 : Body Tryz.prog 203 := fun _ _ => zK
theorem Body204 : Body Tryz.prog 204 := fun _ _ => zK
theorem Body205 : Body Tryz.prog 205 := fun _ _ => zK
theorem Body206 : Body Tryz.prog 206 := fun _ _ => zK
theorem Body207 : Body Tryz.prog 207 := fun _ _ => zK
theorem Body208 : Body Tryz.prog 208 := fun _ _ => zK
theorem Body209 : Body Tryz.prog 209 := fun _ _ => zK
theorem Body210 : Body Tryz.prog 210 := fun _ _ => zK
theorem Body211 : Body Tryz.prog 211 := fun _ _ => zK
theorem Body212 : Body Tryz.prog 212 := fun _ _ => zK
theorem Body213 : Body Tryz.prog 213 := fun _ _ => zK
theorem Body214 : Body Tryz.prog 214 := fun _ _ => zK
theorem Body215 : Body Tryz.prog 215 := fun _ _ => zK
theorem Body216 : Body Tryz.prog 216 := fun _ _ => zK
theorem Body217 : Body Tryz.prog 217 := fun _ _ => zK
theorem Body218 : Body Tryz.prog 218 := fun _ _ => zK
theorem Body219 : Body Tryz.prog 219 := fun _ _ => zK
theorem Body220 : Body Tryz.prog 220 := fun _ _ => zK
theorem Body221 : Body Tryz.prog 221 := fun _ _ => zK
theorem Body222 : Body Tryz.prog 222 := fun _ _ => zK
theorem Body223 : Body Tryz.prog 223 := fun _ _ => zK
theorem Body224 : Body Tryz.prog 224 := fun _ _ => zK
theorem Body225 : Body Tryz.prog 225 := fun _ _ => zK
theorem Body226 : Body Tryz.prog 226 := fun _ _ => zK
theorem Body227 : Body Tryz.prog 227 := fun _ _ => zK
theorem Body228 : Body Tryz.prog 228 := fun _ _ => zK
theorem Body229 : Body Tryz.prog 229 := fun _ _ => zK
theorem Body230 : Body Tryz.prog 230 := fun _ _ => zK
theorem Body231 : Body Tryz.prog 231 := fun _ _ => zK
theorem Body232 : Body Tryz.prog 232 := fun _ _ => zK
theorem Body233 : Body Tryz.prog 233 := fun _ _ => zK
theorem Body234 : Body Tryz.prog 234 := fun _ _ => zK
theorem Body235 : Body Tryz.prog 235 := fun _ _ => zK
theorem Body236 : Body Tryz.prog 236 := fun _ _ => zK
theorem Body237 : Body Tryz.prog 237 := fun _ _ => zK
theorem Body238 : Body Tryz.prog 238 := fun _ _ => zK
theorem Body239 : Body Tryz.prog 239 := fun _ _ => zK
theorem Body240 : Body Tryz.prog 240 := fun _ _ => zK
theorem Body242 : Body Tryz.prog 242 := fun _ _ => zK
theorem Body243 : Body Tryz.prog 243 := fun _ _ => zK
theorem Body244 : Body Tryz.prog 244 := fun _ _ => zK
theorem Body245 : Body Tryz.prog 245 := fun _ _ => zK
theorem Body246 : Body Tryz.prog 246 := fun _ _ => zK
theorem Mixed : Tryz.prog.follows .mixedOrders = true := by kernel_rfl
end Go.Proofs.YtpacobmjjjillaaGreat
end

section
namespace Go.Proofs.YtpacobmjjjillaaGreat
open Go Hw
set_option linter.unusedSimpArgs false
set_option linter.unusedVariables false
set_option maxRecDepth 100000
structure Vote where
  fHeight : UInt64
  fRound : UInt64
  fPhase : Int
  fValue : List UInt8
  fProof : UInt64
  fVoter : List UInt8
  fSig : List UInt8
def Vote.cells (x : Vote) : List Value := [u64 x.fHeight] ++ ([u64 x.fRound] ++ ([i64 x.fPhase] ++ (bytesV x.fValue ++ ([u64 x.fProof] ++ (bytesV x.fVoter ++ (bytesV x.fSig))))))
structure Vote.ok (x : Vote) : Prop where
  l_fValue : x.fValue.length = 32
  l_fVoter : x.fVoter.length = 32
  l_fSig : x.fSig.length = 64
theorem Vote.length {x : Vote} (h : x.ok) : x.cells.length = 132 := by simp [Vote.cells, bytesV, h.l_fValue, h.l_fVoter, h.l_fSig]
theorem Vote.isCell {x : Vote} (h : x.ok) : ∀ u ∈ x.cells, isCell u = true := by
  intro u hu
  simp only [Vote.cells, List.mem_append, List.mem_singleton, bytesV, List.mem_map] at hu
  rcases hu with rfl | rfl | rfl | ⟨_, _, rfl⟩ | rfl | ⟨_, _, rfl⟩ | ⟨_, _, rfl⟩ <;> first | rfl
theorem Vote.get_fHeight {x : Vote} (h : x.ok) : x.cells[0]? = some (u64 x.fHeight) := by simp [Vote.cells, bytesV, h.l_fValue, h.l_fVoter, h.l_fSig, List.getElem?_append]
theorem Vote.get_fRound {x : Vote} (h : x.ok) : x.cells[1]? = some (u64 x.fRound) := by simp [Vote.cells, bytesV, h.l_fValue, h.l_fVoter, h.l_fSig, List.getElem?_append]
theorem Vote.get_fPhase {x : Vote} (h : x.ok) : x.cells[2]? = some (i64 x.fPhase) := by simp [Vote.cells, bytesV, h.l_fValue, h.l_fVoter, h.l_fSig, List.getElem?_append]
theorem Vote.set_fPhase {x : Vote} (h : x.ok) (v : Int) : x.cells.set 2 (i64 v) = ({ x with fPhase := v }).cells := by simp [Vote.cells, bytesV, h.l_fValue, h.l_fVoter, h.l_fSig, List.set_append]
theorem Vote.row_fValue {x : Vote} (h : x.ok) : (x.cells.drop 3).take 32 = bytesV x.fValue := by simp [Vote.cells, bytesV, h.l_fValue, h.l_fVoter, h.l_fSig, List.drop_append, List.take_append, List.drop_of_length_le, List.take_of_length_le]
theorem Vote.rl_fValue {x : Vote} (h : x.ok) : (bytesV x.fValue).length = 32 := by simp [bytesV, h.l_fValue]
theorem Vote.upd_fValue {x : Vote} (h : x.ok) (l : List UInt8) (hl : l.length = 32) : upd x.cells 3 (bytesV l) = ({ x with fValue := l }).cells := by
  simp [upd, Vote.cells, bytesV, h.l_fValue, h.l_fVoter, h.l_fSig, hl, List.drop_append, List.take_append, List.drop_of_length_le, List.take_of_length_le]
theorem Vote.see_fValue {x : Vote} (h : x.ok) : ∀ (j : Nat) (v : Value), (bytesV x.fValue)[j]? = some v → x.cells[3 + j]? = some v := fun j v hj => by
  rw [← Vote.row_fValue h, List.getElem?_take] at hj
  split at hj
  · rwa [List.getElem?_drop] at hj
  · cases hj
theorem Vote.get_fProof {x : Vote} (h : x.ok) : x.cells[35]? = some (u64 x.fProof) := by simp [Vote.cells, bytesV, h.l_fValue, h.l_fVoter, h.l_fSig, List.getElem?_append]
theorem Vote.set_fProof {x : Vote} (h : x.ok) (v : UInt64) : x.cells.set 35 (u64 v) = ({ x with fProof := v }).cells := by simp [Vote.cells, bytesV, h.l_fValue, h.l_fVoter, h.l_fSig, List.set_append]
theorem Vote.row_fVoter {x : Vote} (h : x.ok) : (x.cells.drop 36).take 32 = bytesV x.fVoter := by simp [Vote.cells, bytesV, h.l_fValue, h.l_fVoter, h.l_fSig, List.drop_append, List.take_append, List.drop_of_length_le, List.take_of_length_le]
theorem Vote.rl_fVoter {x : Vote} (h : x.ok) : (bytesV x.fVoter).length = 32 := by simp [bytesV, h.l_fVoter]
theorem Vote.upd_fVoter {x : Vote} (h : x.ok) (l : List UInt8) (hl : l.length = 32) : upd x.cells 36 (bytesV l) = ({ x with fVoter := l }).cells := by
  simp [upd, Vote.cells, bytesV, h.l_fValue, h.l_fVoter, h.l_fSig, hl, List.drop_append, List.take_append, List.drop_of_length_le, List.take_of_length_le]
theorem Vote.see_fVoter {x : Vote} (h : x.ok) : ∀ (j : Nat) (v : Value), (bytesV x.fVoter)[j]? = some v → x.cells[36 + j]? = some v := fun j v hj => by
  rw [← Vote.row_fVoter h, List.getElem?_take] at hj
  split at hj
  · rwa [List.getElem?_drop] at hj
  · cases hj
theorem Vote.row_fSig {x : Vote} (h : x.ok) : (x.cells.drop 68).take 64 = bytesV x.fSig := by simp [Vote.cells, bytesV, h.l_fValue, h.l_fVoter, h.l_fSig, List.drop_append, List.take_append, List.drop_of_length_le, List.take_of_length_le]
theorem Vote.rl_fSig {x : Vote} (h : x.ok) : (bytesV x.fSig).length = 64 := by simp [bytesV, h.l_fSig]
theorem Vote.upd_fSig {x : Vote} (h : x.ok) (l : List UInt8) (hl : l.length = 64) : upd x.cells 68 (bytesV l) = ({ x with fSig := l }).cells := by
  simp [upd, Vote.cells, bytesV, h.l_fValue, h.l_fVoter, h.l_fSig, hl, List.drop_append, List.take_append, List.drop_of_length_le, List.take_of_length_le]
theorem Vote.see_fSig {x : Vote} (h : x.ok) : ∀ (j : Nat) (v : Value), (bytesV x.fSig)[j]? = some v → x.cells[68 + j]? = some v := fun j v hj => by
  rw [← Vote.row_fSig h, List.getElem?_take] at hj
  split at hj
  · rwa [List.getElem?_drop] at hj
  · cases hj
def Vote.zero : Vote := ⟨0, 0, 0, List.replicate 32 0, 0, List.replicate 32 0, List.replicate 64 0⟩
theorem Vote.zero_ok : Vote.zero.ok := by constructor <;> first | exact trivial | simp [Vote.zero]
theorem Vote.zr : Zr Tryz.prog 29 (agg Vote.zero.cells) := by unfold Zr; kernel_rfl
theorem Vote.eqq {x y : Vote} (hx : x.ok) (hy : y.ok) (w : World) : (Op.equalIn 10000 29 (agg x.cells) (agg y.cells)).run Tryz.prog w = .ok (decide ((x.fHeight.toNat : Int) = (y.fHeight.toNat : Int)) && (decide ((x.fRound.toNat : Int) = (y.fRound.toNat : Int)) && (decide (x.fPhase = y.fPhase) && (decide (x.fValue = y.fValue) && (decide ((x.fProof.toNat : Int) = (y.fProof.toNat : Int)) && (decide (x.fVoter = y.fVoter) && (decide (x.fSig = y.fSig) && (true)))))))) w := by
  rw [show (10000 : Nat) = 9999 + 1 from rfl, run_equalIn_struct w 9999 29 x.cells.toArray y.cells.toArray zK zK]
  exact (eqFields_step dE (run_part1 Y22 rfl (Vote.get_fHeight hx)) (run_part1 Y22 rfl (Vote.get_fHeight hy)) (eq_int Y22) (eqFields_step dE (run_part1 Y22 rfl (Vote.get_fRound hx)) (run_part1 Y22 rfl (Vote.get_fRound hy)) (eq_int Y22) (eqFields_step dE (run_part1 Y3 rfl (Vote.get_fPhase hx)) (run_part1 Y3 rfl (Vote.get_fPhase hy)) (eq_int Y3) (eqFields_step dE (run_partN Y24 rfl Sz24 (Vote.row_fValue hx)) (run_partN Y24 rfl Sz24 (Vote.row_fValue hy)) (eq_bytesA Y24 Y5 Sz5 hx.l_fValue hy.l_fValue) (eqFields_step dE (run_part1 Y22 rfl (Vote.get_fProof hx)) (run_part1 Y22 rfl (Vote.get_fProof hy)) (eq_int Y22) (eqFields_step dE (run_partN Y25 rfl Sz25 (Vote.row_fVoter hx)) (run_partN Y25 rfl Sz25 (Vote.row_fVoter hy)) (eq_bytesA Y25 Y5 Sz5 hx.l_fVoter hy.l_fVoter) (eqFields_step dE (run_partN Y27 rfl Sz27 (Vote.row_fSig hx)) (run_partN Y27 rfl Sz27 (Vote.row_fSig hy)) (eq_bytesA Y27 Y5 Sz5 hx.l_fSig hy.l_fSig) eqFields_nil)))))))
theorem Vote.eq_run {x y : Vote} (hx : x.ok) (hy : y.ok) (w : World) [Decidable (x = y)] : (Op.equalIn 10000 29 (agg x.cells) (agg y.cells)).run Tryz.prog w = .ok (decide (x = y)) w := by
  rw [Vote.eqq hx hy]
  congr 1
  obtain ⟨x0, x1, x2, x3, x4, x5, x6⟩ := x
  obtain ⟨y0, y1, y2, y3, y4, y5, y6⟩ := y
  rw [Bool.eq_iff_iff]
  simp only [Bool.and_eq_true, decide_eq_true_eq, Vote.mk.injEq, and_true]
  have eu : ∀ a b : UInt64, ((a.toNat : Int) = (b.toNat : Int)) ↔ a = b := fun a b => ⟨fun h => UInt64.toNat_inj.1 oM, fun h => by rw [h]⟩
  simp only [eu]
theorem Vote.eq_runC {x y : Vote} (hx : x.ok) (hy : y.ok) (w : World) : (Op.equalIn 10000 29 (agg x.cells) (agg y.cells)).run Tryz.prog w = .ok (@decide (x = y) (Classical.propDecidable (x = y))) w := @Vote.eq_run x y hx hy w (Classical.propDecidable (x = y))
theorem Vote.eg : Tryz.prog.eqGuardType Tryz.prog.depth 29 = false := by kernel_rfl
structure Block where
  fWriter : List UInt8
  fSeq : UInt64
  fPrev : List UInt8
  fLinks : Sl
  fData : Sl
  fSig : List UInt8
def Block.cells (x : Block) : List Value := bytesV x.fWriter ++ ([u64 x.fSeq] ++ (bytesV x.fPrev ++ ([x.fLinks.v] ++ ([x.fData.v] ++ (bytesV x.fSig)))))
structure Block.ok (x : Block) : Prop where
  l_fWriter : x.fWriter.length = 32
  l_fPrev : x.fPrev.length = 32
  l_fSig : x.fSig.length = 64
theorem Block.length {x : Block} (h : x.ok) : x.cells.length = 131 := by simp [Block.cells, bytesV, h.l_fWriter, h.l_fPrev, h.l_fSig]
theorem Block.isCell {x : Block} (h : x.ok) : ∀ u ∈ x.cells, isCell u = true := by
  intro u hu
  simp only [Block.cells, List.mem_append, List.mem_singleton, bytesV, List.mem_map] at hu
  rcases hu with ⟨_, _, rfl⟩ | rfl | ⟨_, _, rfl⟩ | rfl | rfl | ⟨_, _, rfl⟩ <;> first | rfl
theorem Block.row_fSig {x : Block} (h : x.ok) : (x.cells.drop 67).take 64 = bytesV x.fSig := by simp [Block.cells, bytesV, h.l_fWriter, h.l_fPrev, h.l_fSig, List.drop_append, List.take_append, List.drop_of_length_le, List.take_of_length_le]
theorem Block.rl_fSig {x : Block} (h : x.ok) : (bytesV x.fSig).length = 64 := by simp [bytesV, h.l_fSig]
theorem Block.upd_fSig {x : Block} (h : x.ok) (l : List UInt8) (hl : l.length = 64) : upd x.cells 67 (bytesV l) = ({ x with fSig := l }).cells := by
  simp [upd, Block.cells, bytesV, h.l_fWriter, h.l_fPrev, h.l_fSig, hl, List.drop_append, List.take_append, List.drop_of_length_le, List.take_of_length_le]
theorem Block.see_fSig {x : Block} (h : x.ok) : ∀ (j : Nat) (v : Value), (bytesV x.fSig)[j]? = some v → x.cells[67 + j]? = some v := fun j v hj => by
  rw [← Block.row_fSig h, List.getElem?_take] at hj
  split at hj
  · rwa [List.getElem?_drop] at hj
  · cases hj
def Block.zero : Block := ⟨List.replicate 32 0, 0, List.replicate 32 0, Sl.nil, Sl.nil, List.replicate 64 0⟩
theorem Block.zero_ok : Block.zero.ok := by constructor <;> first | exact trivial | simp [Block.zero]
theorem Block.zr : Zr Tryz.prog 53 (agg Block.zero.cells) := by unfold Zr; kernel_rfl
structure Reader where
  fSelf : Value
  fB : Sl
  fAt : Int
  fErr : Int
def Reader.cells (x : Reader) : List Value := [x.fSelf] ++ ([x.fB.v] ++ ([i64 x.fAt] ++ ([i64 x.fErr])))
structure Reader.ok (x : Reader) : Prop where
  c_fSelf : isCell x.fSelf = true
theorem Reader.length {x : Reader} (h : x.ok) : x.cells.length = 4 := by simp [Reader.cells, bytesV]
theorem Reader.isCell {x : Reader} (h : x.ok) : ∀ u ∈ x.cells, isCell u = true := by
  intro u hu
  simp only [Reader.cells, List.mem_append, List.mem_singleton, bytesV, List.mem_map] at hu
  rcases hu with rfl | rfl | rfl | rfl <;> first | rfl | exact h.c_fSelf
theorem Reader.set_fSelf {x : Reader} (h : x.ok) (v : Value) : x.cells.set 0 (v) = ({ x with fSelf := v }).cells := by simp [Reader.cells, bytesV, List.set_append]
theorem Reader.get_fB {x : Reader} (h : x.ok) : x.cells[1]? = some (x.fB.v) := by simp [Reader.cells, bytesV, List.getElem?_append]
theorem Reader.set_fB {x : Reader} (h : x.ok) (v : Sl) : x.cells.set 1 (v.v) = ({ x with fB := v }).cells := by simp [Reader.cells, bytesV, List.set_append]
theorem Reader.setS_fB {x : Reader} (h : x.ok) (p : Option Addr) (n c : Nat) : x.cells.set 1 (.slice p n c) = ({ x with fB := ⟨p, n, c⟩ }).cells := Reader.set_fB h ⟨p, n, c⟩
theorem Reader.get_fAt {x : Reader} (h : x.ok) : x.cells[2]? = some (i64 x.fAt) := by simp [Reader.cells, bytesV, List.getElem?_append]
theorem Reader.set_fAt {x : Reader} (h : x.ok) (v : Int) : x.cells.set 2 (i64 v) = ({ x with fAt := v }).cells := by simp [Reader.cells, bytesV, List.set_append]
theorem Reader.get_fErr {x : Reader} (h : x.ok) : x.cells[3]? = some (i64 x.fErr) := by simp [Reader.cells, bytesV, List.getElem?_append]
theorem Reader.set_fErr {x : Reader} (h : x.ok) (v : Int) : x.cells.set 3 (i64 v) = ({ x with fErr := v }).cells := by simp [Reader.cells, bytesV, List.set_append]
def Reader.zero : Reader := ⟨(.pointer none), Sl.nil, 0, 0⟩
theorem Reader.zero_ok : Reader.zero.ok := by constructor <;> first | exact trivial | simp [Reader.zero, Hw.isCell]
theorem Reader.zr : Zr Tryz.prog 140 (agg Reader.zero.cells) := by unfold Zr; kernel_rfl
structure Point where
  fX : List UInt8
  fY : List UInt8
def Point.cells (x : Point) : List Value := bytesV x.fX ++ (bytesV x.fY)
structure Point.ok (x : Point) : Prop where
  l_fX : x.fX.length = 32
  l_fY : x.fY.length = 32
theorem Point.length {x : Point} (h : x.ok) : x.cells.length = 64 := by simp [Point.cells, bytesV, h.l_fX, h.l_fY]
theorem Point.isCell {x : Point} (h : x.ok) : ∀ u ∈ x.cells, isCell u = true := by
  intro u hu
  simp only [Point.cells, List.mem_append, List.mem_singleton, bytesV, List.mem_map] at hu
  rcases hu with ⟨_, _, rfl⟩ | ⟨_, _, rfl⟩ <;> rfl
theorem Point.row_fX {x : Point} (h : x.ok) : (x.cells.drop 0).take 32 = bytesV x.fX := by simp [Point.cells, bytesV, h.l_fX, h.l_fY, List.drop_append, List.take_append, List.drop_of_length_le, List.take_of_length_le]
theorem Point.rl_fX {x : Point} (h : x.ok) : (bytesV x.fX).length = 32 := by simp [bytesV, h.l_fX]
theorem Point.upd_fX {x : Point} (h : x.ok) (l : List UInt8) (hl : l.length = 32) : upd x.cells 0 (bytesV l) = ({ x with fX := l }).cells := by
  simp [upd, Point.cells, bytesV, h.l_fX, h.l_fY, hl, List.drop_append, List.take_append, List.drop_of_length_le, List.take_of_length_le]
theorem Point.see_fX {x : Point} (h : x.ok) : ∀ (j : Nat) (v : Value), (bytesV x.fX)[j]? = some v → x.cells[0 + j]? = some v := fun j v hj => by
  rw [← Point.row_fX h, List.getElem?_take] at hj
  split at hj
  · rwa [List.getElem?_drop] at hj
  · cases hj
theorem Point.row_fY {x : Point} (h : x.ok) : (x.cells.drop 32).take 32 = bytesV x.fY := by simp [Point.cells, bytesV, h.l_fX, h.l_fY, List.drop_append, List.take_append, List.drop_of_length_le, List.take_of_length_le]
theorem Point.rl_fY {x : Point} (h : x.ok) : (bytesV x.fY).length = 32 := by simp [bytesV, h.l_fY]
theorem Point.upd_fY {x : Point} (h : x.ok) (l : List UInt8) (hl : l.length = 32) : upd x.cells 32 (bytesV l) = ({ x with fY := l }).cells := by
  simp [upd, Point.cells, bytesV, h.l_fX, h.l_fY, hl, List.drop_append, List.take_append, List.drop_of_length_le, List.take_of_length_le]
theorem Point.see_fY {x : Point} (h : x.ok) : ∀ (j : Nat) (v : Value), (bytesV x.fY)[j]? = some v → x.cells[32 + j]? = some v := fun j v hj => by
  rw [← Point.row_fY h, List.getElem?_take] at hj
  split at hj
  · rwa [List.getElem?_drop] at hj
  · cases hj
def Point.zero : Point := ⟨List.replicate 32 0, List.replicate 32 0⟩
theorem Point.zero_ok : Point.zero.ok := by constructor <;> simp [Point.zero]
theorem Point.zr : Zr Tryz.prog 79 (agg Point.zero.cells) := by unfold Zr; kernel_rfl
theorem Point.eqq {x y : Point} (hx : x.ok) (hy : y.ok) (w : World) : (Op.equalIn 10000 79 (agg x.cells) (agg y.cells)).run Tryz.prog w = .ok (decide (x.fX = y.fX) && (decide (x.fY = y.fY) && (true))) w := by
  rw [show (10000 : Nat) = 9999 + 1 from rfl, run_equalIn_struct w 9999 79 x.cells.toArray y.cells.toArray zK zK]
  exact (eqFields_step dE (run_partN Y77 rfl Sz77 (Point.row_fX hx)) (run_partN Y77 rfl Sz77 (Point.row_fX hy)) (eq_bytesA Y77 Y5 Sz5 hx.l_fX hy.l_fX) (eqFields_step dE (run_partN Y77 rfl Sz77 (Point.row_fY hx)) (run_partN Y77 rfl Sz77 (Point.row_fY hy)) (eq_bytesA Y77 Y5 Sz5 hx.l_fY hy.l_fY) eqFields_nil))
theorem Point.eq_run {x y : Point} (hx : x.ok) (hy : y.ok) (w : World) [Decidable (x = y)] : (Op.equalIn 10000 79 (agg x.cells) (agg y.cells)).run Tryz.prog w = .ok (decide (x = y)) w := by
  rw [Point.eqq hx hy]
  congr 1
  obtain ⟨x0, x1⟩ := x
  obtain ⟨y0, y1⟩ := y
  rw [Bool.eq_iff_iff]
  simp only [Bool.and_eq_true, decide_eq_true_eq, Point.mk.injEq, and_true]
theorem Point.eq_runC {x y : Point} (hx : x.ok) (hy : y.ok) (w : World) : (Op.equalIn 10000 79 (agg x.cells) (agg y.cells)).run Tryz.prog w = .ok (@decide (x = y) (Classical.propDecidable (x = y))) w := @Point.eq_run x y hx hy w (Classical.propDecidable (x = y))
theorem Point.eg : Tryz.prog.eqGuardType Tryz.prog.depth 79 = false := by kernel_rfl
structure wide where
  fX : List UInt8
  fY : List UInt8
  fZ : List UInt8
  fT : List UInt8
def wide.cells (x : wide) : List Value := bytesV x.fX ++ (bytesV x.fY ++ (bytesV x.fZ ++ (bytesV x.fT)))
structure wide.ok (x : wide) : Prop where
  l_fX : x.fX.length = 32
  l_fY : x.fY.length = 32
  l_fZ : x.fZ.length = 32
  l_fT : x.fT.length = 32
theorem wide.length {x : wide} (h : x.ok) : x.cells.length = 128 := by simp [wide.cells, bytesV, h.l_fX, h.l_fY, h.l_fZ, h.l_fT]
theorem wide.isCell {x : wide} (h : x.ok) : ∀ u ∈ x.cells, isCell u = true := by
  intro u hu
  simp only [wide.cells, List.mem_append, List.mem_singleton, bytesV, List.mem_map] at hu
  rcases hu with ⟨_, _, rfl⟩ | ⟨_, _, rfl⟩ | ⟨_, _, rfl⟩ | ⟨_, _, rfl⟩ <;> rfl
theorem wide.row_fX {x : wide} (h : x.ok) : (x.cells.drop 0).take 32 = bytesV x.fX := by simp [wide.cells, bytesV, h.l_fX, h.l_fY, h.l_fZ, h.l_fT, List.drop_append, List.take_append, List.drop_of_length_le, List.take_of_length_le]
theorem wide.rl_fX {x : wide} (h : x.ok) : (bytesV x.fX).length = 32 := by simp [bytesV, h.l_fX]
theorem wide.upd_fX {x : wide} (h : x.ok) (l : List UInt8) (hl : l.length = 32) : upd x.cells 0 (bytesV l) = ({ x with fX := l }).cells := by
  simp [upd, wide.cells, bytesV, h.l_fX, h.l_fY, h.l_fZ, h.l_fT, hl, List.drop_append, List.take_append, List.drop_of_length_le, List.take_of_length_le]
theorem wide.see_fX {x : wide} (h : x.ok) : ∀ (j : Nat) (v : Value), (bytesV x.fX)[j]? = some v → x.cells[0 + j]? = some v := fun j v hj => by
  rw [← wide.row_fX h, List.getElem?_take] at hj
  split at hj
  · rwa [List.getElem?_drop] at hj
  · cases hj
theorem wide.row_fY {x : wide} (h : x.ok) : (x.cells.drop 32).take 32 = bytesV x.fY := by simp [wide.cells, bytesV, h.l_fX, h.l_fY, h.l_fZ, h.l_fT, List.drop_append, List.take_append, List.drop_of_length_le, List.take_of_length_le]
theorem wide.rl_fY {x : wide} (h : x.ok) : (bytesV x.fY).length = 32 := by simp [bytesV, h.l_fY]
theorem wide.upd_fY {x : wide} (h : x.ok) (l : List UInt8) (hl : l.length = 32) : upd x.cells 32 (bytesV l) = ({ x with fY := l }).cells := by
  simp [upd, wide.cells, bytesV, h.l_fX, h.l_fY, h.l_fZ, h.l_fT, hl, List.drop_append, List.take_append, List.drop_of_length_le, List.take_of_length_le]
theorem wide.see_fY {x : wide} (h : x.ok) : ∀ (j : Nat) (v : Value), (bytesV x.fY)[j]? = some v → x.cells[32 + j]? = some v := fun j v hj => by
  rw [← wide.row_fY h, List.getElem?_take] at hj
  split at hj
  · rwa [List.getElem?_drop] at hj
  · cases hj
theorem wide.row_fZ {x : wide} (h : x.ok) : (x.cells.drop 64).take 32 = bytesV x.fZ := by simp [wide.cells, bytesV, h.l_fX, h.l_fY, h.l_fZ, h.l_fT, List.drop_append, List.take_append, List.drop_of_length_le, List.take_of_length_le]
theorem wide.rl_fZ {x : wide} (h : x.ok) : (bytesV x.fZ).length = 32 := by simp [bytesV, h.l_fZ]
theorem wide.upd_fZ {x : wide} (h : x.ok) (l : List UInt8) (hl : l.length = 32) : upd x.cells 64 (bytesV l) = ({ x with fZ := l }).cells := by
  simp [upd, wide.cells, bytesV, h.l_fX, h.l_fY, h.l_fZ, h.l_fT, hl, List.drop_append, List.take_append, List.drop_of_length_le, List.take_of_length_le]
theorem wide.see_fZ {x : wide} (h : x.ok) : ∀ (j : Nat) (v : Value), (bytesV x.fZ)[j]? = some v → x.cells[64 + j]? = some v := fun j v hj => by
  rw [← wide.row_fZ h, List.getElem?_take] at hj
  split at hj
  · rwa [List.getElem?_drop] at hj
  · cases hj
theorem wide.row_fT {x : wide} (h : x.ok) : (x.cells.drop 96).take 32 = bytesV x.fT := by simp [wide.cells, bytesV, h.l_fX, h.l_fY, h.l_fZ, h.l_fT, List.drop_append, List.take_append, List.drop_of_length_le, List.take_of_length_le]
theorem wide.rl_fT {x : wide} (h : x.ok) : (bytesV x.fT).length = 32 := by simp [bytesV, h.l_fT]
theorem wide.upd_fT {x : wide} (h : x.ok) (l : List UInt8) (hl : l.length = 32) : upd x.cells 96 (bytesV l) = ({ x with fT := l }).cells := by
  simp [upd, wide.cells, bytesV, h.l_fX, h.l_fY, h.l_fZ, h.l_fT, hl, List.drop_append, List.take_append, List.drop_of_length_le, List.take_of_length_le]
theorem wide.see_fT {x : wide} (h : x.ok) : ∀ (j : Nat) (v : Value), (bytesV x.fT)[j]? = some v → x.cells[96 + j]? = some v := fun j v hj => by
  rw [← wide.row_fT h, List.getElem?_take] at hj
  split at hj
  · rwa [List.getElem?_drop] at hj
  · cases hj
def wide.zero : wide := ⟨List.replicate 32 0, List.replicate 32 0, List.replicate 32 0, List.replicate 32 0⟩
theorem wide.zero_ok : wide.zero.ok := by constructor <;> simp [wide.zero]
theorem wide.zr : Zr Tryz.prog 168 (agg wide.zero.cells) := by unfold Zr; kernel_rfl
theorem wide.eqq {x y : wide} (hx : x.ok) (hy : y.ok) (w : World) : (Op.equalIn 10000 168 (agg x.cells) (agg y.cells)).run Tryz.prog w = .ok (decide (x.fX = y.fX) && (decide (x.fY = y.fY) && (decide (x.fZ = y.fZ) && (decide (x.fT = y.fT) && (true))))) w := by
  rw [show (10000 : Nat) = 9999 + 1 from rfl, run_equalIn_struct w 9999 168 x.cells.toArray y.cells.toArray zK zK]
  exact (eqFields_step dE (run_partN Y77 rfl Sz77 (wide.row_fX hx)) (run_partN Y77 rfl Sz77 (wide.row_fX hy)) (eq_bytesA Y77 Y5 Sz5 hx.l_fX hy.l_fX) (eqFields_step dE (run_partN Y77 rfl Sz77 (wide.row_fY hx)) (run_partN Y77 rfl Sz77 (wide.row_fY hy)) (eq_bytesA Y77 Y5 Sz5 hx.l_fY hy.l_fY) (eqFields_step dE (run_partN Y77 rfl Sz77 (wide.row_fZ hx)) (run_partN Y77 rfl Sz77 (wide.row_fZ hy)) (eq_bytesA Y77 Y5 Sz5 hx.l_fZ hy.l_fZ) (eqFields_step dE (run_partN Y77 rfl Sz77 (wide.row_fT hx)) (run_partN Y77 rfl Sz77 (wide.row_fT hy)) (eq_bytesA Y77 Y5 Sz5 hx.l_fT hy.l_fT) eqFields_nil))))
theorem wide.eq_run {x y : wide} (hx : x.ok) (hy : y.ok) (w : World) [Decidable (x = y)] : (Op.equalIn 10000 168 (agg x.cells) (agg y.cells)).run Tryz.prog w = .ok (decide (x = y)) w := by
  rw [wide.eqq hx hy]
  congr 1
  obtain ⟨x0, x1, x2, x3⟩ := x
  obtain ⟨y0, y1, y2, y3⟩ := y
  rw [Bool.eq_iff_iff]
  simp only [Bool.and_eq_true, decide_eq_true_eq, wide.mk.injEq, and_true]
theorem wide.eq_runC {x y : wide} (hx : x.ok) (hy : y.ok) (w : World) : (Op.equalIn 10000 168 (agg x.cells) (agg y.cells)).run Tryz.prog w = .ok (@decide (x = y) (Classical.propDecidable (x = y))) w := @wide.eq_run x y hx hy w (Classical.propDecidable (x = y))
theorem wide.eg : Tryz.prog.eqGuardType Tryz.prog.depth 168 = false := by kernel_rfl
structure secrets where
  fNumber : List UInt8
  fRest : List UInt8
def secrets.cells (x : secrets) : List Value := bytesV x.fNumber ++ (bytesV x.fRest)
structure secrets.ok (x : secrets) : Prop where
  l_fNumber : x.fNumber.length = 32
  l_fRest : x.fRest.length = 32
theorem secrets.length {x : secrets} (h : x.ok) : x.cells.length = 64 := by simp [secrets.cells, bytesV, h.l_fNumber, h.l_fRest]
theorem secrets.isCell {x : secrets} (h : x.ok) : ∀ u ∈ x.cells, isCell u = true := by
  intro u hu
  simp only [secrets.cells, List.mem_append, List.mem_singleton, bytesV, List.mem_map] at hu
  rcases hu with ⟨_, _, rfl⟩ | ⟨_, _, rfl⟩ <;> rfl
theorem secrets.row_fNumber {x : secrets} (h : x.ok) : (x.cells.drop 0).take 32 = bytesV x.fNumber := by simp [secrets.cells, bytesV, h.l_fNumber, h.l_fRest, List.drop_append, List.take_append, List.drop_of_length_le, List.take_of_length_le]
theorem secrets.rl_fNumber {x : secrets} (h : x.ok) : (bytesV x.fNumber).length = 32 := by simp [bytesV, h.l_fNumber]
theorem secrets.upd_fNumber {x : secrets} (h : x.ok) (l : List UInt8) (hl : l.length = 32) : upd x.cells 0 (bytesV l) = ({ x with fNumber := l }).cells := by
  simp [upd, secrets.cells, bytesV, h.l_fNumber, h.l_fRest, hl, List.drop_append, List.take_append, List.drop_of_length_le, List.take_of_length_le]
theorem secrets.row_fRest {x : secrets} (h : x.ok) : (x.cells.drop 32).take 32 = bytesV x.fRest := by simp [secrets.cells, bytesV, h.l_fNumber, h.l_fRest, List.drop_append, List.take_append, List.drop_of_length_le, List.take_of_length_le]
theorem secrets.upd_fRest {x : secrets} (h : x.ok) (l : List UInt8) (hl : l.length = 32) : upd x.cells 32 (bytesV l) = ({ x with fRest := l }).cells := by
  simp [upd, secrets.cells, bytesV, h.l_fNumber, h.l_fRest, hl, List.drop_append, List.take_append, List.drop_of_length_le, List.take_of_length_le]
theorem secrets.see_fRest {x : secrets} (h : x.ok) : ∀ (j : Nat) (v : Value), (bytesV x.fRest)[j]? = some v → x.cells[32 + j]? = some v := fun j v hj => by
  rw [← secrets.row_fRest h, List.getElem?_take] at hj
  split at hj
  · rwa [List.getElem?_drop] at hj
  · cases hj
def secrets.zero : secrets := ⟨List.replicate 32 0, List.replicate 32 0⟩
theorem secrets.zero_ok : secrets.zero.ok := by constructor <;> simp [secrets.zero]
theorem secrets.zr : Zr Tryz.prog 114 (agg secrets.zero.cells) := by unfold Zr; kernel_rfl
theorem secrets.eqq {x y : secrets} (hx : x.ok) (hy : y.ok) (w : World) : (Op.equalIn 10000 114 (agg x.cells) (agg y.cells)).run Tryz.prog w = .ok (decide (x.fNumber = y.fNumber) && (decide (x.fRest = y.fRest) && (true))) w := by
  rw [show (10000 : Nat) = 9999 + 1 from rfl, run_equalIn_struct w 9999 114 x.cells.toArray y.cells.toArray zK zK]
  exact (eqFields_step dE (run_partN Y77 rfl Sz77 (secrets.row_fNumber hx)) (run_partN Y77 rfl Sz77 (secrets.row_fNumber hy)) (eq_bytesA Y77 Y5 Sz5 hx.l_fNumber hy.l_fNumber) (eqFields_step dE (run_partN Y23 rfl Sz23 (secrets.row_fRest hx)) (run_partN Y23 rfl Sz23 (secrets.row_fRest hy)) (eq_bytesA Y23 Y5 Sz5 hx.l_fRest hy.l_fRest) eqFields_nil))
theorem secrets.eq_run {x y : secrets} (hx : x.ok) (hy : y.ok) (w : World) [Decidable (x = y)] : (Op.equalIn 10000 114 (agg x.cells) (agg y.cells)).run Tryz.prog w = .ok (decide (x = y)) w := by
  rw [secrets.eqq hx hy]
  congr 1
  obtain ⟨x0, x1⟩ := x
  obtain ⟨y0, y1⟩ := y
  rw [Bool.eq_iff_iff]
  simp only [Bool.and_eq_true, decide_eq_true_eq, secrets.mk.injEq, and_true]
theorem secrets.eq_runC {x y : secrets} (hx : x.ok) (hy : y.ok) (w : World) : (Op.equalIn 10000 114 (agg x.cells) (agg y.cells)).run Tryz.prog w = .ok (@decide (x = y) (Classical.propDecidable (x = y))) w := @secrets.eq_run x y hx hy w (Classical.propDecidable (x = y))
theorem secrets.eg : Tryz.prog.eqGuardType Tryz.prog.depth 114 = false := by kernel_rfl
end Go.Proofs.YtpacobmjjjillaaGreat
end

section
namespace Go.Proofs.YtpacobmjjjillaaGreat
open Go Hw
set_option linter.unusedVariables false
set_option linter.unusedSimpArgs false

def cmpI (a b : Int) : Int := if a < b then -1 else if b < a then 1 else 0
def orI : List Int → Int
  | [] => 0
  | x :: l => if x = 0 then orI l else x
theorem orI_drop (xs : List Int) (k : Nat) (hk : k < xs.length) : orI (xs.drop k) = if xs.getD k 0 = 0 then orI (xs.drop (k + 1)) else xs.getD k 0 := by
  rw [List.drop_eq_getElem_cons hk, orI]
  simp [List.getD, hk]

theorem nan_uint64 (x : UInt64) : Meets Tryz.prog 144 [u64 x] [] (fun _ => True) (fun v out => v = .bool false ∧ out = []) := by
 intro W hW
 refine calls_of (hp0 := []) Tryz.func144 J 6 Tryz.ntmps144 J (HRep.nil _) (Sat.seq (Sat.region (Tr.assign J J J (Tr.nil (at_n (Sat.seq (Sat.region (Tr.move J J J (Tr.move J J J (Tr.nei J J J J (show (!decide _) = false from congrArg not (decide_eq_true (rfl))) (Tr.assign J J J (Tr.nil (at_n (Sat.ret (en_r ?_)))))))))))))))
 refine ⟨_, [], res_tmp J J, sP, sP, ?_, rfl⟩
 rfl

theorem cmp_uint64 (x y : UInt64) : Meets Tryz.prog 82 [u64 x, u64 y] [] (fun _ => True) (fun v out => v = i64 (cmpI (x.toNat : Int) (y.toNat : Int)) ∧ out = []) := by
 intro W hW
 refine calls_of (hp0 := []) Tryz.func82 J 20 Tryz.ntmps82 J (HRep.nil _) (Sat.seq (Sat.region (Tr.assign J J J (Tr.nil (at_n (Sat.seq (Sat.region (Tr.move J J J (Tr.callV J J J J Body144 (nan_uint64 _) (fun _ _ => trivial) (Tr.assign J J J (Tr.nil (at_n (Sat.seq (Sat.region (Tr.move J J J (Tr.callV J J J J Body144 (nan_uint64 _) (fun _ _ => trivial) (Tr.assign J J J (Tr.nil (at_n (Sat.seq (Sat.seq (Sat.region (Tr.move J J J (Tr.nil (at_n (Sat.cond_f J (rfl) (Sat.skip (at_n (Sat.seq (Sat.seq (Sat.region (Tr.move J J J (Tr.nil (at_n (Sat.cond_f J (rfl) (Sat.skip (at_n (Sat.seq (Sat.seq (Sat.region (Tr.move J J J (Tr.move J J J (Tr.lss J J J J J (Tr.nil (at_n (Sat.condP J (fun hc3 => ?_) (fun hc3 => ?_)))))))))))))))))))))))))))))))))))))))))))))))
 ·
  refine Sat.seq (Sat.region (Tr.assign J J J (Tr.nil (at_n (Sat.ret (at_r (en_r ?_)))))))
  refine ⟨_, [], res_tmp J J, sP, sP, ?_, rfl⟩
  simp [cmpI, *]
 ·
  refine Sat.skip (at_n (Sat.seq (Sat.seq (Sat.region (Tr.move J J J (Tr.move J J J (Tr.gtr J J J J J (Tr.nil (at_n (Sat.condP J (fun hc4 => ?_) (fun hc4 => ?_)))))))))))
  ·
   refine Sat.seq (Sat.region (Tr.assign J J J (Tr.nil (at_n (Sat.ret (at_r (en_r ?_)))))))
   refine ⟨_, [], res_tmp J J, sP, sP, ?_, rfl⟩
   simp [cmpI, *]
  ·
   refine Sat.skip (at_n (Sat.seq (Sat.region (Tr.assign J J J (Tr.nil (at_n (Sat.ret (en_r ?_))))))))
   refine ⟨_, [], res_tmp J J, sP, sP, ?_, rfl⟩
   simp [cmpI, *]

theorem nan_int (x : Int) : Meets Tryz.prog 145 [i64 x] [] (fun _ => True) (fun v out => v = .bool false ∧ out = []) := by
 intro W hW
 refine calls_of (hp0 := []) Tryz.func145 J 6 Tryz.ntmps145 J (HRep.nil _) (Sat.seq (Sat.region (Tr.assign J J J (Tr.nil (at_n (Sat.seq (Sat.region (Tr.move J J J (Tr.move J J J (Tr.nei J J J J (show (!decide _) = false from congrArg not (decide_eq_true (rfl))) (Tr.assign J J J (Tr.nil (at_n (Sat.ret (en_r ?_)))))))))))))))
 refine ⟨_, [], res_tmp J J, sP, sP, ?_, rfl⟩
 rfl

theorem cmp_int (x y : Int) : Meets Tryz.prog 83 [i64 x, i64 y] [] (fun _ => True) (fun v out => v = i64 (cmpI x y) ∧ out = []) := by
 intro W hW
 refine calls_of (hp0 := []) Tryz.func83 J 20 Tryz.ntmps83 J (HRep.nil _) (Sat.seq (Sat.region (Tr.assign J J J (Tr.nil (at_n (Sat.seq (Sat.region (Tr.move J J J (Tr.callV J J J J Body145 (nan_int _) (fun _ _ => trivial) (Tr.assign J J J (Tr.nil (at_n (Sat.seq (Sat.region (Tr.move J J J (Tr.callV J J J J Body145 (nan_int _) (fun _ _ => trivial) (Tr.assign J J J (Tr.nil (at_n (Sat.seq (Sat.seq (Sat.region (Tr.move J J J (Tr.nil (at_n (Sat.cond_f J (rfl) (Sat.skip (at_n (Sat.seq (Sat.seq (Sat.region (Tr.move J J J (Tr.nil (at_n (Sat.cond_f J (rfl) (Sat.skip (at_n (Sat.seq (Sat.seq (Sat.region (Tr.move J J J (Tr.move J J J (Tr.lss J J J J J (Tr.nil (at_n (Sat.condP J (fun hc3 => ?_) (fun hc3 => ?_)))))))))))))))))))))))))))))))))))))))))))))))
 ·
  refine Sat.seq (Sat.region (Tr.assign J J J (Tr.nil (at_n (Sat.ret (at_r (en_r ?_)))))))
  refine ⟨_, [], res_tmp J J, sP, sP, ?_, rfl⟩
  simp [cmpI, *]
 ·
  refine Sat.skip (at_n (Sat.seq (Sat.seq (Sat.region (Tr.move J J J (Tr.move J J J (Tr.gtr J J J J J (Tr.nil (at_n (Sat.condP J (fun hc4 => ?_) (fun hc4 => ?_)))))))))))
  ·
   refine Sat.seq (Sat.region (Tr.assign J J J (Tr.nil (at_n (Sat.ret (at_r (en_r ?_)))))))
   refine ⟨_, [], res_tmp J J, sP, sP, ?_, rfl⟩
   simp [cmpI, *]
  ·
   refine Sat.skip (at_n (Sat.seq (Sat.region (Tr.assign J J J (Tr.nil (at_n (Sat.ret (en_r ?_))))))))
   refine ⟨_, [], res_tmp J J, sP, sP, ?_, rfl⟩
   simp [cmpI, *]

theorem cmp_or (b o c n : Nat) (xs : List Int) (hx : xs.length = n) (hn : n ≤ 1000000) : Meets Tryz.prog 85 [.slice (some ⟨b, o, none⟩) n c] [] (fun W => Sees W b o (intsV xs)) (fun v out => v = i64 (orI xs) ∧ out = []) := by
 intro W hW
 refine calls_of (hp0 := []) Tryz.func85 J 18 Tryz.ntmps85 J (HRep.nil _) (Sat.seq (Sat.region (Tr.assign J J J (Tr.nil (at_n (Sat.seq (Sat.region (Tr.assign J J J (Tr.nil (at_n (Sat.seq (Sat.seq (Sat.region (Tr.move J J J (Tr.lenSl J J J Y96 (Tr.move J J J (Tr.nil (at_n (Sat.block (Sat.loop (ι := Nat) (fun k => ⟨[(3, i64 0), (6, .slice (some ⟨b, o, none⟩) n c), (7, i64 (n : Int)), (8, i64 (k : Int))], []⟩) (fun k => k ≤ n ∧ orI xs = orI (xs.drop k)) (fun k => n - k) (0) ?_ ?_ ?_))))))))))))))))))))
 · exact ⟨by omega, by rw [List.drop_zero]⟩
 · exact weak_of (wk1 rfl (wk1 rfl (wk1 rfl (wk1 rfl wk0)))) wh0 (by repeat (exact ns_nil))
 ·
  rintro k ⟨hk, ho⟩
  refine Sat.seq (Sat.region (Tr.lss J J J J J (Tr.nil (at_n (Sat.seq (Sat.condP J (fun hc0 => ?_) (fun hc0 => ?_)))))))
  ·
   have hk2 : k < n := by omega
   have hd := orI_drop xs k oM
   refine Sat.skip (at_n (Sat.seq (Sat.block (Sat.seq (Sat.region (Tr.idxSlO J J J J Y96 Sz3 _ J oM (Tr.loadE J J J Y3 J sP (hW _ _ (get_ints oM)) (Tr.assign J J J (Tr.nil (at_n (Sat.seq (Sat.region (Tr.move J J J (Tr.move J J J (Tr.nei J J J J J (Tr.nil (at_n (Sat.condNP J (fun hc1 => ?_) (fun hc1 => ?_)))))))))))))))))))
   ·
    refine Sat.seq (Sat.region (Tr.move J J J (Tr.assign J J J (Tr.nil (at_n (Sat.ret (bl_r (at_r (at_r (bl_r (at_r (en_r ?_))))))))))))
    refine ⟨_, [], res_tmp J J, sP, sP, ?_, rfl⟩
    (rw [ho, hd, if_neg hc1])
   ·
    refine Sat.skip (bl_n (at_n (Sat.region (Tr.add_i64 J J J J oM (Tr.move J J J (Tr.nil (at_n ?_)))))))
    exact ⟨k + 1, ⟨by omega, by rw [ho, hd, if_pos hc1]⟩, by omega, weak_of (wk1 rfl (wk1 rfl (wk1 rfl (wk1 rfl wk0)))) wh0 (by repeat (exact ns_nil))⟩
  ·
   obtain rfl : k = n := by omega
   refine Sat.exit (at_x (at_x (bl_h (at_n (Sat.seq (Sat.region (Tr.move J J J (Tr.assign J J J (Tr.nil (at_n (Sat.ret (en_r ?_))))))))))))
   refine ⟨_, [], res_tmp J J, sP, sP, ?_, rfl⟩
   (rw [ho, List.drop_of_length_le oM]; rfl)

theorem bytealg_run {w : World} {p q : Option Addr} {n m c1 c2 : Nat} {a b : List UInt8} (ha : a.length = n) (hb : b.length = m) (h1 : SeesP w p (bytesV a)) (h2 : SeesP w q (bytesV b)) :
    (callFunc 146 [.slice p n c1, .slice q m c2].toArray).run Tryz.prog w = .ok (.value (i64 (cmpB a b))) w := by
  rw [run_callFunc_extern Tryz.func146 zK zK zK (e := Extern.BytealgCompare.compare) zK]
  rw [show [Value.slice p n c1, Value.slice q m c2].toArray = #[.slice p n c1, .slice q m c2] from rfl, run_compareB ha hb h1 h2]
  rfl

theorem bytes_cmp (p q : Option Addr) (c1 c2 n m : Nat) (a b : List UInt8) (ha : a.length = n) (hb : b.length = m) : Meets Tryz.prog 84 [.slice p n c1, .slice q m c2] [] (fun W => SeesP W p (bytesV a) ∧ SeesP W q (bytesV b)) (fun v out => v = i64 (cmpB a b) ∧ out = []) := by
 intro W hW
 refine calls_of (hp0 := []) Tryz.func84 J 8 Tryz.ntmps84 J (HRep.nil _) (Sat.seq (Sat.region (Tr.assign J J J (Tr.nil (at_n (Sat.seq (Sat.region (Tr.move J J J (Tr.move J J J (Tr.extL J J J J (fun w h => bytealg_run ha hb (seesP_ext h J hW.1) (seesP_ext h J hW.2)) (Tr.assign J J J (Tr.nil (at_n (Sat.ret (en_r ?_)))))))))))))))
 refine ⟨_, [], res_tmp J J, sP, sP, ?_, rfl⟩
 rfl

end Go.Proofs.YtpacobmjjjillaaGreat
end

section
namespace Go.Proofs.YtpacobmjjjillaaGreat
open Go Hw
set_option linter.unusedSimpArgs false
set_option linter.unusedVariables false
set_option maxRecDepth 100000
section
variable {H : Type} {enc : TypeId × Value → H} {W : World} {base : Nat} {sp : Nat → Bool} {held : Bool}
theorem Vote.openT {fuel : Nat} {cs : List Value} {y : DataW H × List MemPlace} (h : DataW.trod enc Tryz.prog W base sp held fuel 29 cs = some y) : ∃ x : Vote, x.ok ∧ cs = x.cells ∧ ((Lit.int .i64 x.fPhase).wf = true) := by
  obtain ⟨xs, n, _, _, h4, h5, h6⟩ := DataW.trod_struct Y29 h
  rw [show Tryz.prog.cellsOf 29 = 132 by kernel_rfl] at h4
  have c0 : Tryz.prog.cellsOf 22 = 1 := by kernel_rfl
  have c1 : Tryz.prog.cellsOf 22 = 1 := by kernel_rfl
  have c2 : Tryz.prog.cellsOf 3 = 1 := by kernel_rfl
  have c3 : Tryz.prog.cellsOf 24 = 32 := by kernel_rfl
  have c4 : Tryz.prog.cellsOf 22 = 1 := by kernel_rfl
  have c5 : Tryz.prog.cellsOf 25 = 32 := by kernel_rfl
  have c6 : Tryz.prog.cellsOf 27 = 64 := by kernel_rfl
  have g0 : DataW.trod enc Tryz.prog W base sp held n 22 ((cs.drop 0).take (Tryz.prog.cellsOf 22)) = some (xs[0]'(by rw [h5]; decide)) := by rw [← List.getElem?_eq_getElem]; exact h6 0 _ rfl
  rw [c0] at g0
  obtain ⟨a0, e0, _, w0⟩ := DataW.trod_int Y22 g0
  obtain ⟨v0, rfl⟩ := Hw.u64_back w0
  have g1 : DataW.trod enc Tryz.prog W base sp held n 22 ((cs.drop 1).take (Tryz.prog.cellsOf 22)) = some (xs[1]'(by rw [h5]; decide)) := by rw [← List.getElem?_eq_getElem]; exact h6 1 _ rfl
  rw [c1] at g1
  obtain ⟨a1, e1, _, w1⟩ := DataW.trod_int Y22 g1
  obtain ⟨v1, rfl⟩ := Hw.u64_back w1
  have g2 : DataW.trod enc Tryz.prog W base sp held n 3 ((cs.drop 2).take (Tryz.prog.cellsOf 3)) = some (xs[2]'(by rw [h5]; decide)) := by rw [← List.getElem?_eq_getElem]; exact h6 2 _ rfl
  rw [c2] at g2
  obtain ⟨v2, e2, _, w2⟩ := DataW.trod_int Y3 g2
  have g3 : DataW.trod enc Tryz.prog W base sp held n 24 ((cs.drop 3).take (Tryz.prog.cellsOf 24)) = some (xs[3]'(by rw [h5]; decide)) := by rw [← List.getElem?_eq_getElem]; exact h6 3 _ rfl
  rw [c3] at g3
  obtain ⟨v3, e3, l3⟩ := Hw.open_bytesT Y24 Y5 zK zK g3
  have g4 : DataW.trod enc Tryz.prog W base sp held n 22 ((cs.drop 35).take (Tryz.prog.cellsOf 22)) = some (xs[4]'(by rw [h5]; decide)) := by rw [← List.getElem?_eq_getElem]; exact h6 4 _ rfl
  rw [c4] at g4
  obtain ⟨a4, e4, _, w4⟩ := DataW.trod_int Y22 g4
  obtain ⟨v4, rfl⟩ := Hw.u64_back w4
  have g5 : DataW.trod enc Tryz.prog W base sp held n 25 ((cs.drop 36).take (Tryz.prog.cellsOf 25)) = some (xs[5]'(by rw [h5]; decide)) := by rw [← List.getElem?_eq_getElem]; exact h6 5 _ rfl
  rw [c5] at g5
  obtain ⟨v5, e5, l5⟩ := Hw.open_bytesT Y25 Y5 zK zK g5
  have g6 : DataW.trod enc Tryz.prog W base sp held n 27 ((cs.drop 68).take (Tryz.prog.cellsOf 27)) = some (xs[6]'(by rw [h5]; decide)) := by rw [← List.getElem?_eq_getElem]; exact h6 6 _ rfl
  rw [c6] at g6
  obtain ⟨v6, e6, l6⟩ := Hw.open_bytesT Y27 Y5 zK zK g6
  refine ⟨⟨v0, v1, v2, v3, v4, v5, v6⟩, ⟨l3, l5, l6⟩, ?_, w2⟩
  rw [← List.drop_zero (l := cs)]
  exact (Hw.cat 1 e0 rfl (Hw.cat 2 e1 rfl (Hw.cat 3 e2 rfl (Hw.cat 35 e3 rfl (Hw.cat 36 e4 rfl (Hw.cat 68 e5 rfl (Hw.cat_last e6 h4)))))))
theorem Vote.openV {r : Reach} {b0 : Nat} {v : Value} {d : DataW H} {ps : List MemPlace} (hval : Value.okWide Tryz.prog W r b0 29 v) (hd : DataW.Trod enc Tryz.prog W base sp held 29 v d ps) : ∃ x : Vote, x.ok ∧ v = agg x.cells ∧ ((Lit.int .i64 x.fPhase).wf = true) := by
  simp only [Value.okWide, Y29] at hval
  obtain ⟨cs, rfl, _⟩ := hval
  obtain ⟨fuel, hf⟩ := hd
  obtain ⟨x, h1, h2, h3⟩ := Vote.openT hf
  refine ⟨x, h1, ?_, h3⟩
  simp only [Value.cells] at h2
  rw [agg, ← h2]
end
section
variable {H : Type} {enc : TypeId × Value → H} {W : World} {base : Nat} {sp : Nat → Bool} {held : Bool}
theorem Block.openT {fuel : Nat} {cs : List Value} {y : DataW H × List MemPlace} (h : DataW.trod enc Tryz.prog W base sp held fuel 53 cs = some y) : ∃ x : Block, x.ok ∧ cs = x.cells ∧ (∃ ls, Hw.RowsAt W x.fLinks 32 ls) ∧ (∃ l, Hw.BytesAt W x.fData l) := by
  obtain ⟨xs, n, _, _, h4, h5, h6⟩ := DataW.trod_struct Y53 h
  rw [show Tryz.prog.cellsOf 53 = 131 by kernel_rfl] at h4
  have c0 : Tryz.prog.cellsOf 25 = 32 := by kernel_rfl
  have c1 : Tryz.prog.cellsOf 22 = 1 := by kernel_rfl
  have c2 : Tryz.prog.cellsOf 24 = 32 := by kernel_rfl
  have c3 : Tryz.prog.cellsOf 51 = 1 := by kernel_rfl
  have c4 : Tryz.prog.cellsOf 39 = 1 := by kernel_rfl
  have c5 : Tryz.prog.cellsOf 27 = 64 := by kernel_rfl
  have g0 : DataW.trod enc Tryz.prog W base sp held n 25 ((cs.drop 0).take (Tryz.prog.cellsOf 25)) = some (xs[0]'(by rw [h5]; decide)) := by rw [← List.getElem?_eq_getElem]; exact h6 0 _ rfl
  rw [c0] at g0
  obtain ⟨v0, e0, l0⟩ := Hw.open_bytesT Y25 Y5 zK zK g0
  have g1 : DataW.trod enc Tryz.prog W base sp held n 22 ((cs.drop 32).take (Tryz.prog.cellsOf 22)) = some (xs[1]'(by rw [h5]; decide)) := by rw [← List.getElem?_eq_getElem]; exact h6 1 _ rfl
  rw [c1] at g1
  obtain ⟨a1, e1, _, w1⟩ := DataW.trod_int Y22 g1
  obtain ⟨v1, rfl⟩ := Hw.u64_back w1
  have g2 : DataW.trod enc Tryz.prog W base sp held n 24 ((cs.drop 33).take (Tryz.prog.cellsOf 24)) = some (xs[2]'(by rw [h5]; decide)) := by rw [← List.getElem?_eq_getElem]; exact h6 2 _ rfl
  rw [c2] at g2
  obtain ⟨v2, e2, l2⟩ := Hw.open_bytesT Y24 Y5 zK zK g2
  have g3 : DataW.trod enc Tryz.prog W base sp held n 51 ((cs.drop 65).take (Tryz.prog.cellsOf 51)) = some (xs[3]'(by rw [h5]; decide)) := by rw [← List.getElem?_eq_getElem]; exact h6 3 _ rfl
  rw [c3] at g3
  obtain ⟨v3, b3, e3, q3⟩ := Hw.open_rowsS Y51 Y24 Y5 zK zK dE g3
  have g4 : DataW.trod enc Tryz.prog W base sp held n 39 ((cs.drop 66).take (Tryz.prog.cellsOf 39)) = some (xs[4]'(by rw [h5]; decide)) := by rw [← List.getElem?_eq_getElem]; exact h6 4 _ rfl
  rw [c4] at g4
  obtain ⟨v4, b4, e4, q4⟩ := Hw.open_bytesS Y39 Y5 zK g4
  have g5 : DataW.trod enc Tryz.prog W base sp held n 27 ((cs.drop 67).take (Tryz.prog.cellsOf 27)) = some (xs[5]'(by rw [h5]; decide)) := by rw [← List.getElem?_eq_getElem]; exact h6 5 _ rfl
  rw [c5] at g5
  obtain ⟨v5, e5, l5⟩ := Hw.open_bytesT Y27 Y5 zK zK g5
  refine ⟨⟨v0, v1, v2, v3, v4, v5⟩, ⟨l0, l2, l5⟩, ?_, ⟨b3, q3⟩, ⟨b4, q4⟩⟩
  rw [← List.drop_zero (l := cs)]
  exact (Hw.cat 32 e0 rfl (Hw.cat 33 e1 rfl (Hw.cat 65 e2 rfl (Hw.cat 66 e3 rfl (Hw.cat 67 e4 rfl (Hw.cat_last e5 h4))))))
theorem Block.openV {r : Reach} {b0 : Nat} {v : Value} {d : DataW H} {ps : List MemPlace} (hval : Value.okWide Tryz.prog W r b0 53 v) (hd : DataW.Trod enc Tryz.prog W base sp held 53 v d ps) : ∃ x : Block, x.ok ∧ v = agg x.cells ∧ (∃ ls, Hw.RowsAt W x.fLinks 32 ls) ∧ (∃ l, Hw.BytesAt W x.fData l) := by
  simp only [Value.okWide, Y53] at hval
  obtain ⟨cs, rfl, _⟩ := hval
  obtain ⟨fuel, hf⟩ := hd
  obtain ⟨x, h1, h2, h3⟩ := Block.openT hf
  refine ⟨x, h1, ?_, h3⟩
  simp only [Value.cells] at h2
  rw [agg, ← h2]
end
-- no opening of Reader (field fSelf)
section
variable {H : Type} {enc : TypeId × Value → H} {W : World} {base : Nat} {sp : Nat → Bool} {held : Bool}
theorem Point.openT {fuel : Nat} {cs : List Value} {y : DataW H × List MemPlace} (h : DataW.trod enc Tryz.prog W base sp held fuel 79 cs = some y) : ∃ x : Point, x.ok ∧ cs = x.cells ∧ True := by
  obtain ⟨xs, n, _, _, h4, h5, h6⟩ := DataW.trod_struct Y79 h
  rw [show Tryz.prog.cellsOf 79 = 64 by kernel_rfl] at h4
  have c0 : Tryz.prog.cellsOf 77 = 32 := by kernel_rfl
  have c1 : Tryz.prog.cellsOf 77 = 32 := by kernel_rfl
  have g0 : DataW.trod enc Tryz.prog W base sp held n 77 ((cs.drop 0).take (Tryz.prog.cellsOf 77)) = some (xs[0]'(by rw [h5]; decide)) := by rw [← List.getElem?_eq_getElem]; exact h6 0 _ rfl
  rw [c0] at g0
  obtain ⟨v0, e0, l0⟩ := Hw.open_bytesT Y77 Y5 zK zK g0
  have g1 : DataW.trod enc Tryz.prog W base sp held n 77 ((cs.drop 32).take (Tryz.prog.cellsOf 77)) = some (xs[1]'(by rw [h5]; decide)) := by rw [← List.getElem?_eq_getElem]; exact h6 1 _ rfl
  rw [c1] at g1
  obtain ⟨v1, e1, l1⟩ := Hw.open_bytesT Y77 Y5 zK zK g1
  refine ⟨⟨v0, v1⟩, ⟨l0, l1⟩, ?_, trivial⟩
  rw [← List.drop_zero (l := cs)]
  exact (Hw.cat 32 e0 rfl (Hw.cat_last e1 h4))
theorem Point.openV {r : Reach} {b0 : Nat} {v : Value} {d : DataW H} {ps : List MemPlace} (hval : Value.okWide Tryz.prog W r b0 79 v) (hd : DataW.Trod enc Tryz.prog W base sp held 79 v d ps) : ∃ x : Point, x.ok ∧ v = agg x.cells ∧ True := by
  simp only [Value.okWide, Y79] at hval
  obtain ⟨cs, rfl, _⟩ := hval
  obtain ⟨fuel, hf⟩ := hd
  obtain ⟨x, h1, h2, h3⟩ := Point.openT hf
  refine ⟨x, h1, ?_, h3⟩
  simp only [Value.cells] at h2
  rw [agg, ← h2]
end
section
variable {H : Type} {enc : TypeId × Value → H} {W : World} {base : Nat} {sp : Nat → Bool} {held : Bool}
theorem wide.openT {fuel : Nat} {cs : List Value} {y : DataW H × List MemPlace} (h : DataW.trod enc Tryz.prog W base sp held fuel 168 cs = some y) : ∃ x : wide, x.ok ∧ cs = x.cells ∧ True := by
  obtain ⟨xs, n, _, _, h4, h5, h6⟩ := DataW.trod_struct Tryz.underlying168 h
  rw [show Tryz.prog.cellsOf 168 = 128 by kernel_rfl] at h4
  have c0 : Tryz.prog.cellsOf 77 = 32 := by kernel_rfl
  have c1 : Tryz.prog.cellsOf 77 = 32 := by kernel_rfl
  have c2 : Tryz.prog.cellsOf 77 = 32 := by kernel_rfl
  have c3 : Tryz.prog.cellsOf 77 = 32 := by kernel_rfl
  have g0 : DataW.trod enc Tryz.prog W base sp held n 77 ((cs.drop 0).take (Tryz.prog.cellsOf 77)) = some (xs[0]'(by rw [h5]; decide)) := by rw [← List.getElem?_eq_getElem]; exact h6 0 _ rfl
  rw [c0] at g0
  obtain ⟨v0, e0, l0⟩ := Hw.open_bytesT Y77 Y5 zK zK g0
  have g1 : DataW.trod enc Tryz.prog W base sp held n 77 ((cs.drop 32).take (Tryz.prog.cellsOf 77)) = some (xs[1]'(by rw [h5]; decide)) := by rw [← List.getElem?_eq_getElem]; exact h6 1 _ rfl
  rw [c1] at g1
  obtain ⟨v1, e1, l1⟩ := Hw.open_bytesT Y77 Y5 zK zK g1
  have g2 : DataW.trod enc Tryz.prog W base sp held n 77 ((cs.drop 64).take (Tryz.prog.cellsOf 77)) = some (xs[2]'(by rw [h5]; decide)) := by rw [← List.getElem?_eq_getElem]; exact h6 2 _ rfl
  rw [c2] at g2
  obtain ⟨v2, e2, l2⟩ := Hw.open_bytesT Y77 Y5 zK zK g2
  have g3 : DataW.trod enc Tryz.prog W base sp held n 77 ((cs.drop 96).take (Tryz.prog.cellsOf 77)) = some (xs[3]'(by rw [h5]; decide)) := by rw [← List.getElem?_eq_getElem]; exact h6 3 _ rfl
  rw [c3] at g3
  obtain ⟨v3, e3, l3⟩ := Hw.open_bytesT Y77 Y5 zK zK g3
  refine ⟨⟨v0, v1, v2, v3⟩, ⟨l0, l1, l2, l3⟩, ?_, trivial⟩
  rw [← List.drop_zero (l := cs)]
  exact (Hw.cat 32 e0 rfl (Hw.cat 64 e1 rfl (Hw.cat 96 e2 rfl (Hw.cat_last e3 h4))))
theorem wide.openV {r : Reach} {b0 : Nat} {v : Value} {d : DataW H} {ps : List MemPlace} (hval : Value.okWide Tryz.prog W r b0 168 v) (hd : DataW.Trod enc Tryz.prog W base sp held 168 v d ps) : ∃ x : wide, x.ok ∧ v = agg x.cells ∧ True := by
  simp only [Value.okWide, Tryz.underlying168] at hval
  obtain ⟨cs, rfl, _⟩ := hval
  obtain ⟨fuel, hf⟩ := hd
  obtain ⟨x, h1, h2, h3⟩ := wide.openT hf
  refine ⟨x, h1, ?_, h3⟩
  simp only [Value.cells] at h2
  rw [agg, ← h2]
end
section
variable {H : Type} {enc : TypeId × Value → H} {W : World} {base : Nat} {sp : Nat → Bool} {held : Bool}
theorem secrets.openT {fuel : Nat} {cs : List Value} {y : DataW H × List MemPlace} (h : DataW.trod enc Tryz.prog W base sp held fuel 114 cs = some y) : ∃ x : secrets, x.ok ∧ cs = x.cells ∧ True := by
  obtain ⟨xs, n, _, _, h4, h5, h6⟩ := DataW.trod_struct Tryz.underlying114 h
  rw [show Tryz.prog.cellsOf 114 = 64 by kernel_rfl] at h4
  have c0 : Tryz.prog.cellsOf 77 = 32 := by kernel_rfl
  have c1 : Tryz.prog.cellsOf 23 = 32 := by kernel_rfl
  have g0 : DataW.trod enc Tryz.prog W base sp held n 77 ((cs.drop 0).take (Tryz.prog.cellsOf 77)) = some (xs[0]'(by rw [h5]; decide)) := by rw [← List.getElem?_eq_getElem]; exact h6 0 _ rfl
  rw [c0] at g0
  obtain ⟨v0, e0, l0⟩ := Hw.open_bytesT Y77 Y5 zK zK g0
  have g1 : DataW.trod enc Tryz.prog W base sp held n 23 ((cs.drop 32).take (Tryz.prog.cellsOf 23)) = some (xs[1]'(by rw [h5]; decide)) := by rw [← List.getElem?_eq_getElem]; exact h6 1 _ rfl
  rw [c1] at g1
  obtain ⟨v1, e1, l1⟩ := Hw.open_bytesT Y23 Y5 zK zK g1
  refine ⟨⟨v0, v1⟩, ⟨l0, l1⟩, ?_, trivial⟩
  rw [← List.drop_zero (l := cs)]
  exact (Hw.cat 32 e0 rfl (Hw.cat_last e1 h4))
theorem secrets.openV {r : Reach} {b0 : Nat} {v : Value} {d : DataW H} {ps : List MemPlace} (hval : Value.okWide Tryz.prog W r b0 114 v) (hd : DataW.Trod enc Tryz.prog W base sp held 114 v d ps) : ∃ x : secrets, x.ok ∧ v = agg x.cells ∧ True := by
  simp only [Value.okWide, Tryz.underlying114] at hval
  obtain ⟨cs, rfl, _⟩ := hval
  obtain ⟨fuel, hf⟩ := hd
  obtain ⟨x, h1, h2, h3⟩ := secrets.openT hf
  refine ⟨x, h1, ?_, h3⟩
  simp only [Value.cells] at h2
  rw [agg, ← h2]
end
end Go.Proofs.YtpacobmjjjillaaGreat
end

section
namespace Go.Proofs.YtpacobmjjjillaaGreat
open Go Hw
set_option linter.unusedVariables false
set_option linter.unusedSimpArgs false

def badAt (prev : List UInt8) (ls : List (List UInt8)) (i : Nat) : Bool := decide (ls.getD i [] = List.replicate 32 0) || (decide (ls.getD i [] = prev) || (decide ((0 : Int) < (i : Int)) && decide ((0 : Int) ≤ cmpB (ls.getD (i - 1) []) (ls.getD i []))))
def linksBad (prev : List UInt8) (ls : List (List UInt8)) : Bool := (List.range ls.length).any (badAt prev ls)
def bheadB (B : Block) : Bool := decide ((4294967295 : Int) < (B.fSeq.toNat : Int)) || (!decide (decide (B.fPrev = List.replicate 32 0) = decide ((B.fSeq.toNat : Int) = 0)) || (decide ((16 : Int) < (B.fLinks.n : Int)) || decide ((512 : Int) < (B.fData.n : Int))))
def bcheck (B : Block) (ls : List (List UInt8)) : Int := if bheadB B = true then 2 else (if linksBad B.fPrev ls = true then 2 else 0)
theorem kit_own (s : Sl) (l : List UInt8) (hn : s.n ≤ 500000) : Meets Tryz.prog 24 [s.v] [] (fun W => BytesAt W s l) (fun v out => FreshRow v out (bytesV l) 5 s.n 1) := by
 intro W hW
 refine calls_of (hp0 := []) Tryz.func24 J 6 Tryz.ntmps24 J (HRep.nil _) (Sat.seq (Sat.region (Tr.assign J J J (Tr.nil (at_n (Sat.seq (Sat.region (Tr.mkRow (z := u8 0) [] ([]) J J J Y39 Sz5 Zr5 J J (by intro v hv; cases hv) dE (rfl) ?_))))))))
 intro q0
 refine Tr.move J J J (Tr.appendSl (z := u8 0) (by' := 1) (bytesV l) J J J J J Y39 Y39 Sz5 Zr5 (by unfold By; kernel_rfl) J (fun w h => seesP_ext h J hW.see) (fun e => by have := hW.nil e; have := hW.cap; omega) (by simp [bytesV, isCell, u8]) rem_here J J oM oM oM (by rw [bytesV, List.length_map, hW.len, Nat.mul_one]) ?_)
 intro q1 c1 hq1
 refine Tr.assign J J J (Tr.nil (at_n (Sat.ret (en_r ?_))))
 refine ⟨_, [⟨q1, [] ++ bytesV l, 5, c1 * 1⟩], res_tmp J J, (by intro b hb; rw [List.mem_singleton.1 hb]; exact mem0), nodup1, ⟨q1, c1, by rw [Nat.zero_add], by omega, rfl⟩⟩

def ownB (B : Block) (q1 c1 q2 c2 : Nat) : Block := { B with fLinks := ⟨some ⟨q1, 0, none⟩, B.fLinks.n, c1⟩, fData := ⟨some ⟨q2, 0, none⟩, B.fData.n, c2⟩ }
def OwnedBlock (B : Block) (ls : List (List UInt8)) (l : List UInt8) (v : Value) (out : List Blk) : Prop := ∃ q1 c1 q2 c2, v = agg (ownB B q1 c1 q2 c2).cells ∧ B.fLinks.n ≤ c1 ∧ B.fData.n ≤ c2 ∧ out = [⟨q2, bytesV l, 5, c2 * 1⟩, ⟨q1, flatB ls, 24, c1 * 32⟩]
theorem OwnedBlock.loose (B : Block) (ls : List (List UInt8)) (l : List UInt8) : Loose (OwnedBlock B ls l) := fun k hk => by
  obtain ⟨q1, _, h1⟩ := fresh_is 0 k
  obtain ⟨q2, h2', h2⟩ := fresh_is (q1 + 1) k
  refine ⟨_, _, ⟨q1, B.fLinks.n, q2, B.fData.n, rfl, Nat.le_refl _, Nat.le_refl _, rfl⟩, ?_⟩
  simp only [List.cons_append, List.nil_append, List.map_cons, List.nodup_cons, List.mem_cons]
  refine ⟨?_, fun h => ?_, hk⟩
  · rintro (h | h)
    · omega
    · obtain ⟨b, hb, e⟩ := List.mem_map.1 h; exact h2 b hb e
  · obtain ⟨b, hb, e⟩ := List.mem_map.1 h; exact h1 b hb e
theorem rows_ext {C : Cx} {hp : List Blk} {w : World} {s : Sl} {m : Nat} {ls : List (List UInt8)} (h : HRep C hp w) (hl : C.lent = []) (hr : RowsAt C.W0 s m ls) : RowsAt w s m ls := ⟨hr.len, hr.row, hr.cap, seesP_ext h hl hr.see, hr.max, hr.nil⟩
theorem bytes_ext {C : Cx} {hp : List Blk} {w : World} {s : Sl} {l : List UInt8} (h : HRep C hp w) (hl : C.lent = []) (hr : BytesAt C.W0 s l) : BytesAt w s l := ⟨hr.len, hr.cap, seesP_ext h hl hr.see, hr.max, hr.nil⟩

end Go.Proofs.YtpacobmjjjillaaGreat
end

section
namespace Hw
open Go
set_option linter.unusedSimpArgs false
set_option linter.unusedVariables false

theorem bytesV_cell (l : List UInt8) : ∀ u ∈ bytesV l, isCell u = true := fun u hu => by
  simp only [bytesV, List.mem_map] at hu
  obtain ⟨_, _, rfl⟩ := hu
  rfl
def bLen (n : Nat) : Nat := if n = 0 then 0 else Nat.log2 n + 1
theorem bLen_le {n k : Nat} : bLen n ≤ k ↔ n < 2 ^ k := by
  unfold bLen
  by_cases h : n = 0
  · subst h; simp; exact Nat.pow_pos dE
  · rw [if_neg h, Nat.succ_le_iff, Nat.log2_lt h]
theorem bLen_shr {n k : Nat} (h : 2 ^ k ≤ n) : bLen n = k + bLen (n / 2 ^ k) := by
  have key : ∀ j, bLen n ≤ k + j ↔ bLen (n / 2 ^ k) ≤ j := fun j => by
    rw [bLen_le, bLen_le, Nat.pow_add, Nat.div_lt_iff_lt_mul (Nat.pow_pos dE), Nat.mul_comm]
  have h1 := (key (bLen (n / 2 ^ k))).2 (Nat.le_refl _)
  have h2 : k < bLen n := by
    rcases Nat.lt_or_ge k (bLen n) with h | h
    · exact h
    · rw [ge_iff_le, bLen_le] at h; omega
  have h3 := (key (bLen n - k)).1 oM
  omega
def szN (n : Nat) : Nat := min ((bLen (n ||| 1) + 6) / 7) 9
theorem szN_pos (n : Nat) : 1 ≤ szN n ∧ szN n ≤ 9 := by
  have : 1 ≤ bLen (n ||| 1) := by
    rcases Nat.lt_or_ge 0 (bLen (n ||| 1)) with h | h
    · exact h
    · rw [ge_iff_le, bLen_le] at h
      have h1 : 1 ≤ n ||| 1 := Nat.right_le_or
      simp at h
  unfold szN
  omega
def tailB (x : UInt64) : Nat → List UInt8
  | 0 => []
  | k + 1 => (shr64 x (8 * k)).toUInt8 :: tailB x k
theorem tailB_length (x : UInt64) : ∀ k, (tailB x k).length = k
  | 0 => rfl
  | k + 1 => by simp [tailB, tailB_length x k]
theorem tailB_get (x : UInt64) : ∀ k j, j < k → (tailB x k)[j]? = some (shr64 x (8 * (k - 1 - j))).toUInt8
  | 0, j, h => by omega
  | k + 1, 0, h => by simp [tailB]
  | k + 1, j + 1, h => by
    rw [tailB, List.getElem?_cons_succ, tailB_get x k j oM]
    congr 4
    omega
def headB (x : UInt64) : UInt8 := shl8 255 (9 - szN x.toNat) ||| (shr64 x (8 * (szN x.toNat - 1))).toUInt8
/-- the bytes of a number -/
def numB (x : UInt64) : List UInt8 := headB x :: tailB x (szN x.toNat - 1)
theorem numB_length (x : UInt64) : (numB x).length = szN x.toNat := by
  have := szN_pos x.toNat
  simp [numB, tailB_length]; omega
/-- the first j bytes behind the first one -/
def numUp (x : UInt64) (j : Nat) : List UInt8 := headB x :: (tailB x (szN x.toNat - 1)).take j
theorem numUp_length (x : UInt64) (j : Nat) (h : j ≤ szN x.toNat - 1) : (numUp x j).length = 1 + j := by
  simp [numUp, tailB_length]; omega
theorem numUp_step (x : UInt64) (j : Nat) (h : j < szN x.toNat - 1) : numUp x (j + 1) = numUp x j ++ [(shr64 x (8 * (szN x.toNat - 2 - j))).toUInt8] := by
  have hl : j < (tailB x (szN x.toNat - 1)).length := by rw [tailB_length]; exact h
  have hg := tailB_get x (szN x.toNat - 1) j h
  rw [List.getElem?_eq_getElem hl, Option.some.injEq] at hg
  rw [numUp, numUp, List.take_succ_eq_append_getElem hl, hg, show szN x.toNat - 1 - 1 - j = szN x.toNat - 2 - j by omega]
  rfl
theorem numUp_all (x : UInt64) : numUp x (szN x.toNat - 1) = numB x := by
  rw [numUp, List.take_of_length_le (by rw [tailB_length]; omega), numB]
theorem numUp_zero (x : UInt64) : numUp x 0 = [headB x] := by simp [numUp]
def cntB (f : UInt8) : Nat := 9 - bLen (255 ^^^ f).toNat
theorem b8_le (f : UInt8) : bLen (255 ^^^ f).toNat ≤ 8 := bLen_le.2 (255 ^^^ f).toNat_lt
def foldB (a : UInt64) : List UInt8 → UInt64
  | [] => a
  | b :: l => foldB (shl64 a 8 ||| b.toUInt64) l
theorem foldB_snoc (b : UInt8) : ∀ (l : List UInt8) (a : UInt64), foldB a (l ++ [b]) = shl64 (foldB a l) 8 ||| b.toUInt64
  | [], a => rfl
  | x :: l, a => by rw [List.cons_append, foldB, foldB_snoc b l, foldB]
def headV (f : UInt8) : UInt64 := (f &&& shr8 255 (cntB f)).toUInt64
def numV (xs : List UInt8) (a : Nat) : UInt64 := foldB (headV (xs.getD a 0)) ((xs.drop (a + 1)).take (cntB (xs.getD a 0) - 1))
theorem foldB_step (xs : List UInt8) (s a : Nat) (v : UInt64) (h : s + a < xs.length) : foldB v ((xs.drop s).take (a + 1)) = shl64 (foldB v ((xs.drop s).take a)) 8 ||| (xs.getD (s + a) 0).toUInt64 := by
  have hl : a < (xs.drop s).length := by simp; omega
  rw [List.take_succ_eq_append_getElem hl, foldB_snoc]
  congr 2
  simp [List.getD, List.getElem?_eq_getElem h]
theorem cnt_word (f : UInt8) : (wordOf (8 - ((bLen (255 ^^^ f).toNat : Nat) : Int) + 1 - 1)).toNat = cntB f - 1 := by
  have := b8_le f
  rw [show (8 - ((bLen (255 ^^^ f).toNat : Nat) : Int) + 1 - 1) = ((8 - bLen (255 ^^^ f).toNat : Nat) : Int) by omega, cntB]
  simp only [wordOf, UInt64.toNat_ofNat']
  omega
end Hw
end

section
namespace Go.Proofs.YtpacobmjjjillaaGreat
open Go Hw
set_option linter.unusedVariables false
set_option linter.unusedSimpArgs false

def len8S : ByteArray := ⟨#[0, 1, 2, 2, 3, 3, 3, 3, 4, 4, 4, 4, 4, 4, 4, 4, 5, 5, 5, 5, 5, 5, 5, 5, 5, 5, 5, 5, 5, 5, 5, 5, 6, 6, 6, 6, 6, 6, 6, 6, 6, 6, 6, 6, 6, 6, 6, 6, 6, 6, 6, 6, 6, 6, 6, 6, 6, 6, 6, 6, 6, 6, 6, 6, 7, 7, 7, 7, 7, 7, 7, 7, 7, 7, 7, 7, 7, 7, 7, 7, 7, 7, 7, 7, 7, 7, 7, 7, 7, 7, 7, 7, 7, 7, 7, 7, 7, 7, 7, 7, 7, 7, 7, 7, 7, 7, 7, 7, 7, 7, 7, 7, 7, 7, 7, 7, 7, 7, 7, 7, 7, 7, 7, 7, 7, 7, 7, 7, 8, 8, 8, 8, 8, 8, 8, 8, 8, 8, 8, 8, 8, 8, 8, 8, 8, 8, 8, 8, 8, 8, 8, 8, 8, 8, 8, 8, 8, 8, 8, 8, 8, 8, 8, 8, 8, 8, 8, 8, 8, 8, 8, 8, 8, 8, 8, 8, 8, 8, 8, 8, 8, 8, 8, 8, 8, 8, 8, 8, 8, 8, 8, 8, 8, 8, 8, 8, 8, 8, 8, 8, 8, 8, 8, 8, 8, 8, 8, 8, 8, 8, 8, 8, 8, 8, 8, 8, 8, 8, 8, 8, 8, 8, 8, 8, 8, 8, 8, 8, 8, 8, 8, 8, 8, 8, 8, 8, 8, 8, 8, 8, 8, 8, 8, 8, 8, 8, 8, 8, 8, 8, 8, 8, 8, 8, 8, 8]⟩
theorem len8_all : ∀ n, n < 256 → len8S.data.toList[n]? = some (UInt8.ofNat (bLen n)) := by decide
theorem len8_get (x : UInt8) : len8S[x.toNat]? = some (UInt8.ofNat (bLen x.toNat)) := by
  have h := len8_all x.toNat x.toNat_lt
  have h2 : x.toNat < len8S.size := x.toNat_lt
  have e : len8S[x.toNat]? = len8S.data.toList[x.toNat]? := by
    rw [getElem?_pos len8S x.toNat h2, List.getElem?_eq_getElem (by exact x.toNat_lt)]
    rfl
  rw [e]; exact h
theorem len8_nat (x : UInt8) : (UInt8.ofNat (bLen x.toNat)).toNat = bLen x.toNat := by
  have : bLen x.toNat ≤ 8 := bLen_le.2 x.toNat_lt
  rw [UInt8.toNat_ofNat', Nat.mod_eq_of_lt oM]

theorem bits_len8 (x : UInt8) : Meets Tryz.prog 206 [u8 x] [] (fun _ => True) (fun v out => v = i64 ((bLen x.toNat : Nat) : Int) ∧ out = []) := by
 intro W hW
 refine calls_of (hp0 := []) Tryz.func206 J 6 Tryz.ntmps206 J (HRep.nil _) (Sat.seq (Sat.region (Tr.assign J J J (Tr.nil (at_n (Sat.seq (Sat.region (Tr.move J J J (Tr.idxStr (s := len8S) J J J J Y9 _ J (len8_get x) (Tr.conv J J J Y5 Y3 (cv_u8_i64 _) (Tr.assign J J J (Tr.nil (at_n (Sat.ret (en_r ?_)))))))))))))))
 refine ⟨_, [], res_tmp J J, sP, sP, ?_, rfl⟩
 rw [len8_nat]

theorem bits_lz8 (x : UInt8) : Meets Tryz.prog 131 [u8 x] [] (fun _ => True) (fun v out => v = i64 (8 - ((bLen x.toNat : Nat) : Int)) ∧ out = []) := by
 intro W hW
 have hb : bLen x.toNat ≤ 8 := bLen_le.2 x.toNat_lt
 refine calls_of (hp0 := []) Tryz.func131 J 6 Tryz.ntmps131 J (HRep.nil _) (Sat.seq (Sat.region (Tr.assign J J J (Tr.nil (at_n (Sat.seq (Sat.region (Tr.move J J J (Tr.callV J J J J Body206 (bits_len8 _) (fun _ _ => trivial) (Tr.sub_i64 J J J J oM (Tr.assign J J J (Tr.nil (at_n (Sat.ret (en_r ?_)))))))))))))))
 refine ⟨_, [], res_tmp J J, sP, sP, ?_, rfl⟩
 rfl

theorem shr64_nat (x : UInt64) (n : Nat) : (shr64 x n).toNat = x.toNat / 2 ^ n := by
  have h : x.toNat / 2 ^ n ≤ x.toNat := Nat.div_le_self _ _
  have := x.toNat_lt
  rw [shr64, UInt64.toNat_ofNat', Nat.mod_eq_of_lt oM]

theorem bits_len64 (x : UInt64) : Meets Tryz.prog 207 [u64 x] [] (fun _ => True) (fun v out => v = i64 ((bLen x.toNat : Nat) : Int) ∧ out = []) := by
 intro W hW
 have hx := x.toNat_lt
 refine calls_of (hp0 := []) Tryz.func207 J 25 Tryz.ntmps207 J (HRep.nil _) (Sat.seq (Sat.region (Tr.assign J J J (Tr.nil (at_n (Sat.join (ι := UInt64 × Nat) (fun p => ⟨[(0, u64 p.1), (2, i64 (p.2 : Int))], []⟩) (fun p => bLen x.toNat = p.2 + bLen p.1.toNat ∧ p.1.toNat < 2 ^ 32 ∧ p.2 ≤ 32) ?_ ?_))))))
 ·
  refine Sat.seq (Sat.region (Tr.move J J J (Tr.geq J J J J J (Tr.nil (at_n (Sat.condP J (fun hc0 => ?_) (fun hc0 => ?_)))))))
  ·
   refine Sat.seq (Sat.region (Tr.move J J J (Tr.shr_u64 J J J J 32 J dE (Tr.assign J J J (Tr.nil (at_n (Sat.region (Tr.assign J J J (Tr.nil (at_n ?_))))))))))
   exact ⟨(shr64 x 32, 0 + 32), ⟨by simp only [shr64_nat]; have := bLen_shr (n := x.toNat) (k := 32) oM; omega, by simp only [shr64_nat]; omega, by simp only []; omega⟩, weak_of (wk1 rfl (wk1 (by rfl) wk0)) wh0 (by repeat (exact ns_nil))⟩
  ·
   refine Sat.skip (at_n ?_)
   exact ⟨(x, 0), ⟨by simp only []; omega, by simp only []; omega, by simp only []; omega⟩, weak_of (wk1 rfl (wk1 (by rfl) wk0)) wh0 (by repeat (exact ns_nil))⟩
 ·
  intro p hj
  obtain ⟨y, n⟩ := p
  obtain ⟨hb, hy, hn⟩ := hj
  simp only at hb hy hn ⊢
  refine Sat.join (ι := UInt64 × Nat) (fun p => ⟨[(0, u64 p.1), (2, i64 (p.2 : Int))], []⟩) (fun p => bLen x.toNat = p.2 + bLen p.1.toNat ∧ p.1.toNat < 2 ^ 16 ∧ p.2 ≤ 48) ?_ ?_
  ·
   refine Sat.seq (Sat.region (Tr.move J J J (Tr.geq J J J J J (Tr.nil (at_n (Sat.condP J (fun hc1 => ?_) (fun hc1 => ?_)))))))
   ·
    refine Sat.seq (Sat.region (Tr.move J J J (Tr.shr_u64 J J J J 16 J dE (Tr.assign J J J (Tr.nil (at_n (Sat.region (Tr.move J J J (Tr.add_i64 J J J J oM (Tr.assign J J J (Tr.nil (at_n ?_))))))))))))
    exact ⟨(shr64 y 16, n + 16), ⟨by simp only [shr64_nat]; have := bLen_shr (n := y.toNat) (k := 16) oM; omega, by simp only [shr64_nat]; omega, by simp only []; omega⟩, weak_of (wk1 rfl (wk1 (by rfl) wk0)) wh0 (by repeat (exact ns_nil))⟩
   ·
    refine Sat.skip (at_n ?_)
    exact ⟨(y, n), ⟨by simp only []; omega, by simp only []; omega, by simp only []; omega⟩, weak_of (wk1 rfl (wk1 (by rfl) wk0)) wh0 (by repeat (exact ns_nil))⟩
  ·
   intro p hj
   obtain ⟨y, n⟩ := p
   obtain ⟨hb, hy, hn⟩ := hj
   simp only at hb hy hn ⊢
   refine Sat.join (ι := UInt64 × Nat) (fun p => ⟨[(0, u64 p.1), (2, i64 (p.2 : Int))], []⟩) (fun p => bLen x.toNat = p.2 + bLen p.1.toNat ∧ p.1.toNat < 2 ^ 8 ∧ p.2 ≤ 56) ?_ ?_
   ·
    refine Sat.seq (Sat.region (Tr.move J J J (Tr.geq J J J J J (Tr.nil (at_n (Sat.condP J (fun hc2 => ?_) (fun hc2 => ?_)))))))
    ·
     refine Sat.seq (Sat.region (Tr.move J J J (Tr.shr_u64 J J J J 8 J dE (Tr.assign J J J (Tr.nil (at_n (Sat.region (Tr.move J J J (Tr.add_i64 J J J J oM (Tr.assign J J J (Tr.nil (at_n ?_))))))))))))
     exact ⟨(shr64 y 8, n + 8), ⟨by simp only [shr64_nat]; have := bLen_shr (n := y.toNat) (k := 8) oM; omega, by simp only [shr64_nat]; omega, by simp only []; omega⟩, weak_of (wk1 rfl (wk1 (by rfl) wk0)) wh0 (by repeat (exact ns_nil))⟩
    ·
     refine Sat.skip (at_n ?_)
     exact ⟨(y, n), ⟨by simp only []; omega, by simp only []; omega, by simp only []; omega⟩, weak_of (wk1 rfl (wk1 (by rfl) wk0)) wh0 (by repeat (exact ns_nil))⟩
   ·
    intro p hj
    obtain ⟨y, n⟩ := p
    obtain ⟨hb, hy, hn⟩ := hj
    simp only at hb hy hn ⊢
    refine Sat.seq (Sat.region (Tr.move J J J (Tr.move J J J (Tr.conv J J J Y22 Y5 (cv_u64_u8 _) (Tr.idxStr (s := len8S) J J J J Y9 _ J (len8_get y.toUInt8) ?_)))))
    have h8 : y.toUInt8.toNat = y.toNat := by simp; omega
    have h9 := len8_nat y.toUInt8
    have h10 : bLen y.toUInt8.toNat ≤ 8 := bLen_le.2 (by rw [h8]; omega)
    refine Tr.conv J J J Y5 Y3 (cv_u8_i64 _) (Tr.add_i64 J J J J oM (Tr.assign J J J (Tr.nil (at_n (Sat.ret (en_r ?_))))))
    refine ⟨_, [], res_tmp J J, sP, sP, ?_, rfl⟩
    rw [h9, h8, hb, Int.natCast_add]

theorem oct_size (x : UInt64) : Meets Tryz.prog 133 [u64 x] [] (fun _ => True) (fun v out => v = i64 ((szN x.toNat : Nat) : Int) ∧ out = []) := by
 intro W hW
 have hb : bLen (x ||| 1).toNat ≤ 64 := bLen_le.2 (x ||| 1).toNat_lt
 have ho : (x ||| 1).toNat = x.toNat ||| 1 := by rw [UInt64.toNat_or]; rfl
 refine calls_of (hp0 := []) Tryz.func133 J 9 Tryz.ntmps133 J (HRep.nil _) (Sat.seq (Sat.region (Tr.assign J J J (Tr.nil (at_n (Sat.seq (Sat.region (Tr.move J J J (Tr.or_u64 J J J (show evIn _ _ = some (u64 1) from rfl) (Tr.callV J J J J Body207 (bits_len64 _) (fun _ _ => trivial) (Tr.add_i64 J J J J oM (Tr.quo_i64 J J J J oM (Tr.min2 J J J J (rfl) (Tr.assign J J J (Tr.nil (at_n (Sat.ret (en_r ?_))))))))))))))))))
 refine ⟨_, [], res_tmp J J, sP, sP, ?_, rfl⟩
 rw [szN, ← ho]; congr 1; split <;> omega

theorem oct_grown (p : Option Addr) (n c m : Nat) (l : List UInt8) (hl : l.length = n) (hp : p = none → n = 0) (hn : n ≤ 100000) (hm : m ≤ 100000) : Meets Tryz.prog 129 [.slice p n c, i64 (m : Int)] [] (fun W => SeesP W p (bytesV l)) (fun v out => FreshRow v out (bytesV l) 5 n 1) := by
 intro W hW
 refine calls_of (hp0 := []) Tryz.func129 J 12 Tryz.ntmps129 J (HRep.nil _) (Sat.seq (Sat.region (Tr.assign J J J (Tr.nil (at_n (Sat.seq (Sat.region (Tr.move J J J (Tr.lenSl J J J Y39 (Tr.move J J J (Tr.add_i64 J J J J oM (Tr.mkRoom (z := u8 0) (by' := 1) (n + m) J J J J oM Y39 Sz5 Zr5 (by unfold By; kernel_rfl) J oM oM ?_))))))))))))
 intro n9
 refine Tr.move J J J (Tr.appendSl (z := u8 0) (by' := 1) (bytesV l) J J J J J Y39 Y39 Sz5 Zr5 (by unfold By; kernel_rfl) J (fun w h => seesP_ext h J hW) hp (by simp [bytesV, isCell, u8]) rem_here oM J oM oM oM (by simp [bytesV, hl]) ?_)
 intro q1 c1 hq1
 refine Tr.assign J J J (Tr.nil (at_n (Sat.ret (en_r ?_))))
 refine ⟨_, [⟨q1, [] ++ bytesV l, 5, c1 * 1⟩], res_tmp J J, (by intro b hb; rw [List.mem_singleton.1 hb]; exact mem0), nodup1, ⟨q1, c1, by rw [Nat.zero_add], by omega, rfl⟩⟩

theorem oct_number (q n c : Nat) (l : List UInt8) (x : UInt64) (hl : l.length = n) (hnc : n ≤ c) (hn : n ≤ 200000) : Meets Tryz.prog 214 [.slice (some ⟨q, 0, none⟩) n c, u64 x] [q] (fun W => BlkOk W ⟨q, bytesV (l), 5, c * 1⟩) (fun v out => FreshRow v out (bytesV (l ++ numB x)) 5 (n + szN x.toNat) 1) := by
 intro W hW
 have hz := szN_pos x.toNat
 refine calls_of (hp0 := [⟨q, bytesV (l), 5, c * 1⟩]) Tryz.func214 J 37 Tryz.ntmps214 J (HRep.one hW) (Sat.seq (Sat.region (Tr.assign J J J (Tr.nil (at_n (Sat.seq (Sat.region (Tr.move J J J (Tr.callV J J J J Body133 (oct_size _) (fun _ _ => trivial) (Tr.assign J J J (Tr.nil (at_n (Sat.seq (Sat.draw [(0, 0), (0, 1), (0, 2), (0, 3), (0, 4), (0, 5), (0, 6), (0, 7), (0, 8), (0, 9), (0, 10), (4, 11), (4, 12), (0, 13)] Mixed zK (Tr.move J J J (Tr.move J J J (Tr.sub_i64 J J J J oM (Tr.shl_u8 J J (show evIn _ _ = some (u8 255) from rfl) J (9 - szN x.toNat) oM oM (Tr.move J J J (Tr.move J J J (Tr.sub_i64 J J J J oM (Tr.mul_i64 J J J J oM (Tr.shr_u64 J J J J (8 * (szN x.toNat - 1)) oM oM (Tr.conv J J J Y22 Y5 (cv_u64_u8 _) (Tr.or_u8 J J J J (Tr.mkRow (z := u8 0) [u8 (headB x)] (bytesV [headB x]) J J J Y39 Sz5 Zr5 J J (by intro v hv; rw [List.mem_singleton.1 hv]; rfl) dE J ?_))))))))))))))))))))))))))
 intro q20
 refine Tr.appendSl (z := u8 0) (by' := 1) (bytesV [headB x]) J J J J J Y39 Y39 Sz5 Zr5 (by unfold By; kernel_rfl) J (fun w h => SeesP.of (sees_own h mem0)) (fun e => by cases e) (by simp [bytesV, isCell, u8]) (rem_there rem_here) J (by simp [bytesV, hl]) oM oM oM (by rfl) ?_
 intro q1 c1 hq1
 refine Tr.assign J J J (Tr.nil (at_n (Sat.seq (Sat.seq (Sat.region (Tr.move J J J (Tr.sub_i64 J J J J oM (Tr.assign J J J (Tr.nil (at_n (Sat.block (Sat.loop (ι := Nat × Nat × Nat) (fun p => ⟨[(0, .slice (some ⟨p.2.1, 0, none⟩) (n + 1 + p.1) p.2.2), (1, u64 x), (5, i64 ((szN x.toNat : Nat) : Int)), (6, i64 (((szN x.toNat : Nat) : Int) - 2 - (p.1 : Int)))], [⟨p.2.1, bytesV (l ++ numUp x p.1), 5, p.2.2 * 1⟩]⟩) (fun p => p.1 ≤ szN x.toNat - 1 ∧ n + 1 + p.1 ≤ p.2.2) (fun p => szN x.toNat - 1 - p.1) ((0, q1, c1)) ?_ ?_ ?_))))))))))))
 · exact ⟨Nat.zero_le _, hq1⟩
 · exact weak_of (wk1 rfl (wk1 rfl (wk1 rfl (wk1 (by rw [show (((szN x.toNat : Nat) : Int) - 2 - ((0 : Nat) : Int)) = ((szN x.toNat : Nat) : Int) - 2 by omega]; rfl) wk0)))) (wh1 (by rw [numUp_zero]; simp only [bytesV, List.map_append]; exact mem0) wh0) nD
 ·
  rintro p ⟨hp1, hp2⟩
  refine Sat.seq (Sat.seq (Sat.region (Tr.move J J J (Tr.geq J J J J J (Tr.nil (at_n (Sat.condP J (fun hc0 => ?_) (fun hc0 => ?_))))))))
  ·
   have hp3 : p.1 < szN x.toNat - 1 := by omega
   refine Sat.skip (at_n (Sat.seq (Sat.block (Sat.region (Tr.move J J J (Tr.move J J J (Tr.move J J J (Tr.mul_i64 J J J J oM (Tr.shr_u64 J J J J (8 * (szN x.toNat - 2 - p.1)) oM oM (Tr.conv J J J Y22 Y5 (cv_u64_u8 _) (Tr.mkRow (z := u8 0) [u8 ((shr64 x (8 * (szN x.toNat - 2 - p.1))).toUInt8)] (bytesV [(shr64 x (8 * (szN x.toNat - 2 - p.1))).toUInt8]) J J J Y39 Sz5 Zr5 J J (by intro v hv; rw [List.mem_singleton.1 hv]; rfl) dE J ?_)))))))))))
   intro q34
   refine Tr.appendSl (z := u8 0) (by' := 1) (bytesV [(shr64 x (8 * (szN x.toNat - 2 - p.1))).toUInt8]) J J J J J Y39 Y39 Sz5 Zr5 (by unfold By; kernel_rfl) J (fun w h => SeesP.of (sees_own h mem0)) (fun e => by cases e) (by simp [bytesV, isCell, u8]) (rem_there rem_here) J (by rw [bytesV, List.length_map, List.length_append, hl, numUp_length x p.1 oM]; omega) oM oM oM (by rfl) ?_
   intro q2 c2 hq2
   refine Tr.assign J J J (Tr.nil (bl_n (at_n (Sat.region (Tr.move J J J (Tr.sub_i64 J J J J oM (Tr.assign J J J (Tr.nil (at_n ?_)))))))))
   exact ⟨(p.1 + 1, q2, c2), ⟨by simp only []; omega, by simp only []; omega⟩, by simp only []; omega, weak_of (wk1 (by rw [show n + 1 + (p.1 + 1) = n + 1 + p.1 + 1 by omega]; rfl) (wk1 rfl (wk1 rfl (wk1 (by rw [show (((szN x.toNat : Nat) : Int) - 2 - ((p.1 + 1 : Nat) : Int)) = ((szN x.toNat : Nat) : Int) - 2 - (p.1 : Int) - 1 by omega]; rfl) wk0)))) (wh1 (by rw [numUp_step x p.1 oM, ← List.append_assoc]; simp only [bytesV, List.map_append]; exact mem0) wh0) nD⟩
  ·
   have hp3 : p.1 = szN x.toNat - 1 := by omega
   refine Sat.exit (at_x (at_x (bl_h (at_n (Sat.seq (Sat.region (Tr.move J J J (Tr.assign J J J (Tr.nil (at_n (Sat.ret (en_r ?_))))))))))))
   refine ⟨_, [⟨p.2.1, bytesV (l ++ numB x), 5, p.2.2 * 1⟩], res_tmp J J, (by intro b hb; rw [List.mem_singleton.1 hb, ← numUp_all, ← hp3]; exact mem0), nodup1, ⟨p.2.1, p.2.2, by rw [show n + 1 + p.1 = n + szN x.toNat by omega], by omega, rfl⟩⟩

theorem oct_Number (p : Option Addr) (n c : Nat) (l : List UInt8) (x : UInt64) (hl : l.length = n) (hp : p = none → n = 0) (hn : n ≤ 90000) : Meets Tryz.prog 152 [.slice p n c, u64 x] [] (fun W => SeesP W p (bytesV l)) (fun v out => FreshRow v out (bytesV (l ++ numB x)) 5 (n + szN x.toNat) 1) := by
 intro W hW
 have hz := szN_pos x.toNat
 refine calls_of (hp0 := []) Tryz.func152 J 11 Tryz.ntmps152 J (HRep.nil _) (Sat.seq (Sat.region (Tr.assign J J J (Tr.nil (at_n (Sat.seq (Sat.region (Tr.move J J J (Tr.move J J J (Tr.callV J J J J Body133 (oct_size _) (fun _ _ => trivial) (Tr.call J J J J Body129 (oct_grown p n c (szN x.toNat) l hl hp oM oM) (FreshRow.loose _ _ _ _) (fun w h => seesP_ext h J hW) ?_)))))))))))
 rintro v1 out1 ⟨q1, c1, rfl, hc1, rfl⟩
 refine Tr.move J J J (Tr.callL (L := [⟨q1, bytesV (l), 5, c1 * 1⟩]) J J J J J Body214 (oct_number q1 (n) c1 (l) x (by simp [hl]) hc1 oM) rem_here lO (fun w h => own_blk h Z0) ?_)
 rintro v2 out2 ⟨q2, c2, rfl, hc2, rfl⟩
 refine Tr.assign J J J (Tr.nil (at_n (Sat.ret (en_r ?_))))
 refine ⟨_, [⟨q2, bytesV (l ++ numB x), 5, c2 * 1⟩], res_tmp J J, (by intro b hb; rw [List.mem_singleton.1 hb]; exact mem0), nodup1, ⟨q2, c2, rfl, hc2, rfl⟩⟩

end Go.Proofs.YtpacobmjjjillaaGreat
end

section
namespace Go.Proofs.YtpacobmjjjillaaGreat
open Go Hw
set_option linter.unusedVariables false
set_option linter.unusedSimpArgs false

theorem res_none {C : Cx} {fn : Func} {s : St} (hr : fn.results = #[]) : Res C fn s (.tuple #[]) := fun a w r => by
  simp [results, hr]
def rdr (n q N cp at' : Nat) (e : Int) : Reader := ⟨.pointer (some ⟨n, 0, none⟩), ⟨some ⟨q, 0, none⟩, N, cp⟩, (at' : Int), e⟩
theorem rdr_ok (n q N cp at' : Nat) (e : Int) : (rdr n q N cp at' e).ok := ⟨rfl⟩
/-- a reader's block: its number, its row, how much there is, where it stands, its error -/
def RB (n q N cp at' : Nat) (e : Int) : Blk := ⟨n, (rdr n q N cp at' e).cells, 140, 4⟩
theorem rdr_at (n q N cp a k : Nat) (e : Int) : rdr n q N cp (a + k) e = ⟨.pointer (some ⟨n, 0, none⟩), ⟨some ⟨q, 0, none⟩, N, cp⟩, (a : Int) + (k : Int), e⟩ := by simp [rdr]
theorem rb_self {w : World} {n q N cp at' : Nat} {e : Int} (h : BlkOk w (RB n q N cp at' e)) : w.cell? ⟨n, 0, none⟩ = some (ptr n 0) := BlkOk.cell0 h rfl

theorem rd_made (n : Nat) : Meets Tryz.prog 205 [ptr n 0] [] (fun W => W.cell? ⟨n, 0, none⟩ = some (ptr n 0)) (fun v out => v = .bool true ∧ out = []) := by
 intro W hW
 refine calls_of (hp0 := []) Tryz.func205 J 13 Tryz.ntmps205 J (HRep.nil _) (Sat.seq (Sat.region (Tr.assign J J J (Tr.nil (at_n (Sat.seq (Sat.region (Tr.move J J J (Tr.neqNilP J J J J Y84 (Tr.move J J J (Tr.move J J J (Tr.nilChk J J J (Tr.fld J J J Tryz.underlying140 J Sz84 dE _ J (Tr.loadE J J J Y84 J sP (hW) (Tr.move J J J (Tr.eqSameP J J J J Y84 Sz140 (Tr.pick J J J J J J (Tr.assign J J J (Tr.nil (at_n (Sat.ret (en_r ?_))))))))))))))))))))))
 refine ⟨_, [], res_tmp J J, sP, sP, ?_, rfl⟩
 rfl

theorem rd_take_err (n q N cp at' : Nat) (e : Int) (k : UInt64) (hat : at' ≤ N) (hN : N ≤ cp) (hbig : N ≤ 1000000) (he : ¬ e = 0) : Meets Tryz.prog 130 [ptr n 0, u64 k] [n] (fun W => BlkOk W (RB n q N cp (at') (e))) (fun v out => v = .tuple #[.slice none 0 0, .bool false] ∧ out = [RB n q N cp (at') (e)]) := by
 intro W hW
 have hfB : (rdr n q N cp at' (e)).fB.n = N := rfl
 have hfA : (rdr n q N cp at' (e)).fAt = (at' : Int) := rfl
 have hfE : (rdr n q N cp at' (e)).fErr = (e) := rfl
 have hwd : (wordOf (((rdr n q N cp at' (e)).fB.n : Int) - (rdr n q N cp at' (e)).fAt)).toNat = N - at' := by
  rw [hfB, hfA, show ((N : Int) - (at' : Int)) = ((N - at' : Nat) : Int) by omega]; simp only [wordOf, UInt64.toNat_ofNat']; omega
 refine calls_of (hp0 := [RB n q N cp (at') (e)]) Tryz.func130 J 56 Tryz.ntmps130 J (HRep.one hW) (Sat.seq (Sat.region (Tr.assign J J J (Tr.assign J J J (Tr.nil (at_n (Sat.seq (Sat.seq (Sat.region (Tr.move J J J (Tr.callV J J J J Body205 (rd_made n) (fun w h => rb_self (own_blk h Z0)) ?_)))))))))))
 refine Tr.not J J J (Tr.move J J J (Tr.move J J J (Tr.nilChk J J J (Tr.fld J J J Tryz.underlying140 J Sz31 dE _ J (Tr.load1 J J J Y31 J Z0 (by exact Reader.get_fErr (by exact rdr_ok _ _ _ _ _ _)) ?_)))))
 refine Tr.nei J J J J (show (!decide _) = true from congrArg not (decide_eq_false (he))) (Tr.pick J J J J J J (Tr.nil (at_n (Sat.cond_t J (rfl) (Sat.seq (Sat.region (Tr.assign J J J (Tr.assign J J J (Tr.nil (at_n (Sat.ret (at_r (en_r ?_)))))))))))))
 refine ⟨_, [RB n q N cp (at') (e)], res_tmp2 J J J, (by intro b hb; rw [List.mem_singleton.1 hb]; exact mem0), nodup1, ?_⟩
 exact ⟨rfl, rfl⟩

theorem rd_take_more (n q N cp at' : Nat) (k : UInt64) (hat : at' ≤ N) (hN : N ≤ cp) (hbig : N ≤ 1000000) (hk : N < at' + k.toNat) : Meets Tryz.prog 130 [ptr n 0, u64 k] [n] (fun W => BlkOk W (RB n q N cp (at') (0))) (fun v out => v = .tuple #[.slice none 0 0, .bool false] ∧ out = [RB n q N cp (at') (5)]) := by
 intro W hW
 have hfB : (rdr n q N cp at' (0)).fB.n = N := rfl
 have hfA : (rdr n q N cp at' (0)).fAt = (at' : Int) := rfl
 have hfE : (rdr n q N cp at' (0)).fErr = (0) := rfl
 have hwd : (wordOf (((rdr n q N cp at' (0)).fB.n : Int) - (rdr n q N cp at' (0)).fAt)).toNat = N - at' := by
  rw [hfB, hfA, show ((N : Int) - (at' : Int)) = ((N - at' : Nat) : Int) by omega]; simp only [wordOf, UInt64.toNat_ofNat']; omega
 refine calls_of (hp0 := [RB n q N cp (at') (0)]) Tryz.func130 J 56 Tryz.ntmps130 J (HRep.one hW) (Sat.seq (Sat.region (Tr.assign J J J (Tr.assign J J J (Tr.nil (at_n (Sat.seq (Sat.seq (Sat.region (Tr.move J J J (Tr.callV J J J J Body205 (rd_made n) (fun w h => rb_self (own_blk h Z0)) ?_)))))))))))
 refine Tr.not J J J (Tr.move J J J (Tr.move J J J (Tr.nilChk J J J (Tr.fld J J J Tryz.underlying140 J Sz31 dE _ J (Tr.load1 J J J Y31 J Z0 (by exact Reader.get_fErr (by exact rdr_ok _ _ _ _ _ _)) ?_)))))
 refine Tr.nei J J J J (show (!decide _) = false from congrArg not (decide_eq_true (rfl))) (Tr.pick J J J J J J (Tr.nil (at_n (Sat.cond_f J (rfl) (Sat.skip (at_n (Sat.seq (Sat.seq (Sat.draw [(0, 0), (0, 1), (0, 2), (0, 3), (1, 4), (0, 5), (0, 6), (0, 7), (0, 8), (1, 9), (0, 10), (0, 11), (0, 12)] Mixed zK (Tr.move J J J (Tr.move J J J (Tr.nilChk J J J (Tr.fld J J J Tryz.underlying140 J Sz39 dE _ J (Tr.load1 J J J Y39 J Z0 (by exact Reader.get_fB (by exact rdr_ok _ _ _ _ _ _)) ?_))))))))))))))
 refine Tr.lenSl J J J Y39 (Tr.move J J J (Tr.nilChk J J J (Tr.fld J J J Tryz.underlying140 J Sz3 dE _ J (Tr.load1 J J J Y3 J Z0 (by exact Reader.get_fAt (by exact rdr_ok _ _ _ _ _ _)) ?_))))
 refine Tr.sub_i64 J J J J oM (Tr.conv J J J Y3 Y22 (cv_i64_u64 _) (Tr.gtr J J J J (decide_eq_true (by rw [hwd]; omega)) ?_))
 refine Tr.nil (at_n (Sat.cond_t J (rfl) (Sat.seq (Sat.region (Tr.move J J J (Tr.nilChk J J J (Tr.fld J J J Tryz.underlying140 J Sz31 dE _ J (Tr.store1 J J J J J Sz31 Z0 (by rw [Reader.length (by exact rdr_ok _ _ _ _ _ _)]; decide) (Reader.set_fErr (by exact rdr_ok _ _ _ _ _ _) _) zU ?_))))))))
 refine Tr.nil (at_n (Sat.seq (Sat.region (Tr.assign J J J (Tr.assign J J J (Tr.nil (at_n (Sat.ret (at_r (en_r ?_))))))))))
 refine ⟨_, [RB n q N cp (at') (5)], res_tmp2 J J J, (by intro b hb; rw [List.mem_singleton.1 hb]; exact mem0), nodup1, ?_⟩
 exact ⟨rfl, rfl⟩

theorem rd_take_ok (n q N cp at' : Nat) (k : UInt64) (hat : at' ≤ N) (hN : N ≤ cp) (hbig : N ≤ 1000000) (hk : at' + k.toNat ≤ N) : Meets Tryz.prog 130 [ptr n 0, u64 k] [n] (fun W => BlkOk W (RB n q N cp (at') (0))) (fun v out => v = .tuple #[.slice (some ⟨q, if cp = at' then 0 else 0 + at' * 1, none⟩) k.toNat (cp - at'), .bool true] ∧ out = [RB n q N cp (at' + k.toNat) (0)]) := by
 intro W hW
 have hfB : (rdr n q N cp at' (0)).fB.n = N := rfl
 have hfA : (rdr n q N cp at' (0)).fAt = (at' : Int) := rfl
 have hfE : (rdr n q N cp at' (0)).fErr = (0) := rfl
 have hwd : (wordOf (((rdr n q N cp at' (0)).fB.n : Int) - (rdr n q N cp at' (0)).fAt)).toNat = N - at' := by
  rw [hfB, hfA, show ((N : Int) - (at' : Int)) = ((N - at' : Nat) : Int) by omega]; simp only [wordOf, UInt64.toNat_ofNat']; omega
 refine calls_of (hp0 := [RB n q N cp (at') (0)]) Tryz.func130 J 56 Tryz.ntmps130 J (HRep.one hW) (Sat.seq (Sat.region (Tr.assign J J J (Tr.assign J J J (Tr.nil (at_n (Sat.seq (Sat.seq (Sat.region (Tr.move J J J (Tr.callV J J J J Body205 (rd_made n) (fun w h => rb_self (own_blk h Z0)) ?_)))))))))))
 refine Tr.not J J J (Tr.move J J J (Tr.move J J J (Tr.nilChk J J J (Tr.fld J J J Tryz.underlying140 J Sz31 dE _ J (Tr.load1 J J J Y31 J Z0 (by exact Reader.get_fErr (by exact rdr_ok _ _ _ _ _ _)) ?_)))))
 refine Tr.nei J J J J (show (!decide _) = false from congrArg not (decide_eq_true (rfl))) (Tr.pick J J J J J J (Tr.nil (at_n (Sat.cond_f J (rfl) (Sat.skip (at_n (Sat.seq (Sat.seq (Sat.draw [(0, 0), (0, 1), (0, 2), (0, 3), (1, 4), (0, 5), (0, 6), (0, 7), (0, 8), (1, 9), (0, 10), (0, 11), (0, 12)] Mixed zK (Tr.move J J J (Tr.move J J J (Tr.nilChk J J J (Tr.fld J J J Tryz.underlying140 J Sz39 dE _ J (Tr.load1 J J J Y39 J Z0 (by exact Reader.get_fB (by exact rdr_ok _ _ _ _ _ _)) ?_))))))))))))))
 refine Tr.lenSl J J J Y39 (Tr.move J J J (Tr.nilChk J J J (Tr.fld J J J Tryz.underlying140 J Sz3 dE _ J (Tr.load1 J J J Y3 J Z0 (by exact Reader.get_fAt (by exact rdr_ok _ _ _ _ _ _)) ?_))))
 refine Tr.sub_i64 J J J J oM (Tr.conv J J J Y3 Y22 (cv_i64_u64 _) (Tr.gtr J J J J (decide_eq_false (by rw [hwd]; omega)) ?_))
 refine Tr.nil (at_n (Sat.cond_f J (rfl) (Sat.skip (at_n (Sat.seq (Sat.region (Tr.move J J J (Tr.nilChk J J J (Tr.fld J J J Tryz.underlying140 J Sz3 dE _ J (Tr.load1 J J J Y3 J Z0 (by exact Reader.get_fAt (by exact rdr_ok _ _ _ _ _ _)) ?_))))))))))
 refine Tr.assign J J J (Tr.nil (at_n (Sat.join (ι := Unit) (fun _u => ⟨[(0, ptr n 0), (1, u64 k), (6, i64 (at' : Int))], [⟨n, (rdr n q N cp (at' + k.toNat) 0).cells, 140, 4⟩]⟩) (fun _u => True) ?_ ?_)))
 ·
  refine Sat.region (Tr.move J J J (Tr.nilChk J J J (Tr.fld J J J Tryz.underlying140 J Sz3 dE _ J (Tr.load1 J J J Y3 J Z0 (by exact Reader.get_fAt (by exact rdr_ok _ _ _ _ _ _)) ?_))))
  refine Tr.move J J J (Tr.conv J J J Y22 Y3 (cv_u64_i64 oM) (Tr.add_i64 J J J J oM (Tr.nilChk J J J (Tr.fld J J J Tryz.underlying140 J Sz3 dE _ J (Tr.store1 J J J J J Sz3 Z0 (by rw [Reader.length (by exact rdr_ok _ _ _ _ _ _)]; decide) (Reader.set_fAt (by exact rdr_ok _ _ _ _ _ _) _) zU ?_)))))
  refine Tr.nil (at_n ?_)
  refine ⟨(), trivial, weak_of (wk1 J (wk1 J (wk1 J wk0))) (wh1 (by rw [rdr_at]; exact mem0) wh0) nD⟩
 ·
  intro _u hj
  have hfA2 : (rdr n q N cp (at' + k.toNat) 0).fAt = ((at' + k.toNat : Nat) : Int) := rfl
  have hfC2 : (rdr n q N cp (at' + k.toNat) 0).fB.c = cp := rfl
  refine Sat.seq (Sat.draw [(0, 0), (0, 1), (0, 2), (1, 3), (0, 4), (0, 5), (0, 6), (0, 7), (1, 8), (0, 9), (0, 10), (0, 11)] Mixed zK (Tr.move J J J (Tr.nilChk J J J (Tr.fld J J J Tryz.underlying140 J Sz39 dE _ J (Tr.load1 J J J Y39 J Z0 (by exact Reader.get_fB (by exact rdr_ok _ _ _ _ _ _)) ?_)))))
  refine Tr.move J J J (Tr.move J J J (Tr.nilChk J J J (Tr.fld J J J Tryz.underlying140 J Sz3 dE _ J (Tr.load1 J J J Y3 J Z0 (by exact Reader.get_fAt (by exact rdr_ok _ _ _ _ _ _)) ?_))))
  refine Tr.sliceLoHiN at' (at'+k.toNat) J J J J J J oM oM oM Y39 Sz5 (Tr.assign J J J (Tr.assign J J J (Tr.nil (at_n (Sat.ret (en_r ?_))))))
  refine ⟨_, [RB n q N cp (at' + k.toNat) (0)], res_tmp2 J J J, (by intro b hb; rw [List.mem_singleton.1 hb]; exact mem0), nodup1, ?_⟩
  exact ⟨congrArg (fun z => Value.tuple #[.slice (some ⟨q, if cp = at' then 0 else 0 + at' * 1, none⟩) z (cp - at'), .bool true]) (Nat.add_sub_cancel_left ..), rfl⟩

theorem rd_fail (n q N cp at' : Nat) (e : Int) (a : Nat) (e2 : Int) : Meets Tryz.prog 132 [ptr n 0, i64 (a : Int), i64 e2] [n] (fun W => BlkOk W (RB n q N cp at' e)) (fun v out => v = .tuple #[] ∧ out = [RB n q N cp (a) (e2)]) := by
 intro W hW
 refine calls_of (hp0 := [RB n q N cp at' e]) Tryz.func132 J 14 Tryz.ntmps132 J (HRep.one hW) (Sat.seq (Sat.region (Tr.move J J J (Tr.move J J J (Tr.nilChk J J J (Tr.fld J J J Tryz.underlying140 J Sz3 dE _ J (Tr.store1 J J J J J Sz3 Z0 (by rw [Reader.length (by exact rdr_ok _ _ _ _ _ _)]; decide) (Reader.set_fAt (by exact rdr_ok _ _ _ _ _ _) _) zU ?_)))))))
 refine Tr.nil (at_n (Sat.region (Tr.move J J J (Tr.move J J J (Tr.nilChk J J J (Tr.fld J J J Tryz.underlying140 J Sz31 dE _ J (Tr.store1 J J J J J Sz31 Z0 (by rw [Reader.length (by exact rdr_ok _ _ _ _ _ _)]; decide) (Reader.set_fErr (by exact rdr_ok _ _ _ _ _ _) _) zU ?_)))))))
 refine Tr.nil (en_n ?_)
 refine ⟨_, [RB n q N cp (a) (e2)], res_none J, (by intro b hb; rw [List.mem_singleton.1 hb]; exact mem0), nodup1, ?_⟩
 exact ⟨rfl, rfl⟩

theorem rd_take_first (n q N cp at' : Nat) (hat : at' < N) (hN : N ≤ cp) (hbig : N ≤ 1000000) : Meets Tryz.prog 130 [ptr n 0, u64 1] [n] (fun W => BlkOk W (RB n q N cp at' 0)) (fun v out => v = .tuple #[.slice (some ⟨q, at', none⟩) 1 (cp - at'), .bool true] ∧ out = [RB n q N cp (at' + 1) 0]) := by
  have := rd_take_ok n q N cp at' 1 oM hN hbig (by show at' + 1 ≤ N; omega)
  rw [if_neg oM, Nat.zero_add, Nat.mul_one] at this
  exact this

theorem rd_num_err (n q N cp at' : Nat) (e : Int) (xs : List UInt8) (hx : xs.length = N) (hat : at' ≤ N) (hN : N ≤ cp) (hbig : N ≤ 1000000) (he : ¬ e = 0) : Meets Tryz.prog 70 [ptr n 0] [n] (fun W => BlkOk W (RB n q N cp (at') (e)) ∧ Sees W q 0 (bytesV xs) ∧ q ≠ n) (fun v out => v = u64 0 ∧ out = [RB n q N cp (at') (e)]) := by
 intro W hW
 have hb8 := b8_le (xs.getD at' 0)
 have hcw := cnt_word (xs.getD at' 0)
 have hcn : (cntB (xs.getD at' 0)) = 9 - bLen (255 ^^^ (xs.getD at' 0)).toNat := rfl
 refine calls_of (hp0 := [RB n q N cp (at') (e)]) Tryz.func70 J 73 Tryz.ntmps70 J (HRep.one hW.1) (Sat.seq (Sat.region (Tr.assign J J (show evIn _ _ = some (u64 0) from rfl) (Tr.nil (at_n (Sat.seq (Sat.region (Tr.move J J J (Tr.callL (L := [RB n q N cp (at') (e)]) J J J J J Body130 (rd_take_err n q N cp at' e 1 hat hN hbig he) rem_here lO (fun w h => own_blk h Z0) ?_)))))))))
 rintro v2 out2 ⟨rfl, rfl⟩
 refine Tr.move J J J (Tr.extract J J J J (Tr.extract J J J J (Tr.assign J J J (Tr.assign J J J (Tr.nil (at_n (Sat.seq (Sat.seq (Sat.region (Tr.move J J J (Tr.not J J J (Tr.nil (at_n (Sat.cond_t J (rfl) (Sat.seq (Sat.region (Tr.assign J J (show evIn _ _ = some (u64 0) from rfl) (Tr.nil (at_n (Sat.ret (at_r (en_r ?_))))))))))))))))))))))
 refine ⟨_, [RB n q N cp (at') (e)], res_tmp J J, (by intro b hb; rw [List.mem_singleton.1 hb]; exact mem0), nodup1, ?_⟩
 exact ⟨rfl, rfl⟩

theorem rd_num_end (n q N cp at' : Nat) (xs : List UInt8) (hx : xs.length = N) (hat : at' ≤ N) (hN : N ≤ cp) (hbig : N ≤ 1000000) (hk : N ≤ at') : Meets Tryz.prog 70 [ptr n 0] [n] (fun W => BlkOk W (RB n q N cp (at') (0)) ∧ Sees W q 0 (bytesV xs) ∧ q ≠ n) (fun v out => v = u64 0 ∧ out = [RB n q N cp (at') (5)]) := by
 intro W hW
 have hb8 := b8_le (xs.getD at' 0)
 have hcw := cnt_word (xs.getD at' 0)
 have hcn : (cntB (xs.getD at' 0)) = 9 - bLen (255 ^^^ (xs.getD at' 0)).toNat := rfl
 refine calls_of (hp0 := [RB n q N cp (at') (0)]) Tryz.func70 J 73 Tryz.ntmps70 J (HRep.one hW.1) (Sat.seq (Sat.region (Tr.assign J J (show evIn _ _ = some (u64 0) from rfl) (Tr.nil (at_n (Sat.seq (Sat.region (Tr.move J J J (Tr.callL (L := [RB n q N cp (at') (0)]) J J J J J Body130 (rd_take_more n q N cp at' 1 hat hN hbig (by show N < at' + 1; omega)) rem_here lO (fun w h => own_blk h Z0) ?_)))))))))
 rintro v2 out2 ⟨rfl, rfl⟩
 refine Tr.move J J J (Tr.extract J J J J (Tr.extract J J J J (Tr.assign J J J (Tr.assign J J J (Tr.nil (at_n (Sat.seq (Sat.seq (Sat.region (Tr.move J J J (Tr.not J J J (Tr.nil (at_n (Sat.cond_t J (rfl) (Sat.seq (Sat.region (Tr.assign J J (show evIn _ _ = some (u64 0) from rfl) (Tr.nil (at_n (Sat.ret (at_r (en_r ?_))))))))))))))))))))))
 refine ⟨_, [RB n q N cp (at') (5)], res_tmp J J, (by intro b hb; rw [List.mem_singleton.1 hb]; exact mem0), nodup1, ?_⟩
 exact ⟨rfl, rfl⟩

theorem rd_num_short (n q N cp at' : Nat) (xs : List UInt8) (hx : xs.length = N) (hat : at' ≤ N) (hN : N ≤ cp) (hbig : N ≤ 1000000) (hk : at' < N) (hk2 : N < at' + (cntB (xs.getD at' 0))) : Meets Tryz.prog 70 [ptr n 0] [n] (fun W => BlkOk W (RB n q N cp (at') (0)) ∧ Sees W q 0 (bytesV xs) ∧ q ≠ n) (fun v out => v = u64 0 ∧ out = [RB n q N cp (at') (5)]) := by
 intro W hW
 have hb8 := b8_le (xs.getD at' 0)
 have hcw := cnt_word (xs.getD at' 0)
 have hcn : (cntB (xs.getD at' 0)) = 9 - bLen (255 ^^^ (xs.getD at' 0)).toNat := rfl
 refine calls_of (hp0 := [RB n q N cp (at') (0)]) Tryz.func70 J 73 Tryz.ntmps70 J (HRep.one hW.1) (Sat.seq (Sat.region (Tr.assign J J (show evIn _ _ = some (u64 0) from rfl) (Tr.nil (at_n (Sat.seq (Sat.region (Tr.move J J J (Tr.callL (L := [RB n q N cp (at') (0)]) J J J J J Body130 (rd_take_first n q N cp at' oM hN hbig) rem_here lO (fun w h => own_blk h Z0) ?_)))))))))
 rintro v2 out2 ⟨rfl, rfl⟩
 refine Tr.move J J J (Tr.extract J J J J (Tr.extract J J J J (Tr.assign J J J (Tr.assign J J J (Tr.nil (at_n (Sat.seq (Sat.seq (Sat.region (Tr.move J J J (Tr.not J J J (Tr.nil (at_n (Sat.cond_f J (rfl) (Sat.skip (at_n (Sat.join (ι := Unit) (fun _u => ⟨[(0, ptr n 0), (3, .slice (some ⟨q, at', none⟩) 1 (cp - at')), (5, i64 (at' : Int))], [⟨n, (rdr n q N cp (at' + 1) (0)).cells, 140, 4⟩]⟩) (fun _u => True) ?_ ?_)))))))))))))))))
 ·
  refine Sat.region (Tr.move J J J (Tr.nilChk J J J (Tr.fld J J J Tryz.underlying140 J Sz3 dE _ J (Tr.load1 J J J Y3 J Z0 (by exact Reader.get_fAt (by exact rdr_ok _ _ _ _ _ _)) ?_))))
  have hfA4 : (rdr n q N cp (at' + 1) 0).fAt = ((at' + 1 : Nat) : Int) := rfl
  refine Tr.sub_i64 J J J J oM (Tr.assign J J J (Tr.nil (at_n ?_)))
  refine ⟨(), trivial, weak_of (wk1 J (wk1 J (wk1 (congrArg (fun z => some (i64 z)) (show (rdr n q N cp (at' + 1) 0).fAt - 1 = (at' : Int) by simp [rdr])) wk0))) (wh1 Z0 wh0) nD⟩
 ·
  intro _u hj
  skip
  refine Sat.seq (Sat.region (Tr.move J J J (Tr.idxSlO J J J J Y39 Sz5 0 J oM (Tr.loadE J J J Y5 J (by (simp; exact hW.2.2)) ((by have := hW.2.1 at' _ (get_bytes oM); rwa [Nat.zero_add] at this)) ?_))))
  refine Tr.not_u8 J J J (Tr.callV J J J J Body131 (bits_lz8 _) (fun _ _ => trivial) (Tr.add_i64 J J J J oM (Tr.assign J J J (Tr.nil (at_n (Sat.seq (Sat.region (Tr.move J J J (Tr.move J J J (Tr.sub_i64 J J J J oM (Tr.conv J J J Y3 Y22 (cv_i64_u64 _) (Tr.callL (L := [RB n q N cp (at' + 1) (0)]) J J J J J Body130 (rd_take_more n q N cp (at' + 1) (wordOf (8 - ((bLen (255 ^^^ (xs.getD at' 0)).toNat : Nat) : Int) + 1 - 1)) oM hN hbig (by rw [hcw]; omega)) rem_here lO (fun w h => own_blk h Z0) ?_))))))))))))
  rintro v2 out2 ⟨rfl, rfl⟩
  refine Tr.move J J J (Tr.extract J J J J (Tr.extract J J J J (Tr.assign J J J (Tr.assign J J J (Tr.nil (at_n (Sat.seq (Sat.seq (Sat.region (Tr.move J J J (Tr.not J J J (Tr.nil (at_n (Sat.cond_t J (rfl) (Sat.seq (Sat.region (Tr.move J J J (Tr.move J J J (Tr.move J J J (Tr.nilChk J J J (Tr.fld J J J Tryz.underlying140 J Sz31 dE _ J (Tr.load1 J J J Y31 J Z0 (by exact Reader.get_fErr (by exact rdr_ok _ _ _ _ _ _)) ?_))))))))))))))))))))))
  refine Tr.callL (L := [RB n q N cp (at' + 1) (5)]) J J J J J Body132 (rd_fail n q N cp (at' + 1) 5 at' 5) rem_here lO (fun w h => own_blk h Z0) ?_
  rintro v2 out2 ⟨rfl, rfl⟩
  refine Tr.nil (at_n (Sat.seq (Sat.region (Tr.assign J J (show evIn _ _ = some (u64 0) from rfl) (Tr.nil (at_n (Sat.ret (at_r (en_r ?_)))))))))
  refine ⟨_, [RB n q N cp (at') (5)], res_tmp J J, (by intro b hb; rw [List.mem_singleton.1 hb]; exact mem0), nodup1, ?_⟩
  exact ⟨rfl, rfl⟩

theorem rd_num_bad (n q N cp at' : Nat) (xs : List UInt8) (hx : xs.length = N) (hat : at' ≤ N) (hN : N ≤ cp) (hbig : N ≤ 1000000) (hk2 : at' + (cntB (xs.getD at' 0)) ≤ N) (hz : ¬ szN (numV xs at').toNat = (cntB (xs.getD at' 0))) : Meets Tryz.prog 70 [ptr n 0] [n] (fun W => BlkOk W (RB n q N cp (at') (0)) ∧ Sees W q 0 (bytesV xs) ∧ q ≠ n) (fun v out => v = u64 0 ∧ out = [RB n q N cp (at') (4)]) := by
 intro W hW
 have hb8 := b8_le (xs.getD at' 0)
 have hcw := cnt_word (xs.getD at' 0)
 have hcn : (cntB (xs.getD at' 0)) = 9 - bLen (255 ^^^ (xs.getD at' 0)).toNat := rfl
 refine calls_of (hp0 := [RB n q N cp (at') (0)]) Tryz.func70 J 73 Tryz.ntmps70 J (HRep.one hW.1) (Sat.seq (Sat.region (Tr.assign J J (show evIn _ _ = some (u64 0) from rfl) (Tr.nil (at_n (Sat.seq (Sat.region (Tr.move J J J (Tr.callL (L := [RB n q N cp (at') (0)]) J J J J J Body130 (rd_take_first n q N cp at' oM hN hbig) rem_here lO (fun w h => own_blk h Z0) ?_)))))))))
 rintro v2 out2 ⟨rfl, rfl⟩
 refine Tr.move J J J (Tr.extract J J J J (Tr.extract J J J J (Tr.assign J J J (Tr.assign J J J (Tr.nil (at_n (Sat.seq (Sat.seq (Sat.region (Tr.move J J J (Tr.not J J J (Tr.nil (at_n (Sat.cond_f J (rfl) (Sat.skip (at_n (Sat.join (ι := Unit) (fun _u => ⟨[(0, ptr n 0), (3, .slice (some ⟨q, at', none⟩) 1 (cp - at')), (5, i64 (at' : Int))], [⟨n, (rdr n q N cp (at' + 1) (0)).cells, 140, 4⟩]⟩) (fun _u => True) ?_ ?_)))))))))))))))))
 ·
  refine Sat.region (Tr.move J J J (Tr.nilChk J J J (Tr.fld J J J Tryz.underlying140 J Sz3 dE _ J (Tr.load1 J J J Y3 J Z0 (by exact Reader.get_fAt (by exact rdr_ok _ _ _ _ _ _)) ?_))))
  have hfA4 : (rdr n q N cp (at' + 1) 0).fAt = ((at' + 1 : Nat) : Int) := rfl
  refine Tr.sub_i64 J J J J oM (Tr.assign J J J (Tr.nil (at_n ?_)))
  refine ⟨(), trivial, weak_of (wk1 J (wk1 J (wk1 (congrArg (fun z => some (i64 z)) (show (rdr n q N cp (at' + 1) 0).fAt - 1 = (at' : Int) by simp [rdr])) wk0))) (wh1 Z0 wh0) nD⟩
 ·
  intro _u hj
  skip
  refine Sat.seq (Sat.region (Tr.move J J J (Tr.idxSlO J J J J Y39 Sz5 0 J oM (Tr.loadE J J J Y5 J (by (simp; exact hW.2.2)) ((by have := hW.2.1 at' _ (get_bytes oM); rwa [Nat.zero_add] at this)) ?_))))
  refine Tr.not_u8 J J J (Tr.callV J J J J Body131 (bits_lz8 _) (fun _ _ => trivial) (Tr.add_i64 J J J J oM (Tr.assign J J J (Tr.nil (at_n (Sat.seq (Sat.region (Tr.move J J J (Tr.move J J J (Tr.sub_i64 J J J J oM (Tr.conv J J J Y3 Y22 (cv_i64_u64 _) (Tr.callL (L := [RB n q N cp (at' + 1) (0)]) J J J J J Body130 (rd_take_ok n q N cp (at' + 1) (wordOf (8 - ((bLen (255 ^^^ (xs.getD at' 0)).toNat : Nat) : Int) + 1 - 1)) oM hN hbig (by rw [hcw]; omega)) rem_here lO (fun w h => own_blk h Z0) ?_))))))))))))
  rintro v2 out2 ⟨rfl, rfl⟩
  refine Tr.move J J J (Tr.extract J J J J (Tr.extract J J J J (Tr.assign J J J (Tr.assign J J J (Tr.nil (at_n (Sat.seq (Sat.seq (Sat.region (Tr.move J J J (Tr.not J J J (Tr.nil (at_n (Sat.cond_f J (rfl) (Sat.skip (at_n (Sat.join (ι := Unit) (fun _u => ⟨[(0, ptr n 0), (5, i64 (at' : Int)), (6, i64 (8 - ((bLen (255 ^^^ (xs.getD at' 0)).toNat : Nat) : Int) + 1)), (7, .slice (some ⟨q, if cp = at' + 1 then 0 else 0 + (at' + 1) * 1, none⟩) (wordOf (8 - ((bLen (255 ^^^ (xs.getD at' 0)).toNat : Nat) : Int) + 1 - 1)).toNat (cp - (at' + 1))), (8, u64 (foldB (headV (xs.getD at' 0)) ((xs.drop (at' + 1)).take 0)))], [⟨n, (rdr n q N cp (at' + 1 + (wordOf (8 - ((bLen (255 ^^^ (xs.getD at' 0)).toNat : Nat) : Int) + 1 - 1)).toNat) (0)).cells, 140, 4⟩]⟩) (fun _u => True) ?_ ?_)))))))))))))))))
  ·
   refine Sat.draw [(0, 0), (0, 1), (1, 2), (0, 3), (0, 4), (0, 5), (0, 6), (0, 7)] Mixed zK (Tr.move J J J (Tr.idxSlO J J J J Y39 Sz5 0 J oM (Tr.loadE J J J Y5 J (by (simp; exact hW.2.2)) ((by have := hW.2.1 at' _ (get_bytes oM); rwa [Nat.zero_add] at this)) ?_)))
   refine Tr.move J J J (Tr.shr_u8w J J (show evIn _ _ = some (u8 255) from rfl) J (cntB (xs.getD at' 0)) oM (Tr.and_u8 J J J J (Tr.conv J J J Y5 Y22 (cv_u8_u64 _) (Tr.assign J J J (Tr.nil (at_n ?_))))))
   refine ⟨(), trivial, weak_of (wk1 J (wk1 J (wk1 J (wk1 J (wk1 J wk0))))) (wh1 Z0 wh0) nD⟩
  ·
   intro _u hj
   skip
   refine Sat.seq (Sat.seq (Sat.region (Tr.move J J J (Tr.lenSl J J J Y39 (Tr.move J J J (Tr.nil (at_n (Sat.block (Sat.loop (ι := Nat) (fun j => ⟨[(0, ptr n 0), (5, i64 (at' : Int)), (6, i64 (8 - ((bLen (255 ^^^ (xs.getD at' 0)).toNat : Nat) : Int) + 1)), (53, .slice (some ⟨q, if cp = at' + 1 then 0 else 0 + (at' + 1) * 1, none⟩) (wordOf (8 - ((bLen (255 ^^^ (xs.getD at' 0)).toNat : Nat) : Int) + 1 - 1)).toNat (cp - (at' + 1))), (54, i64 ((wordOf (8 - ((bLen (255 ^^^ (xs.getD at' 0)).toNat : Nat) : Int) + 1 - 1)).toNat : Int)), (55, i64 (j : Int)), (8, u64 (foldB (headV (xs.getD at' 0)) ((xs.drop (at' + 1)).take j)))], [⟨n, (rdr n q N cp (at' + 1 + (wordOf (8 - ((bLen (255 ^^^ (xs.getD at' 0)).toNat : Nat) : Int) + 1 - 1)).toNat) (0)).cells, 140, 4⟩]⟩) (fun j => j ≤ (wordOf (8 - ((bLen (255 ^^^ (xs.getD at' 0)).toNat : Nat) : Int) + 1 - 1)).toNat) (fun j => (wordOf (8 - ((bLen (255 ^^^ (xs.getD at' 0)).toNat : Nat) : Int) + 1 - 1)).toNat - j) (0) ?_ ?_ ?_)))))))))
   · exact Nat.zero_le _
   · exact weak_of (wk1 rfl (wk1 rfl (wk1 rfl (wk1 rfl (wk1 rfl (wk1 rfl (wk1 rfl wk0))))))) (wh1 Z0 wh0) nD
   ·
    rintro j hj
    refine Sat.seq (Sat.region (Tr.lss J J J J J (Tr.nil (at_n (Sat.seq (Sat.condP J (fun hc2 => ?_) (fun hc2 => ?_)))))))
    ·
     have hj2 : j < (wordOf (8 - ((bLen (255 ^^^ (xs.getD at' 0)).toNat : Nat) : Int) + 1 - 1)).toNat := by omega
     refine Sat.skip (at_n (Sat.seq (Sat.block (Sat.seq (Sat.region (Tr.idxSlO J J J J Y39 Sz5 _ J oM (Tr.loadE J J J Y5 J (by (simp; exact hW.2.2)) ((by have h9 := hW.2.1 (at' + 1 + j) _ (get_bytes oM); rw [if_neg oM]; rw [Nat.zero_add] at h9; rw [show 0 + (at' + 1) * 1 + j = at' + 1 + j by omega]; exact h9)) ?_)))))))
     refine Tr.assign J J J (Tr.nil (at_n (Sat.region (Tr.move J J J (Tr.shl_u64 J J J J 8 J dE (Tr.move J J J (Tr.conv J J J Y5 Y22 (cv_u8_u64 _) (Tr.or_u64 J J J J (Tr.assign J J J (Tr.nil (bl_n (at_n (Sat.region (Tr.add_i64 J J J J oM (Tr.move J J J (Tr.nil (at_n ?_)))))))))))))))))
     exact ⟨j + 1, by omega, by omega, weak_of (wk1 rfl (wk1 rfl (wk1 rfl (wk1 rfl (wk1 rfl (wk1 rfl (wk1 (by rw [foldB_step xs (at' + 1) j _ oM]; rfl) wk0))))))) (wh1 Z0 wh0) nD⟩
    ·
     have hj2 : j = (cntB (xs.getD at' 0)) - 1 := by omega
     refine Sat.exit (at_x (at_x (bl_h (at_n (Sat.seq (Sat.seq (Sat.region ?_)))))))
     have hnv : numV xs at' = foldB (headV (xs.getD at' 0)) ((xs.drop (at' + 1)).take j) := by rw [numV, hj2]

     refine Tr.move J J J (Tr.callV J J J J Body133 (oct_size _) (fun _ _ => trivial) (Tr.move J J J (Tr.nei J J J J (show (!decide _) = true from congrArg not (decide_eq_false (by rw [← hnv]; omega))) ?_)))
     refine Tr.nil (at_n (Sat.cond_t J (rfl) (Sat.seq (Sat.region (Tr.move J J J (Tr.move J J J (Tr.callL (L := [RB n q N cp (at' + 1 + (wordOf (8 - ((bLen (255 ^^^ (xs.getD at' 0)).toNat : Nat) : Int) + 1 - 1)).toNat) (0)]) J J J J J Body132 (rd_fail n q N cp (at' + 1 + (wordOf (8 - ((bLen (255 ^^^ (xs.getD at' 0)).toNat : Nat) : Int) + 1 - 1)).toNat) 0 at' 4) rem_here lO (fun w h => own_blk h Z0) ?_)))))))
     rintro v2 out2 ⟨rfl, rfl⟩
     refine Tr.nil (at_n (Sat.seq (Sat.region (Tr.assign J J (show evIn _ _ = some (u64 0) from rfl) (Tr.nil (at_n (Sat.ret (at_r (en_r ?_)))))))))
     refine ⟨_, [RB n q N cp (at') (4)], res_tmp J J, (by intro b hb; rw [List.mem_singleton.1 hb]; exact mem0), nodup1, ?_⟩
     exact ⟨rfl, rfl⟩

theorem rd_num_ok (n q N cp at' : Nat) (xs : List UInt8) (hx : xs.length = N) (hat : at' ≤ N) (hN : N ≤ cp) (hbig : N ≤ 1000000) (hk2 : at' + (cntB (xs.getD at' 0)) ≤ N) (hz : szN (numV xs at').toNat = (cntB (xs.getD at' 0))) : Meets Tryz.prog 70 [ptr n 0] [n] (fun W => BlkOk W (RB n q N cp (at') (0)) ∧ Sees W q 0 (bytesV xs) ∧ q ≠ n) (fun v out => v = u64 (numV xs at') ∧ out = [RB n q N cp (at' + (cntB (xs.getD at' 0))) (0)]) := by
 intro W hW
 have hb8 := b8_le (xs.getD at' 0)
 have hcw := cnt_word (xs.getD at' 0)
 have hcn : (cntB (xs.getD at' 0)) = 9 - bLen (255 ^^^ (xs.getD at' 0)).toNat := rfl
 refine calls_of (hp0 := [RB n q N cp (at') (0)]) Tryz.func70 J 73 Tryz.ntmps70 J (HRep.one hW.1) (Sat.seq (Sat.region (Tr.assign J J (show evIn _ _ = some (u64 0) from rfl) (Tr.nil (at_n (Sat.seq (Sat.region (Tr.move J J J (Tr.callL (L := [RB n q N cp (at') (0)]) J J J J J Body130 (rd_take_first n q N cp at' oM hN hbig) rem_here lO (fun w h => own_blk h Z0) ?_)))))))))
 rintro v2 out2 ⟨rfl, rfl⟩
 refine Tr.move J J J (Tr.extract J J J J (Tr.extract J J J J (Tr.assign J J J (Tr.assign J J J (Tr.nil (at_n (Sat.seq (Sat.seq (Sat.region (Tr.move J J J (Tr.not J J J (Tr.nil (at_n (Sat.cond_f J (rfl) (Sat.skip (at_n (Sat.join (ι := Unit) (fun _u => ⟨[(0, ptr n 0), (3, .slice (some ⟨q, at', none⟩) 1 (cp - at')), (5, i64 (at' : Int))], [⟨n, (rdr n q N cp (at' + 1) (0)).cells, 140, 4⟩]⟩) (fun _u => True) ?_ ?_)))))))))))))))))
 ·
  refine Sat.region (Tr.move J J J (Tr.nilChk J J J (Tr.fld J J J Tryz.underlying140 J Sz3 dE _ J (Tr.load1 J J J Y3 J Z0 (by exact Reader.get_fAt (by exact rdr_ok _ _ _ _ _ _)) ?_))))
  have hfA4 : (rdr n q N cp (at' + 1) 0).fAt = ((at' + 1 : Nat) : Int) := rfl
  refine Tr.sub_i64 J J J J oM (Tr.assign J J J (Tr.nil (at_n ?_)))
  refine ⟨(), trivial, weak_of (wk1 J (wk1 J (wk1 (congrArg (fun z => some (i64 z)) (show (rdr n q N cp (at' + 1) 0).fAt - 1 = (at' : Int) by simp [rdr])) wk0))) (wh1 Z0 wh0) nD⟩
 ·
  intro _u hj
  skip
  refine Sat.seq (Sat.region (Tr.move J J J (Tr.idxSlO J J J J Y39 Sz5 0 J oM (Tr.loadE J J J Y5 J (by (simp; exact hW.2.2)) ((by have := hW.2.1 at' _ (get_bytes oM); rwa [Nat.zero_add] at this)) ?_))))
  refine Tr.not_u8 J J J (Tr.callV J J J J Body131 (bits_lz8 _) (fun _ _ => trivial) (Tr.add_i64 J J J J oM (Tr.assign J J J (Tr.nil (at_n (Sat.seq (Sat.region (Tr.move J J J (Tr.move J J J (Tr.sub_i64 J J J J oM (Tr.conv J J J Y3 Y22 (cv_i64_u64 _) (Tr.callL (L := [RB n q N cp (at' + 1) (0)]) J J J J J Body130 (rd_take_ok n q N cp (at' + 1) (wordOf (8 - ((bLen (255 ^^^ (xs.getD at' 0)).toNat : Nat) : Int) + 1 - 1)) oM hN hbig (by rw [hcw]; omega)) rem_here lO (fun w h => own_blk h Z0) ?_))))))))))))
  rintro v2 out2 ⟨rfl, rfl⟩
  refine Tr.move J J J (Tr.extract J J J J (Tr.extract J J J J (Tr.assign J J J (Tr.assign J J J (Tr.nil (at_n (Sat.seq (Sat.seq (Sat.region (Tr.move J J J (Tr.not J J J (Tr.nil (at_n (Sat.cond_f J (rfl) (Sat.skip (at_n (Sat.join (ι := Unit) (fun _u => ⟨[(0, ptr n 0), (5, i64 (at' : Int)), (6, i64 (8 - ((bLen (255 ^^^ (xs.getD at' 0)).toNat : Nat) : Int) + 1)), (7, .slice (some ⟨q, if cp = at' + 1 then 0 else 0 + (at' + 1) * 1, none⟩) (wordOf (8 - ((bLen (255 ^^^ (xs.getD at' 0)).toNat : Nat) : Int) + 1 - 1)).toNat (cp - (at' + 1))), (8, u64 (foldB (headV (xs.getD at' 0)) ((xs.drop (at' + 1)).take 0)))], [⟨n, (rdr n q N cp (at' + 1 + (wordOf (8 - ((bLen (255 ^^^ (xs.getD at' 0)).toNat : Nat) : Int) + 1 - 1)).toNat) (0)).cells, 140, 4⟩]⟩) (fun _u => True) ?_ ?_)))))))))))))))))
  ·
   refine Sat.draw [(0, 0), (0, 1), (1, 2), (0, 3), (0, 4), (0, 5), (0, 6), (0, 7)] Mixed zK (Tr.move J J J (Tr.idxSlO J J J J Y39 Sz5 0 J oM (Tr.loadE J J J Y5 J (by (simp; exact hW.2.2)) ((by have := hW.2.1 at' _ (get_bytes oM); rwa [Nat.zero_add] at this)) ?_)))
   refine Tr.move J J J (Tr.shr_u8w J J (show evIn _ _ = some (u8 255) from rfl) J (cntB (xs.getD at' 0)) oM (Tr.and_u8 J J J J (Tr.conv J J J Y5 Y22 (cv_u8_u64 _) (Tr.assign J J J (Tr.nil (at_n ?_))))))
   refine ⟨(), trivial, weak_of (wk1 J (wk1 J (wk1 J (wk1 J (wk1 J wk0))))) (wh1 Z0 wh0) nD⟩
  ·
   intro _u hj
   skip
   refine Sat.seq (Sat.seq (Sat.region (Tr.move J J J (Tr.lenSl J J J Y39 (Tr.move J J J (Tr.nil (at_n (Sat.block (Sat.loop (ι := Nat) (fun j => ⟨[(0, ptr n 0), (5, i64 (at' : Int)), (6, i64 (8 - ((bLen (255 ^^^ (xs.getD at' 0)).toNat : Nat) : Int) + 1)), (53, .slice (some ⟨q, if cp = at' + 1 then 0 else 0 + (at' + 1) * 1, none⟩) (wordOf (8 - ((bLen (255 ^^^ (xs.getD at' 0)).toNat : Nat) : Int) + 1 - 1)).toNat (cp - (at' + 1))), (54, i64 ((wordOf (8 - ((bLen (255 ^^^ (xs.getD at' 0)).toNat : Nat) : Int) + 1 - 1)).toNat : Int)), (55, i64 (j : Int)), (8, u64 (foldB (headV (xs.getD at' 0)) ((xs.drop (at' + 1)).take j)))], [⟨n, (rdr n q N cp (at' + 1 + (wordOf (8 - ((bLen (255 ^^^ (xs.getD at' 0)).toNat : Nat) : Int) + 1 - 1)).toNat) (0)).cells, 140, 4⟩]⟩) (fun j => j ≤ (wordOf (8 - ((bLen (255 ^^^ (xs.getD at' 0)).toNat : Nat) : Int) + 1 - 1)).toNat) (fun j => (wordOf (8 - ((bLen (255 ^^^ (xs.getD at' 0)).toNat : Nat) : Int) + 1 - 1)).toNat - j) (0) ?_ ?_ ?_)))))))))
   · exact Nat.zero_le _
   · exact weak_of (wk1 rfl (wk1 rfl (wk1 rfl (wk1 rfl (wk1 rfl (wk1 rfl (wk1 rfl wk0))))))) (wh1 Z0 wh0) nD
   ·
    rintro j hj
    refine Sat.seq (Sat.region (Tr.lss J J J J J (Tr.nil (at_n (Sat.seq (Sat.condP J (fun hc2 => ?_) (fun hc2 => ?_)))))))
    ·
     have hj2 : j < (wordOf (8 - ((bLen (255 ^^^ (xs.getD at' 0)).toNat : Nat) : Int) + 1 - 1)).toNat := by omega
     refine Sat.skip (at_n (Sat.seq (Sat.block (Sat.seq (Sat.region (Tr.idxSlO J J J J Y39 Sz5 _ J oM (Tr.loadE J J J Y5 J (by (simp; exact hW.2.2)) ((by have h9 := hW.2.1 (at' + 1 + j) _ (get_bytes oM); rw [if_neg oM]; rw [Nat.zero_add] at h9; rw [show 0 + (at' + 1) * 1 + j = at' + 1 + j by omega]; exact h9)) ?_)))))))
     refine Tr.assign J J J (Tr.nil (at_n (Sat.region (Tr.move J J J (Tr.shl_u64 J J J J 8 J dE (Tr.move J J J (Tr.conv J J J Y5 Y22 (cv_u8_u64 _) (Tr.or_u64 J J J J (Tr.assign J J J (Tr.nil (bl_n (at_n (Sat.region (Tr.add_i64 J J J J oM (Tr.move J J J (Tr.nil (at_n ?_)))))))))))))))))
     exact ⟨j + 1, by omega, by omega, weak_of (wk1 rfl (wk1 rfl (wk1 rfl (wk1 rfl (wk1 rfl (wk1 rfl (wk1 (by rw [foldB_step xs (at' + 1) j _ oM]; rfl) wk0))))))) (wh1 Z0 wh0) nD⟩
    ·
     have hj2 : j = (cntB (xs.getD at' 0)) - 1 := by omega
     refine Sat.exit (at_x (at_x (bl_h (at_n (Sat.seq (Sat.seq (Sat.region ?_)))))))
     have hnv : numV xs at' = foldB (headV (xs.getD at' 0)) ((xs.drop (at' + 1)).take j) := by rw [numV, hj2]

     refine Tr.move J J J (Tr.callV J J J J Body133 (oct_size _) (fun _ _ => trivial) (Tr.move J J J (Tr.nei J J J J (show (!decide _) = false from congrArg not (decide_eq_true (by rw [← hnv, hz]; omega))) ?_)))
     refine Tr.nil (at_n (Sat.cond_f J (rfl) (Sat.skip (at_n (Sat.seq (Sat.region (Tr.move J J J (Tr.assign J J J (Tr.nil (at_n (Sat.ret (en_r ?_))))))))))))
     refine ⟨_, [RB n q N cp (at' + (cntB (xs.getD at' 0))) (0)], res_tmp J J, (by intro b hb; rw [List.mem_singleton.1 hb, show at' + (cntB (xs.getD at' 0)) = at' + 1 + (wordOf (8 - ((bLen (255 ^^^ (xs.getD at' 0)).toNat : Nat) : Int) + 1 - 1)).toNat by rw [hcw]; omega]; exact mem0), nodup1, ?_⟩
     exact ⟨by rw [hnv], rfl⟩

theorem rd_take_pos (n q N cp at' : Nat) (k : UInt64) (hN : N ≤ cp) (hbig : N ≤ 1000000) (hk : at' + k.toNat ≤ N) (hk0 : 0 < k.toNat) : Meets Tryz.prog 130 [ptr n 0, u64 k] [n] (fun W => BlkOk W (RB n q N cp at' 0)) (fun v out => v = .tuple #[.slice (some ⟨q, at', none⟩) k.toNat (cp - at'), .bool true] ∧ out = [RB n q N cp (at' + k.toNat) 0]) := by
  have := rd_take_ok n q N cp at' k oM hN hbig hk
  rw [if_neg oM, Nat.zero_add, Nat.mul_one] at this
  exact this
/-- what Number reads: the number, where the reader then stands, its error -/
def numR (xs : List UInt8) (a : Nat) (e : Int) : UInt64 × Nat × Int :=
  if ¬ e = 0 then (0, a, e) else if xs.length ≤ a then (0, a, 5) else if xs.length < a + cntB (xs.getD a 0) then (0, a, 5) else if szN (numV xs a).toNat = cntB (xs.getD a 0) then (numV xs a, a + cntB (xs.getD a 0), 0) else (0, a, 4)
theorem numR_at (xs : List UInt8) (a : Nat) (e : Int) (h : a ≤ xs.length) : (numR xs a e).2.1 ≤ xs.length := by
  unfold numR
  split
  · exact h
  split
  · exact h
  split
  · exact h
  split
  · simp only; omega
  · exact h
theorem rd_Number (n q N cp at' : Nat) (e : Int) (xs : List UInt8) (hx : xs.length = N) (hat : at' ≤ N) (hN : N ≤ cp) (hbig : N ≤ 1000000) : Meets Tryz.prog 70 [ptr n 0] [n] (fun W => BlkOk W (RB n q N cp at' e) ∧ Sees W q 0 (bytesV xs) ∧ q ≠ n)
    (fun v out => v = u64 (numR xs at' e).1 ∧ out = [RB n q N cp (numR xs at' e).2.1 (numR xs at' e).2.2]) := by
  unfold numR
  by_cases he : e = 0
  · subst he
    rw [if_neg sP]
    by_cases h1 : xs.length ≤ at'
    · rw [if_pos h1]; exact rd_num_end n q N cp at' xs hx hat hN hbig oM
    · rw [if_neg h1]
      by_cases h2 : xs.length < at' + cntB (xs.getD at' 0)
      · rw [if_pos h2]; exact rd_num_short n q N cp at' xs hx hat hN hbig oM oM
      · rw [if_neg h2]
        by_cases h3 : szN (numV xs at').toNat = cntB (xs.getD at' 0)
        · rw [if_pos h3]; exact rd_num_ok n q N cp at' xs hx hat hN hbig oM h3
        · rw [if_neg h3]; exact rd_num_bad n q N cp at' xs hx hat hN hbig oM h3
  · rw [if_pos he]; exact rd_num_err n q N cp at' e xs hx hat hN hbig he

theorem rd_dig_err (n q N cp at' : Nat) (e : Int) (xs : List UInt8) (hx : xs.length = N) (hat : at' ≤ N) (hN : N ≤ cp) (hbig : N ≤ 1000000) (he : ¬ e = 0) : Meets Tryz.prog 71 [ptr n 0] [n] (fun W => BlkOk W (RB n q N cp (at') (e)) ∧ Sees W q 0 (bytesV xs) ∧ q ≠ n) (fun v out => v = agg (bytesV (List.replicate 32 0)) ∧ out = [RB n q N cp (at') (e)]) := by
 intro W hW
 refine calls_of (hp0 := [RB n q N cp (at') (e)]) Tryz.func71 J 16 Tryz.ntmps71 J (HRep.one hW.1) (Sat.seq (Sat.region (Tr.alloc (cs := (bytesV (List.replicate 32 0))) J Zr24 J ?_)))
 intro n2 hn2 hf2
 refine Tr.nil (at_n (Sat.seq (Sat.region (Tr.move J J J (Tr.callL (L := [RB n q N cp (at') (e)]) J J J J J Body130 (rd_take_err n q N cp at' e 32 hat hN hbig he) (rem_there rem_here) lO (fun w h => own_blk h Z1) ?_)))))
 rintro v2 out2 ⟨rfl, rfl⟩
 refine Tr.move J J J (Tr.extract J J J J (Tr.extract J J J J (Tr.assign J J J (Tr.assign J J J (Tr.nil (at_n (Sat.seq (Sat.seq (Sat.region (Tr.move J J J (Tr.not J J J (Tr.nil (at_n (Sat.cond_t J (rfl) (Sat.seq (Sat.region (Tr.build (cs := bytesV (List.replicate 32 0)) J J J (fun w => by kernel_rfl) ?_)))))))))))))))))
 refine Tr.storeAll J J J J zE Sz24 sP Z1 sP zV ?_
 refine Tr.nil (at_n (Sat.ret (at_r (en_r ?_))))
 refine ⟨_, [RB n q N cp (at') (e)], res_cell J J Y24 J Sz24 Z1 sP, (by intro b hb; rw [List.mem_singleton.1 hb]; exact mem0), nodup1, ?_⟩
 exact ⟨rfl, rfl⟩

theorem rd_dig_more (n q N cp at' : Nat) (xs : List UInt8) (hx : xs.length = N) (hat : at' ≤ N) (hN : N ≤ cp) (hbig : N ≤ 1000000) (hk : N < at' + 32) : Meets Tryz.prog 71 [ptr n 0] [n] (fun W => BlkOk W (RB n q N cp (at') (0)) ∧ Sees W q 0 (bytesV xs) ∧ q ≠ n) (fun v out => v = agg (bytesV (List.replicate 32 0)) ∧ out = [RB n q N cp (at') (5)]) := by
 intro W hW
 refine calls_of (hp0 := [RB n q N cp (at') (0)]) Tryz.func71 J 16 Tryz.ntmps71 J (HRep.one hW.1) (Sat.seq (Sat.region (Tr.alloc (cs := (bytesV (List.replicate 32 0))) J Zr24 J ?_)))
 intro n2 hn2 hf2
 refine Tr.nil (at_n (Sat.seq (Sat.region (Tr.move J J J (Tr.callL (L := [RB n q N cp (at') (0)]) J J J J J Body130 (rd_take_more n q N cp at' 32 hat hN hbig hk) (rem_there rem_here) lO (fun w h => own_blk h Z1) ?_)))))
 rintro v2 out2 ⟨rfl, rfl⟩
 refine Tr.move J J J (Tr.extract J J J J (Tr.extract J J J J (Tr.assign J J J (Tr.assign J J J (Tr.nil (at_n (Sat.seq (Sat.seq (Sat.region (Tr.move J J J (Tr.not J J J (Tr.nil (at_n (Sat.cond_t J (rfl) (Sat.seq (Sat.region (Tr.build (cs := bytesV (List.replicate 32 0)) J J J (fun w => by kernel_rfl) ?_)))))))))))))))))
 refine Tr.storeAll J J J J zE Sz24 sP Z1 sP zV ?_
 refine Tr.nil (at_n (Sat.ret (at_r (en_r ?_))))
 refine ⟨_, [RB n q N cp (at') (5)], res_cell J J Y24 J Sz24 Z1 sP, (by intro b hb; rw [List.mem_singleton.1 hb]; exact mem0), nodup1, ?_⟩
 exact ⟨rfl, rfl⟩

theorem sees_cut {w : World} {q : Nat} {xs : List UInt8} (h : Sees w q 0 (bytesV xs)) (a k : Nat) : Sees w q a (bytesV ((xs.drop a).take k)) := fun j v hj => by
  simp only [bytesV, List.map_take, List.map_drop, List.getElem?_take] at hj
  split at hj
  · rw [List.getElem?_drop] at hj
    have := h (a + j) v hj
    rwa [Nat.zero_add] at this
  · cases hj

theorem rd_dig_ok (n q N cp at' : Nat) (xs : List UInt8) (hx : xs.length = N) (hat : at' ≤ N) (hN : N ≤ cp) (hbig : N ≤ 1000000) (hk : at' + 32 ≤ N) : Meets Tryz.prog 71 [ptr n 0] [n] (fun W => BlkOk W (RB n q N cp (at') (0)) ∧ Sees W q 0 (bytesV xs) ∧ q ≠ n) (fun v out => v = agg (bytesV ((xs.drop at').take 32)) ∧ out = [RB n q N cp (at' + 32) (0)]) := by
 intro W hW
 have hdl : ((xs.drop at').take 32).length = 32 := by simp; omega
 refine calls_of (hp0 := [RB n q N cp (at') (0)]) Tryz.func71 J 16 Tryz.ntmps71 J (HRep.one hW.1) (Sat.seq (Sat.region (Tr.alloc (cs := (bytesV (List.replicate 32 0))) J Zr24 J ?_)))
 intro n2 hn2 hf2
 refine Tr.nil (at_n (Sat.seq (Sat.region (Tr.move J J J (Tr.callL (L := [RB n q N cp (at') (0)]) J J J J J Body130 (rd_take_pos n q N cp at' 32 hN hbig hk dE) (rem_there rem_here) lO (fun w h => own_blk h Z1) ?_)))))
 rintro v2 out2 ⟨rfl, rfl⟩
 refine Tr.move J J J (Tr.extract J J J J (Tr.extract J J J J (Tr.assign J J J (Tr.assign J J J (Tr.nil (at_n (Sat.seq (Sat.seq (Sat.region (Tr.move J J J (Tr.not J J J (Tr.nil (at_n (Sat.cond_f J (rfl) (Sat.skip (at_n (Sat.seq (Sat.region (Tr.move J J J (Tr.s2a J J J Y24 dE (Tr.loadEN (bytesV ((xs.drop at').take 32)) J J J Y24 J Sz24 (by simp; exact hW.2.2) (by rw [bytesV, List.length_map]; exact hdl) (sees_cut hW.2.1 at' 32) ?_)))))))))))))))))))))
 refine Tr.storeAll J J J J zE Sz24 (by (rw [bytesV, List.length_map]; assumption)) Z1 sP zV ?_
 refine Tr.nil (at_n (Sat.ret (en_r ?_)))
 refine ⟨_, [RB n q N cp (at' + 32) (0)], res_cell J J Y24 J Sz24 Z1 (by rw [bytesV, List.length_map]; exact hdl), (by intro b hb; rw [List.mem_singleton.1 hb]; exact mem0), nodup1, ?_⟩
 exact ⟨rfl, rfl⟩

def digR (xs : List UInt8) (a : Nat) (e : Int) : List UInt8 × Nat × Int :=
  if ¬ e = 0 then (List.replicate 32 0, a, e) else if xs.length < a + 32 then (List.replicate 32 0, a, 5) else ((xs.drop a).take 32, a + 32, 0)
theorem digR_at (xs : List UInt8) (a : Nat) (e : Int) (h : a ≤ xs.length) : (digR xs a e).2.1 ≤ xs.length ∧ (digR xs a e).1.length = 32 := by
  unfold digR
  split
  · exact ⟨h, rfl⟩
  split
  · exact ⟨h, rfl⟩
  · exact ⟨by simp only; omega, by simp; omega⟩
theorem rd_Digest (n q N cp at' : Nat) (e : Int) (xs : List UInt8) (hx : xs.length = N) (hat : at' ≤ N) (hN : N ≤ cp) (hbig : N ≤ 1000000) : Meets Tryz.prog 71 [ptr n 0] [n] (fun W => BlkOk W (RB n q N cp at' e) ∧ Sees W q 0 (bytesV xs) ∧ q ≠ n)
    (fun v out => v = agg (bytesV (digR xs at' e).1) ∧ out = [RB n q N cp (digR xs at' e).2.1 (digR xs at' e).2.2]) := by
  unfold digR
  by_cases he : e = 0
  · subst he
    rw [if_neg sP]
    by_cases h1 : xs.length < at' + 32
    · rw [if_pos h1]; exact rd_dig_more n q N cp at' xs hx hat hN hbig oM
    · rw [if_neg h1]; exact rd_dig_ok n q N cp at' xs hx hat hN hbig oM
  · rw [if_pos he]; exact rd_dig_err n q N cp at' e xs hx hat hN hbig he

end Go.Proofs.YtpacobmjjjillaaGreat
end

section
namespace Go.Proofs.YtpacobmjjjillaaGreat
open Go Hw
set_option linter.unusedVariables false
set_option linter.unusedSimpArgs false

theorem BlkOk.keep {ex : List Nat} {w w' : World} {b : Blk} (h : Keeps ex w w') (hb : BlkOk w b) (hn : b.n ∉ ex) : BlkOk w' b := hb.of_heap (h.block b.n hb.lt hn)

/-- a new reader -/
def RdNew (N : Nat) (xs : List UInt8) (v : Value) (out : List Blk) : Prop := ∃ n q cp, v = ptr n 0 ∧ N ≤ cp ∧ out = [RB n q N cp 0 0, ⟨q, bytesV xs, 5, cp * 1⟩]
theorem RdNew.loose (N : Nat) (xs : List UInt8) : Loose (RdNew N xs) := fun k hk => by
  obtain ⟨q1, _, h1⟩ := fresh_is 0 k
  obtain ⟨q2, h2', h2⟩ := fresh_is (q1 + 1) k
  refine ⟨_, _, ⟨q2, q1, N, rfl, Nat.le_refl _, rfl⟩, ?_⟩
  simp only [RB, List.cons_append, List.nil_append, List.map_cons, List.nodup_cons, List.mem_cons]
  refine ⟨?_, fun h => ?_, hk⟩
  · rintro (h | h)
    · omega
    · obtain ⟨b, hb, e⟩ := List.mem_map.1 h; exact h2 b hb e
  · obtain ⟨b, hb, e⟩ := List.mem_map.1 h; exact h1 b hb e

theorem oct_Read (p : Option Addr) (n c : Nat) (xs : List UInt8) (hl : xs.length = n) (hp : p = none → n = 0) (hn : n ≤ 90000) : Meets Tryz.prog 69 [.slice p n c] [] (fun W => SeesP W p (bytesV xs)) (RdNew n xs) := by
 intro W hW
 refine calls_of (hp0 := []) Tryz.func69 J 13 Tryz.ntmps69 J (HRep.nil _) (Sat.seq (Sat.region (Tr.assign J J J (Tr.nil (at_n (Sat.seq (Sat.region (Tr.move J J J (Tr.call J J J J Body129 (oct_grown p n c 0 xs hl hp oM oM) (FreshRow.loose _ _ _ _) (fun w h => seesP_ext h J hW) ?_)))))))))
 rintro v1 out1 ⟨q1, c1, rfl, hc1, rfl⟩
 refine Tr.build (cs := (⟨.pointer none, ⟨some ⟨q1, 0, none⟩, n, c1⟩, 0, 0⟩ : Reader).cells) J J J (fun w => by kernel_rfl) ?_
 refine Tr.boxA J J ?_
 intro n7 hn7 hf7
 refine Tr.assign J J J (Tr.nil (at_n (Sat.seq (Sat.region (Tr.move J J J (Tr.move J J J (Tr.nilChk J J J (Tr.fld J J J Tryz.underlying140 J Sz84 dE _ J (Tr.store1 J J J J J Sz84 Z0 (by rw [Reader.length (by exact ⟨rfl⟩)]; decide) (Reader.set_fSelf (by exact ⟨rfl⟩) _) zU ?_)))))))))
 refine Tr.nil (at_n (Sat.seq (Sat.region (Tr.move J J J (Tr.assign J J J (Tr.nil (at_n (Sat.ret (en_r ?_)))))))))
 refine ⟨_, [RB n7 q1 n c1 0 0, ⟨q1, bytesV xs, 5, c1 * 1⟩], res_tmp J J, (by intro b hb; rcases List.mem_cons.1 hb with rfl | hb; exact mem0; rw [List.mem_singleton.1 hb]; exact mem1), (fun h => h.sublist (by simp [RB])), ⟨n7, q1, c1, rfl, hc1, rfl⟩⟩

theorem rd_Err (n q N cp at' : Nat) (e : Int) : Meets Tryz.prog 134 [ptr n 0] [] (fun W => BlkOk W (RB n q N cp (at') (e))) (fun v out => v = i64 e ∧ out = []) := by
 intro W hW
 refine calls_of (hp0 := []) Tryz.func134 J 10 Tryz.ntmps134 J (HRep.nil _) (Sat.seq (Sat.region (Tr.assign J J J (Tr.nil (at_n (Sat.seq (Sat.seq (Sat.region (Tr.move J J J (Tr.callV J J J J Body205 (rd_made n) (fun w h => h.keeps.cell sP (rb_self hW)) (Tr.not J J J (Tr.nil (at_n (Sat.cond_f J J (Sat.skip (at_n (Sat.seq (Sat.region (Tr.move J J J (Tr.nilChk J J J (Tr.fld J J J Tryz.underlying140 J Sz31 dE _ J (Tr.loadE J J J Y31 J sP (BlkOk.cell0 (o := 3) hW J) (Tr.assign J J J (Tr.nil (at_n (Sat.ret (en_r ?_)))))))))))))))))))))))))))
 refine ⟨_, [], res_tmp J J, sP, sP, ?_, rfl⟩
 rfl

theorem rd_Left (n q N cp at' : Nat) (e : Int) (hat : at' ≤ N) (hbig : N ≤ 1000000) : Meets Tryz.prog 135 [ptr n 0] [] (fun W => BlkOk W (RB n q N cp (at') (e))) (fun v out => v = i64 ((N : Int) - (at' : Int)) ∧ out = []) := by
 intro W hW
 have hfB : (rdr n q N cp at' e).fB.n = N := rfl
 have hfA : (rdr n q N cp at' e).fAt = (at' : Int) := rfl
 refine calls_of (hp0 := []) Tryz.func135 J 16 Tryz.ntmps135 J (HRep.nil _) (Sat.seq (Sat.region (Tr.assign J J J (Tr.nil (at_n (Sat.seq (Sat.seq (Sat.region (Tr.move J J J (Tr.callV J J J J Body205 (rd_made n) (fun w h => h.keeps.cell sP (rb_self hW)) (Tr.not J J J (Tr.nil (at_n (Sat.cond_f J J (Sat.skip (at_n (Sat.seq (Sat.draw [(0, 0), (0, 1), (0, 2), (1, 3), (0, 4), (0, 5), (0, 6), (0, 7), (1, 8), (0, 9), (0, 10)] Mixed zK (Tr.move J J J (Tr.nilChk J J J (Tr.fld J J J Tryz.underlying140 J Sz39 dE _ J (Tr.loadE J J J Y39 J sP (BlkOk.cell0 (o := 1) hW J) (Tr.lenSl (n := N) J J J Y39 (Tr.move J J J (Tr.nilChk J J J (Tr.fld J J J Tryz.underlying140 J Sz3 dE _ J (Tr.loadE J J J Y3 J sP (BlkOk.cell0 (o := 2) hW J) (Tr.sub_i64 J J J J oM (Tr.assign J J J (Tr.nil (at_n (Sat.ret (en_r ?_)))))))))))))))))))))))))))))))))
 refine ⟨_, [], res_tmp J J, sP, sP, ?_, rfl⟩
 rfl

def endR (N a : Nat) (e : Int) : Int := if e = 0 then (if (0 : Int) < (N : Int) - (a : Int) then 4 else 0) else e

theorem rd_End (n q N cp at' : Nat) (e : Int) (hat : at' ≤ N) (hbig : N ≤ 1000000) : Meets Tryz.prog 73 [ptr n 0] [] (fun W => BlkOk W (RB n q N cp (at') (e))) (fun v out => v = i64 (endR N at' e) ∧ out = []) := by
 intro W hW
 refine calls_of (hp0 := []) Tryz.func73 J 12 Tryz.ntmps73 J (HRep.nil _) (Sat.seq (Sat.region (Tr.assign J J J (Tr.nil (at_n (Sat.seq (Sat.seq (Sat.region (Tr.move J J J (Tr.callV J J J J Body134 (rd_Err n q N cp at' e) (fun w h => (BlkOk.keep h.keeps hW sP)) (Tr.assign J J J (Tr.nil (at_n (Sat.seq (Sat.region (Tr.move J J J (Tr.nei J J J J J (Tr.nil (at_n (Sat.condNP J (fun hc0 => ?_) (fun hc0 => ?_)))))))))))))))))))))
 ·
  refine Sat.seq (Sat.region (Tr.move J J J (Tr.assign J J J (Tr.nil (at_n (Sat.ret (at_r (en_r ?_))))))))
  refine ⟨_, [], res_tmp J J, sP, sP, ?_, rfl⟩
  (simp only [endR, if_neg hc0]; done)
 ·
  refine Sat.skip (at_n (Sat.seq (Sat.seq (Sat.region (Tr.move J J J (Tr.callV J J J J Body135 (rd_Left n q N cp at' e hat hbig) (fun w h => (BlkOk.keep h.keeps hW sP)) (Tr.gtr J J J J J (Tr.nil (at_n (Sat.condP J (fun hc1 => ?_) (fun hc1 => ?_)))))))))))
  ·
   refine Sat.seq (Sat.region (Tr.assign J J J (Tr.nil (at_n (Sat.ret (at_r (en_r ?_)))))))
   refine ⟨_, [], res_tmp J J, sP, sP, ?_, rfl⟩
   (simp only [endR, if_pos (show e = 0 by omega), if_pos hc1]; done)
  ·
   refine Sat.skip (at_n (Sat.seq (Sat.region (Tr.assign J J J (Tr.nil (at_n (Sat.ret (en_r ?_))))))))
   refine ⟨_, [], res_tmp J J, sP, sP, ?_, rfl⟩
   (simp only [endR, if_pos (show e = 0 by omega), if_neg hc1]; done)

theorem rd_take64_err (n q N cp at' : Nat) (e : Int) (m : Nat) (hm0 : 0 < m) (hm : m ≤ 90000) (xs : List UInt8) (hx : xs.length = N) (hat : at' ≤ N) (hN : N ≤ cp) (hbig : N ≤ 1000000) (he : ¬ e = 0) : Meets Tryz.prog 72 [ptr n 0, i64 (m : Int)] [n] (fun W => BlkOk W (RB n q N cp (at') (e)) ∧ Sees W q 0 (bytesV xs) ∧ q ≠ n) (fun v out => v = .slice none 0 0 ∧ out = [RB n q N cp (at') (e)]) := by
 intro W hW
 have hkm : (wordOf (if (0 : Int) > (m : Int) then 0 else (m : Int))).toNat = m := by
  rw [if_neg oM]
  simp only [wordOf, UInt64.toNat_ofNat']
  omega
 refine calls_of (hp0 := [RB n q N cp (at') (e)]) Tryz.func72 J 19 Tryz.ntmps72 J (HRep.one hW.1) (Sat.seq (Sat.region (Tr.assign J J J (Tr.nil (at_n (Sat.seq (Sat.region (Tr.move J J J (Tr.move J J J (Tr.max2 J J J J (rfl) (Tr.conv J J J Y3 Y22 (cv_i64_u64 _) (Tr.callL (L := [RB n q N cp (at') (e)]) J J J J J Body130 (rd_take_err n q N cp at' e (wordOf (if (0 : Int) > (m : Int) then 0 else (m : Int))) hat hN hbig he) rem_here lO (fun w h => own_blk h Z0) ?_))))))))))))
 rintro v2 out2 ⟨rfl, rfl⟩
 refine Tr.move J J J (Tr.extract J J J J (Tr.extract J J J J (Tr.assign J J J (Tr.assign J J J (Tr.nil (at_n (Sat.seq (Sat.seq (Sat.region (Tr.move J J J (Tr.not J J J (Tr.nil (at_n (Sat.cond_t J (rfl) (Sat.seq (Sat.region (Tr.assign J J J (Tr.nil (at_n (Sat.ret (at_r (en_r ?_))))))))))))))))))))))
 refine ⟨_, [RB n q N cp (at') (e)], res_tmp J J, (by intro b hb; rw [List.mem_singleton.1 hb]; exact mem0), nodup1, ?_⟩
 exact ⟨rfl, rfl⟩

theorem rd_take64_more (n q N cp at' : Nat) (m : Nat) (hm0 : 0 < m) (hm : m ≤ 90000) (xs : List UInt8) (hx : xs.length = N) (hat : at' ≤ N) (hN : N ≤ cp) (hbig : N ≤ 1000000) (hk : N < at' + m) : Meets Tryz.prog 72 [ptr n 0, i64 (m : Int)] [n] (fun W => BlkOk W (RB n q N cp (at') (0)) ∧ Sees W q 0 (bytesV xs) ∧ q ≠ n) (fun v out => v = .slice none 0 0 ∧ out = [RB n q N cp (at') (5)]) := by
 intro W hW
 have hkm : (wordOf (if (0 : Int) > (m : Int) then 0 else (m : Int))).toNat = m := by
  rw [if_neg oM]
  simp only [wordOf, UInt64.toNat_ofNat']
  omega
 refine calls_of (hp0 := [RB n q N cp (at') (0)]) Tryz.func72 J 19 Tryz.ntmps72 J (HRep.one hW.1) (Sat.seq (Sat.region (Tr.assign J J J (Tr.nil (at_n (Sat.seq (Sat.region (Tr.move J J J (Tr.move J J J (Tr.max2 J J J J (rfl) (Tr.conv J J J Y3 Y22 (cv_i64_u64 _) (Tr.callL (L := [RB n q N cp (at') (0)]) J J J J J Body130 (rd_take_more n q N cp at' (wordOf (if (0 : Int) > (m : Int) then 0 else (m : Int))) hat hN hbig (by rw [hkm]; exact hk)) rem_here lO (fun w h => own_blk h Z0) ?_))))))))))))
 rintro v2 out2 ⟨rfl, rfl⟩
 refine Tr.move J J J (Tr.extract J J J J (Tr.extract J J J J (Tr.assign J J J (Tr.assign J J J (Tr.nil (at_n (Sat.seq (Sat.seq (Sat.region (Tr.move J J J (Tr.not J J J (Tr.nil (at_n (Sat.cond_t J (rfl) (Sat.seq (Sat.region (Tr.assign J J J (Tr.nil (at_n (Sat.ret (at_r (en_r ?_))))))))))))))))))))))
 refine ⟨_, [RB n q N cp (at') (5)], res_tmp J J, (by intro b hb; rw [List.mem_singleton.1 hb]; exact mem0), nodup1, ?_⟩
 exact ⟨rfl, rfl⟩

theorem rd_take64_ok (n q N cp at' : Nat) (m : Nat) (hm0 : 0 < m) (hm : m ≤ 90000) (xs : List UInt8) (hx : xs.length = N) (hat : at' ≤ N) (hN : N ≤ cp) (hbig : N ≤ 1000000) (hk : at' + m ≤ N) (hN2 : N ≤ 90000) : Meets Tryz.prog 72 [ptr n 0, i64 (m : Int)] [n] (fun W => BlkOk W (RB n q N cp (at') (0)) ∧ Sees W q 0 (bytesV xs) ∧ q ≠ n) (fun v out => ∃ q1 c1, v = .slice (some ⟨q1, 0, none⟩) m c1 ∧ m ≤ c1 ∧ out = [⟨q1, bytesV ((xs.drop (at')).take (m)), 5, c1 * 1⟩, RB n q N cp (at' + m) (0)]) := by
 intro W hW
 have hkm : (wordOf (if (0 : Int) > (m : Int) then 0 else (m : Int))).toNat = m := by
  rw [if_neg oM]
  simp only [wordOf, UInt64.toNat_ofNat']
  omega
 refine calls_of (hp0 := [RB n q N cp (at') (0)]) Tryz.func72 J 19 Tryz.ntmps72 J (HRep.one hW.1) (Sat.seq (Sat.region (Tr.assign J J J (Tr.nil (at_n (Sat.seq (Sat.region (Tr.move J J J (Tr.move J J J (Tr.max2 J J J J (rfl) (Tr.conv J J J Y3 Y22 (cv_i64_u64 _) (Tr.callL (L := [RB n q N cp (at') (0)]) J J J J J Body130 (rd_take_pos n q N cp at' (wordOf (if (0 : Int) > (m : Int) then 0 else (m : Int))) hN hbig (by rw [hkm]; exact hk) (by rw [hkm]; exact hm0)) rem_here lO (fun w h => own_blk h Z0) ?_))))))))))))
 rintro v2 out2 ⟨rfl, rfl⟩
 rw [hkm]
 refine Tr.move J J J (Tr.extract J J J J (Tr.extract J J J J (Tr.assign J J J (Tr.assign J J J (Tr.nil (at_n (Sat.seq (Sat.seq (Sat.region (Tr.move J J J (Tr.not J J J (Tr.nil (at_n (Sat.cond_f J (rfl) (Sat.skip (at_n (Sat.seq (Sat.region (Tr.move J J J (Tr.call J J J J Body129 (oct_grown (some ⟨q, at', none⟩) m (cp - at') 0 ((xs.drop (at')).take (m)) (by simp; omega) (fun e => by cases e) oM oM) (FreshRow.loose _ _ _ _) (fun w h => SeesP.of (sees_ext h (by simp; exact hW.2.2) (sees_cut hW.2.1 (at') (m)))) ?_))))))))))))))))))))
 rintro v1 out1 ⟨q1, c1, rfl, hc1, rfl⟩
 refine Tr.assign J J J (Tr.nil (at_n (Sat.ret (en_r ?_))))
 refine ⟨_, [⟨q1, bytesV ((xs.drop (at')).take (m)), 5, c1 * 1⟩, RB n q N cp (at' + m) (0)], res_tmp J J, (by intro b hb; rcases List.mem_cons.1 hb with rfl | hb; exact mem0; rw [List.mem_singleton.1 hb]; exact mem1), (fun h => h.sublist (by simp [RB])), ?_⟩
 exact ⟨q1, c1, rfl, hc1, rfl⟩

/-- what Block reads: the bytes (none if there is an error), where the reader then stands, its error -/
def blkR (xs : List UInt8) (a : Nat) (e : Int) : Option (List UInt8) × Nat × Int :=
  if ¬ (numR xs a e).2.2 = 0 then (none, a, (numR xs a e).2.2) else if xs.length < (numR xs a e).2.1 + (numR xs a e).1.toNat then (none, a, 5) else (some ((xs.drop (numR xs a e).2.1).take (numR xs a e).1.toNat), (numR xs a e).2.1 + (numR xs a e).1.toNat, 0)

end Go.Proofs.YtpacobmjjjillaaGreat
end

section
namespace Go.Proofs.YtpacobmjjjillaaGreat
open Go Hw
set_option linter.unusedVariables false
set_option linter.unusedSimpArgs false

def bodyB (B : Block) (ls : List (List UInt8)) (ds : List UInt8) : List UInt8 := B.fWriter ++ numB B.fSeq ++ B.fPrev ++ numB (UInt64.ofNat B.fLinks.n) ++ ls.flatten ++ (numB (UInt64.ofNat B.fData.n) ++ ds)
theorem word_nat {n : Nat} (h : n ≤ 1000000) : wordOf (n : Int) = UInt64.ofNat n := by simp only [wordOf]; congr 1; omega
theorem ofNat_nat {n : Nat} (h : n ≤ 1000000) : (UInt64.ofNat n).toNat = n := by rw [UInt64.toNat_ofNat', Nat.mod_eq_of_lt oM]
theorem flatten_take_len {ls : List (List UInt8)} (h : ∀ l ∈ ls, l.length = 32) {k : Nat} (hk : k ≤ ls.length) : (ls.take k).flatten.length = k * 32 := by
  rw [flatten_len 32 _ (fun l hl => h l (List.mem_of_mem_take hl)), List.length_take, Nat.min_eq_left hk]

def bytesB (B : Block) (ls : List (List UInt8)) (ds : List UInt8) : List UInt8 := bodyB B ls ds ++ B.fSig

end Go.Proofs.YtpacobmjjjillaaGreat
end

section
namespace Go.Proofs.YtpacobmjjjillaaGreat
open Go Hw
set_option linter.unusedVariables false
set_option linter.unusedSimpArgs false

def BB (b : Nat) (X : Block) : Blk := ⟨b, X.cells, 53, 131⟩
theorem rd_DigestE (n q N cp a : Nat) (e : Int) (xs : List UInt8) (hx : xs.length = N) (hat : a ≤ N) (hN : N ≤ cp) (hbig : N ≤ 1000000) (l : List UInt8) (a1 : Nat) (e1 : Int) (h : digR xs a e = (l, a1, e1)) : Meets Tryz.prog 71 [ptr n 0] [n] (fun W => BlkOk W (RB n q N cp a e) ∧ Sees W q 0 (bytesV xs) ∧ q ≠ n)
    (fun v out => v = agg (bytesV l) ∧ out = [RB n q N cp a1 e1]) := by
  have := rd_Digest n q N cp a e xs hx hat hN hbig
  rw [h] at this
  exact this
theorem rd_NumberE (n q N cp a : Nat) (e : Int) (xs : List UInt8) (hx : xs.length = N) (hat : a ≤ N) (hN : N ≤ cp) (hbig : N ≤ 1000000) (l : UInt64) (a1 : Nat) (e1 : Int) (h : numR xs a e = (l, a1, e1)) : Meets Tryz.prog 70 [ptr n 0] [n] (fun W => BlkOk W (RB n q N cp a e) ∧ Sees W q 0 (bytesV xs) ∧ q ≠ n)
    (fun v out => v = u64 l ∧ out = [RB n q N cp a1 e1]) := by
  have := rd_Number n q N cp a e xs hx hat hN hbig
  rw [h] at this
  exact this
theorem digE_le {xs l : List UInt8} {a a1 N : Nat} {e e1 : Int} (h : digR xs a e = (l, a1, e1)) (hx : xs.length = N) (hat : a ≤ N) : a1 ≤ N ∧ l.length = 32 := by
  have := digR_at xs a e oM
  rw [h] at this
  exact ⟨by have := this.1; simp only at this; omega, this.2⟩
theorem numE_le {xs : List UInt8} {l : UInt64} {a a1 N : Nat} {e e1 : Int} (h : numR xs a e = (l, a1, e1)) (hx : xs.length = N) (hat : a ≤ N) : a1 ≤ N := by
  have := numR_at xs a e oM
  rw [h] at this
  simp only at this; omega

def takR (xs : List UInt8) (m a : Nat) (e : Int) : List UInt8 × Nat × Int :=
  if ¬ e = 0 then ([], a, e) else if xs.length < a + m then ([], a, 5) else ((xs.drop a).take m, a + m, 0)
theorem rd_TakeE (n q N cp a : Nat) (e : Int) (m : Nat) (hm0 : 0 < m) (hm : m ≤ 90000) (xs : List UInt8) (hx : xs.length = N) (hat : a ≤ N) (hN : N ≤ cp) (hbig : N ≤ 90000) (l : List UInt8) (a1 : Nat) (e1 : Int) (h : takR xs m a e = (l, a1, e1)) : Meets Tryz.prog 72 [ptr n 0, i64 (m : Int)] [n] (fun W => BlkOk W (RB n q N cp a e) ∧ Sees W q 0 (bytesV xs) ∧ q ≠ n)
    (fun v out => ∃ s bl, v = s.v ∧ Acc s bl (bytesV l) 5 l.length 1 ∧ out = bl ++ [RB n q N cp a1 e1]) := by
  unfold takR at h
  by_cases he : e = 0
  · subst he
    rw [if_neg sP] at h
    by_cases h1 : xs.length < a + m
    · rw [if_pos h1] at h
      obtain ⟨rfl, rfl, rfl⟩ : [] = l ∧ a = a1 ∧ (5 : Int) = e1 := by simpa using h
      exact (rd_take64_more n q N cp a m hm0 hm xs hx hat hN oM oM).imp (fun w h => h) fun v out ⟨h1, h2⟩ => ⟨Sl.nil, [], h1, Acc.none, h2⟩
    · rw [if_neg h1] at h
      obtain ⟨rfl, rfl, rfl⟩ : (xs.drop a).take m = l ∧ a + m = a1 ∧ (0 : Int) = e1 := by simpa using h
      refine (rd_take64_ok n q N cp a m hm0 hm xs hx hat hN oM oM hbig).imp (fun w h => h) fun v out ⟨q1, c1, h1, h2, h3⟩ => ?_
      have hl : ((xs.drop a).take m).length = m := by simp; omega
      refine ⟨⟨some ⟨q1, 0, none⟩, m, c1⟩, [_], h1, ?_, h3⟩
      rw [hl]
      exact Acc.some h2 (by simp [hl]; omega)
  · rw [if_pos he] at h
    obtain ⟨rfl, rfl, rfl⟩ : [] = l ∧ a = a1 ∧ e = e1 := by simpa using h
    exact (rd_take64_err n q N cp a e m hm0 hm xs hx hat hN oM he).imp (fun w h => h) fun v out ⟨h1, h2⟩ => ⟨Sl.nil, [], h1, Acc.none, h2⟩
theorem takE_le {xs l : List UInt8} {a a1 m N : Nat} {e e1 : Int} (h : takR xs m a e = (l, a1, e1)) (hx : xs.length = N) (hat : a ≤ N) : a1 ≤ N ∧ (l = [] ∨ l.length = m) := by
  unfold takR at h
  split at h
  · obtain ⟨rfl, rfl, rfl⟩ : [] = l ∧ a = a1 ∧ e = e1 := by simpa using h
    exact ⟨hat, .inl rfl⟩
  split at h
  · obtain ⟨rfl, rfl, rfl⟩ : [] = l ∧ a = a1 ∧ (5 : Int) = e1 := by simpa using h
    exact ⟨hat, .inl rfl⟩
  · obtain ⟨rfl, rfl, rfl⟩ : (xs.drop a).take m = l ∧ a + m = a1 ∧ (0 : Int) = e1 := by simpa using h
    exact ⟨by omega, .inr (by simp; omega)⟩
/-- so many digests -/
def digsR (xs : List UInt8) : Nat → Nat → Int → List (List UInt8) × Nat × Int
  | 0, a, e => ([], a, e)
  | j + 1, a, e => ((digsR xs j a e).1 ++ [(digR xs (digsR xs j a e).2.1 (digsR xs j a e).2.2).1], (digR xs (digsR xs j a e).2.1 (digsR xs j a e).2.2).2)
theorem upd_nil (cs : List Value) (o : Nat) : upd cs o [] = cs := by simp [upd]
end Go.Proofs.YtpacobmjjjillaaGreat
end

section
namespace Go.Proofs.YtpacobmjjjillaaGreat
open Go Hw
set_option linter.unusedVariables false
set_option linter.unusedSimpArgs false

/-- a block as plain data -/
structure DB where
  w : List UInt8
  seq : UInt64
  prev : List UInt8
  ls : List (List UInt8)
  ds : List UInt8
  sg : List UInt8
deriving DecidableEq
def DB.zero : DB := ⟨List.replicate 32 0, 0, List.replicate 32 0, [], [], List.replicate 64 0⟩
def DB.head (D : DB) : Bool := decide ((4294967295 : Int) < (D.seq.toNat : Int)) || (!decide (decide (D.prev = List.replicate 32 0) = decide ((D.seq.toNat : Int) = 0)) || (decide ((16 : Int) < (D.ls.length : Int)) || decide ((512 : Int) < (D.ds.length : Int))))
def DB.check (D : DB) : Int := if D.head = true then 2 else (if linksBad D.prev D.ls = true then 2 else 0)
def DB.body (D : DB) : List UInt8 := D.w ++ numB D.seq ++ D.prev ++ numB (UInt64.ofNat D.ls.length) ++ D.ls.flatten ++ (numB (UInt64.ofNat D.ds.length) ++ D.ds)
def DB.bytes (D : DB) : List UInt8 := D.body ++ D.sg
/-- the lengths that the types ask -/
structure DB.ok (D : DB) : Prop where
  w : D.w.length = 32
  prev : D.prev.length = 32
  sg : D.sg.length = 64
  ls : ∀ l ∈ D.ls, l.length = 32
structure BlockIs (W : World) (B : Block) (D : DB) : Prop where
  ok : B.ok
  w : B.fWriter = D.w
  seq : B.fSeq = D.seq
  prev : B.fPrev = D.prev
  ls : RowsAt W B.fLinks 32 D.ls
  ds : BytesAt W B.fData D.ds
  sg : B.fSig = D.sg
theorem BlockIs.check {W : World} {B : Block} {D : DB} (h : BlockIs W B D) : bcheck B D.ls = D.check := by
  simp only [bcheck, bheadB, DB.check, DB.head, h.seq, h.prev, h.ls.len, h.ds.len]
theorem BlockIs.body {W : World} {B : Block} {D : DB} (h : BlockIs W B D) : bodyB B D.ls D.ds = D.body := by
  simp only [bodyB, DB.body, h.w, h.seq, h.prev, h.ls.len, h.ds.len]
theorem BlockIs.bytes {W : World} {B : Block} {D : DB} (h : BlockIs W B D) : bytesB B D.ls D.ds = D.bytes := by
  simp only [bytesB, DB.bytes, h.body, h.sg]
/-- what is read: the data of a block -/
def readP (xs : List UInt8) : DB × Nat × Int :=
  let r1 := digR xs 0 0
  let r2 := numR xs r1.2.1 r1.2.2
  let r3 := digR xs r2.2.1 r2.2.2
  let r4 := numR xs r3.2.1 r3.2.2
  let r5 := digsR xs (min r4.1.toNat 17) r4.2.1 r4.2.2
  let r6 := blkR xs r5.2.1 r5.2.2
  let r7 := takR xs 64 r6.2.1 r6.2.2
  (⟨r1.1, r2.1, r3.1, r5.1, r6.1.getD [], r7.1 ++ (List.replicate 64 0).drop r7.1.length⟩, r7.2)
def readD (xs : List UInt8) : DB × Int :=
  if endR xs.length (readP xs).2.1 (readP xs).2.2 = 0 ∧ (readP xs).1.check = 0 then ((readP xs).1, 0) else (DB.zero, 4)
theorem readD_ok {xs : List UInt8} (h : endR xs.length (readP xs).2.1 (readP xs).2.2 = 0 ∧ (readP xs).1.check = 0) : readD xs = ((readP xs).1, 0) := if_pos h
end Go.Proofs.YtpacobmjjjillaaGreat
end

section
namespace Hw
open Go
set_option linter.unusedSimpArgs false
set_option linter.unusedVariables false

/-- turned to the left by s bits -/
def rolW (x : UInt64) (s : Nat) : UInt64 := shl64 x s ||| shr64 x (64 - s)
def schA (p : List UInt8) : Nat → List UInt64
  | 0 => List.replicate 80 0
  | i + 1 => (schA p i).set (i / 8) (shl64 ((schA p i).getD (i / 8) 0) 8 ||| (p.getD i 0).toUInt64)
theorem schA_length (p : List UInt8) : ∀ i, (schA p i).length = 80
  | 0 => rfl
  | i + 1 => by rw [schA, List.length_set, schA_length p i]
def sig0 (x : UInt64) : UInt64 := rolW x 63 ^^^ rolW x 56 ^^^ shr64 x 7
def sig1 (y : UInt64) : UInt64 := rolW y 45 ^^^ rolW y 3 ^^^ shr64 y 6
def schB (w : List UInt64) : Nat → List UInt64
  | 0 => w
  | j + 1 => (schB w j).set (16 + j) ((schB w j).getD j 0 + sig0 ((schB w j).getD (j + 1) 0) + (schB w j).getD (j + 9) 0 + sig1 ((schB w j).getD (j + 14) 0))
theorem schB_length (w : List UInt64) : ∀ j, (schB w j).length = w.length
  | 0 => rfl
  | j + 1 => by rw [schB, List.length_set, schB_length w j]
def schW (p : List UInt8) : List UInt64 := schB (schA p 128) 64
structure W8 where
  a : UInt64
  b : UInt64
  c : UInt64
  d : UInt64
  e : UInt64
  f : UInt64
  g : UInt64
  h : UInt64
def W8.l (s : W8) : List UInt64 := [s.a, s.b, s.c, s.d, s.e, s.f, s.g, s.h]
def W8.of (l : List UInt64) : W8 := ⟨l.getD 0 0, l.getD 1 0, l.getD 2 0, l.getD 3 0, l.getD 4 0, l.getD 5 0, l.getD 6 0, l.getD 7 0⟩
def rndT1 (s : W8) (k w : UInt64) : UInt64 := s.h + (rolW s.e 50 ^^^ rolW s.e 46 ^^^ rolW s.e 23) + ((s.e &&& s.f) ^^^ ((18446744073709551615 ^^^ s.e) &&& s.g)) + k + w
def rndT2 (s : W8) : UInt64 := (rolW s.a 36 ^^^ rolW s.a 30 ^^^ rolW s.a 25) + ((s.a &&& s.b) ^^^ (s.a &&& s.c) ^^^ (s.b &&& s.c))
def rnd1 (s : W8) (k w : UInt64) : W8 := ⟨rndT1 s k w + rndT2 s, s.a, s.b, s.c, s.d + rndT1 s k w, s.e, s.f, s.g⟩
def rnds (k w : List UInt64) (s : W8) : Nat → W8
  | 0 => s
  | t + 1 => rnd1 (rnds k w s t) (k.getD t 0) (w.getD t 0)
def addUp (st xs : List UInt64) : Nat → List UInt64
  | 0 => st
  | i + 1 => (addUp st xs i).set i ((addUp st xs i).getD i 0 + xs.getD i 0)
theorem addUp_length (st xs : List UInt64) : ∀ i, (addUp st xs i).length = st.length
  | 0 => rfl
  | i + 1 => by rw [addUp, List.length_set, addUp_length st xs i]
theorem addUp_get (st xs : List UInt64) : ∀ i j, i ≤ j → (addUp st xs i).getD j 0 = st.getD j 0
  | 0, j, _ => rfl
  | i + 1, j, h => by
    rw [addUp, List.getD_eq_getElem?_getD, List.getElem?_set_ne oM, ← List.getD_eq_getElem?_getD]
    exact addUp_get st xs i j oM
def pieceW (k st : List UInt64) (p : List UInt8) : List UInt64 := addUp st (rnds k (schW p) (W8.of st) 80).l 8
theorem pieceW_length (k st : List UInt64) (p : List UInt8) : (pieceW k st p).length = st.length := addUp_length _ _ _
def sumUp (st : List UInt64) : Nat → List UInt8
  | 0 => List.replicate 64 0
  | i + 1 => (sumUp st i).set i (shr64 (st.getD (i / 8) 0) (56 - 8 * (i % 8))).toUInt8
theorem sumUp_length (st : List UInt64) : ∀ i, (sumUp st i).length = 64
  | 0 => rfl
  | i + 1 => by rw [sumUp, List.length_set, sumUp_length st i]
/-- the zeros behind the 128 -/
def padZ (n : Nat) : Nat := (239 - n % 128) % 128
theorem padZ_lt (n : Nat) : padZ n < 128 := Nat.mod_lt _ dE
theorem padZ_at (n j : Nat) (h : j ≤ padZ n) : (n + 1 + j) % 128 = 112 ↔ j = padZ n := by unfold padZ at *; omega
def beUp (x : UInt64) : Nat → List UInt8
  | 0 => []
  | j + 1 => beUp x j ++ [(shr64 x (56 - 8 * j)).toUInt8]
theorem beUp_length (x : UInt64) : ∀ j, (beUp x j).length = j
  | 0 => rfl
  | j + 1 => by rw [beUp, List.length_append, beUp_length x j]; rfl
def padB (l : List UInt8) : List UInt8 := l ++ [128] ++ List.replicate (padZ l.length) 0 ++ beUp 0 8 ++ beUp (UInt64.ofNat (8 * l.length)) 8
theorem padB_length (l : List UInt8) : (padB l).length = l.length + 17 + padZ l.length := by
  simp only [padB, List.length_append, beUp_length, List.length_replicate, List.length_singleton]; omega
theorem padB_mod (l : List UInt8) : (padB l).length = 128 * ((padB l).length / 128) := by
  rw [padB_length]; unfold padZ; omega
def runW (k st : List UInt64) (bs : List UInt8) : Nat → List UInt64
  | 0 => st
  | i + 1 => pieceW k (runW k st bs i) ((bs.drop (128 * i)).take 128)
theorem runW_length (k st : List UInt64) (bs : List UInt8) : ∀ i, (runW k st bs i).length = st.length
  | 0 => rfl
  | i + 1 => by rw [runW, pieceW_length, runW_length k st bs i]
def allW (k st : List UInt64) (l : List UInt8) : List UInt64 := runW k st (padB l) ((padB l).length / 128)
theorem allW_length (k st : List UInt64) (l : List UInt8) : (allW k st l).length = st.length := runW_length _ _ _ _
end Hw
end

section
namespace Go.Proofs.YtpacobmjjjillaaGreat
open Go Hw
set_option linter.unusedVariables false
set_option linter.unusedSimpArgs false

def kW : List UInt64 := [4794697086780616226, 8158064640168781261, 13096744586834688815, 16840607885511220156, 4131703408338449720, 6480981068601479193, 10538285296894168987, 12329834152419229976, 15566598209576043074, 1334009975649890238, 2608012711638119052, 6128411473006802146, 8268148722764581231, 9286055187155687089, 11230858885718282805, 13951009754708518548, 16472876342353939154, 17275323862435702243, 1135362057144423861, 2597628984639134821, 3308224258029322869, 5365058923640841347, 6679025012923562964, 8573033837759648693, 10970295158949994411, 12119686244451234320, 12683024718118986047, 13788192230050041572, 14330467153632333762, 15395433587784984357, 489312712824947311, 1452737877330783856, 2861767655752347644, 3322285676063803686, 5560940570517711597, 5996557281743188959, 7280758554555802590, 8532644243296465576, 9350256976987008742, 10552545826968843579, 11727347734174303076, 12113106623233404929, 14000437183269869457, 14369950271660146224, 15101387698204529176, 15463397548674623760, 17586052441742319658, 1182934255886127544, 1847814050463011016, 2177327727835720531, 2830643537854262169, 3796741975233480872, 4115178125766777443, 5681478168544905931, 6601373596472566643, 7507060721942968483, 8399075790359081724, 8693463985226723168, 9568029438360202098, 10144078919501101548, 10430055236837252648, 11840083180663258601, 13761210420658862357, 14299343276471374635, 14566680578165727644, 15097957966210449927, 16922976911328602910, 17689382322260857208, 500013540394364858, 748580250866718886, 1242879168328830382, 1977374033974150939, 2944078676154940804, 3659926193048069267, 4368137639120453308, 4836135668995329356, 5532061633213252278, 6448918945643986474, 6902733635092675308, 7801388544844847127]
def startW : List UInt64 := [7640891576956012808, 13503953896175478587, 4354685564936845355, 11912009170470909681, 5840696475078001361, 11170449401992604703, 2270897969802886507, 6620516959819538809]

theorem sha_K  : Meets Tryz.prog 237 [] [] (fun _ => True) (fun v out => v = agg (wordsV kW) ∧ out = []) := by
 intro W hW
 refine calls_of (hp0 := []) Tryz.func237 J 2 Tryz.ntmps237 J (HRep.nil _) (Sat.seq (Sat.region (Tr.alloc (cs := (wordsV (List.replicate 80 0))) J Zr209 J ?_)))
 intro n0 hn0 hf0
 refine Tr.nil (at_n (Sat.seq (Sat.region (Tr.build (cs := wordsV kW) J J J (fun w => by kernel_rfl) ?_))))
 refine Tr.storeAll J J J J zB Sz209 (by (simp [kW]; done)) Z0 sP zU ?_
 refine Tr.nil (at_n (Sat.ret (en_r ?_)))
 refine ⟨_, [], res_cell J J Y209 J Sz209 Z0 (by simp [kW]), sP, sP, ?_, rfl⟩
 rfl

theorem sha_Start  : Meets Tryz.prog 204 [] [] (fun _ => True) (fun v out => v = agg (wordsV startW) ∧ out = []) := by
 intro W hW
 refine calls_of (hp0 := []) Tryz.func204 J 2 Tryz.ntmps204 J (HRep.nil _) (Sat.seq (Sat.region (Tr.alloc (cs := (wordsV (List.replicate 8 0))) J Zr135 J ?_)))
 intro n0 hn0 hf0
 refine Tr.nil (at_n (Sat.seq (Sat.region (Tr.build (cs := wordsV startW) J J J (fun w => by kernel_rfl) ?_))))
 refine Tr.storeAll J J J J zB Sz135 (by (simp [startW]; done)) Z0 sP zU ?_
 refine Tr.nil (at_n (Sat.ret (en_r ?_)))
 refine ⟨_, [], res_cell J J Y135 J Sz135 Z0 (by simp [startW]), sP, sP, ?_, rfl⟩
 rfl

theorem bits_rol (x : UInt64) (k : Int) (s : Nat) (hk : -64 ≤ k ∧ k ≤ 64) (hs : (wordOf k &&& 63).toNat = s) (hs2 : s ≤ 63) : Meets Tryz.prog 238 [u64 x, i64 k] [] (fun _ => True) (fun v out => v = u64 (rolW x s) ∧ out = []) := by
 intro W hW
 have h64 : ((64 : UInt64) - (wordOf k &&& 63)).toNat = 64 - s := by rw [UInt64.toNat_sub_of_le _ _ (by rw [UInt64.le_iff_toNat_le, hs]; show s ≤ 64; omega), hs]; rfl
 refine calls_of (hp0 := []) Tryz.func238 J 17 Tryz.ntmps238 J (HRep.nil _) (Sat.seq (Sat.region (Tr.assign J J (show evIn _ _ = some (u64 0) from rfl) (Tr.nil (at_n (Sat.seq (Sat.region (Tr.move J J J (Tr.conv J J J Y3 Y35 (cv_i64_u64 _) (Tr.and_u64 J J J (show evIn _ _ = some (u64 63) from rfl) (Tr.assign J J J (Tr.nil (at_n (Sat.seq (Sat.region (Tr.move J J J (Tr.move J J J (Tr.shl_u64 J J J J s oM oM (Tr.move J J J (Tr.move J J J (Tr.sub_u64 J J (show evIn _ _ = some (u64 64) from rfl) J (Tr.shr_u64 J J J J (64 - s) oM oM (Tr.or_u64 J J J J (Tr.assign J J J (Tr.nil (at_n (Sat.ret (en_r ?_))))))))))))))))))))))))))))
 refine ⟨_, [], res_tmp J J, sP, sP, ?_, rfl⟩
 rfl

theorem sha_schedule (p : List UInt8) (hp : p.length = 128) (A w : List UInt64) (hA : Hid (schA p 128 = A)) (hwp : Hid (schB A 64 = w)) : Meets Tryz.prog 236 [agg (bytesV p)] [] (fun _ => True) (fun v out => v = agg (wordsV w) ∧ out = []) := by
 intro W hW
 have hA80 : A.length = 80 := by rw [← hA.out]; exact schA_length p 128
 have hw80 : w.length = 80 := by rw [← hwp.out, schB_length]; exact hA80
 refine calls_of (hp0 := []) Tryz.func236 J 72 Tryz.ntmps236 J (HRep.nil _) (Sat.seq (Sat.region (Tr.boxA J J ?_)))
 intro n1 hn1 hf1
 refine Tr.alloc (cs := (wordsV (List.replicate 80 0))) J Zr209 J ?_
 intro n2 hn2 hf2
 refine Tr.nil (at_n (Sat.seq (Sat.region (Tr.alloc (cs := (wordsV (List.replicate 80 0))) J Zr209 J ?_))))
 intro n3 hn3 hf3
 refine Tr.nil (at_n (Sat.seq (Sat.seq (Sat.region (Tr.loadAll J J J Tryz.underlying191 J Sz191 Z2 (by (simp [hp]; done)) ?_)))))
 refine Tr.move J J J (Tr.nil (at_n (Sat.block (Sat.loop (ι := Nat) (fun k => ⟨[(3, ptr n3 0), (2, ptr n2 0), (11, agg (bytesV p)), (12, i64 (k : Int))], [⟨n3, wordsV (schA p k), 209, 80⟩, ⟨n2, wordsV (List.replicate 80 0), 209, 80⟩]⟩) (fun k => k ≤ 128) (fun k => 128 - k) (0) ?_ ?_ ?_))))
 · omega
 · exact weak_of (wk1 rfl (wk1 rfl (wk1 rfl (wk1 rfl wk0)))) (wh1 Z0 (wh1 Z1 wh0)) nD
 ·
  rintro k hi
  have hlk := schA_length p k
  refine Sat.seq (Sat.region (Tr.lss J J J J J (Tr.nil (at_n (Sat.seq (Sat.condP J (fun hc0 => ?_) (fun hc0 => ?_)))))))
  ·
   refine Sat.skip (at_n (Sat.seq (Sat.block (Sat.seq (Sat.region (Tr.move J J J (Tr.idxA1 J J J J Tryz.underlying191 Sz5 Y5 J _ J oM zG ?_)))))))
   refine Tr.assign J J J (Tr.assign J J J (Tr.nil (at_n (Sat.region (Tr.move J J J (Tr.quo_i64 J J J J oM (Tr.move J J J (Tr.quo_i64 J J J J oM (Tr.idxArr1 J J J J Y209 Sz22 (k / 8) oM oM (Tr.load1 J J J Y22 J Z0 (by exact get_words oM) ?_))))))))))
   refine Tr.shl_u64 J J J J 8 J dE (Tr.move J J J (Tr.conv J J J Y5 Y22 (cv_u8_u64 _) (Tr.or_u64 J J J J (Tr.idxArr1 J J J J Y209 Sz22 (k / 8) oM oM (Tr.store1 J J J J J Sz22 Z0 (by (simp [schA_length]; omega)) (by exact set_words _ _ _) zU ?_)))))
   refine Tr.nil (bl_n (at_n (Sat.region (Tr.add_i64 J J J J oM (Tr.move J J J (Tr.nil (at_n ?_)))))))
   exact ⟨k + 1, by omega, by omega, weak_of (wk1 rfl (wk1 rfl (wk1 rfl (wk1 rfl wk0)))) (wh1 Z0 (wh1 Z1 wh0)) nD⟩
  ·
   obtain rfl : k = 128 := by omega
   rw [hA.out]
   clear hlk
   refine Sat.exit (at_x (at_x (bl_h (at_n (Sat.seq (Sat.seq (Sat.region (Tr.assign J J J (Tr.nil (at_n (Sat.block (Sat.loop (ι := Nat) (fun j => ⟨[(3, ptr n3 0), (2, ptr n2 0), (6, i64 (16 + (j : Int)))], [⟨n3, wordsV (schB A j), 209, 80⟩, ⟨n2, wordsV (List.replicate 80 0), 209, 80⟩]⟩) (fun j => j ≤ 64) (fun j => 64 - j) (0) ?_ ?_ ?_))))))))))))
   · omega
   · exact weak_of (wk1 rfl (wk1 rfl (wk1 rfl wk0))) (wh1 Z0 (wh1 Z1 wh0)) nD
   ·
    rintro j hi
    have hlj := schB_length A j
    refine Sat.seq (Sat.seq (Sat.region (Tr.move J J J (Tr.lss J J J J J (Tr.nil (at_n (Sat.condP J (fun hc1 => ?_) (fun hc1 => ?_))))))))
    ·
     refine Sat.skip (at_n (Sat.seq (Sat.block (Sat.seq (Sat.draw [(0, 0), (0, 1), (0, 2), (1, 3), (0, 4), (0, 5), (0, 6), (1, 7), (0, 8), (0, 9)] Mixed zK (Tr.move J J J (Tr.sub_i64 J J J J oM (Tr.idxArr1 J J J J Y209 Sz22 (j + 1) oM oM (Tr.load1 J J J Y22 J Z0 (by exact get_words oM) ?_)))))))))
     refine Tr.move J J J (Tr.sub_i64 J J J J oM (Tr.idxArr1 J J J J Y209 Sz22 (j + 14) oM oM (Tr.load1 J J J Y22 J Z0 (by exact get_words oM) ?_)))
     refine Tr.assign J J J (Tr.assign J J J (Tr.nil (at_n (Sat.seq (Sat.region (Tr.move J J J (Tr.callV J J J J Body238 (bits_rol _ (-1) 63 dE dE dE) (fun _ _ => trivial) (Tr.move J J J (Tr.callV J J J J Body238 (bits_rol _ (-8) 56 dE dE dE) (fun _ _ => trivial) (Tr.xor_u64 J J J J (Tr.move J J J (Tr.shr_u64 J J J J 7 J dE (Tr.xor_u64 J J J J (Tr.assign J J J (Tr.nil (at_n (Sat.seq (Sat.region (Tr.move J J J (Tr.callV J J J J Body238 (bits_rol _ (-19) 45 dE dE dE) (fun _ _ => trivial) (Tr.move J J J (Tr.callV J J J J Body238 (bits_rol _ (-61) 3 dE dE dE) (fun _ _ => trivial) (Tr.xor_u64 J J J J (Tr.move J J J (Tr.shr_u64 J J J J 6 J dE (Tr.xor_u64 J J J J (Tr.assign J J J (Tr.nil (at_n (Sat.draw [(0, 0), (0, 1), (0, 2), (0, 3), (1, 4), (0, 5), (0, 6), (0, 7), (0, 8), (0, 9), (1, 10), (0, 11), (0, 12), (0, 13), (0, 14), (4, 15)] Mixed zK (Tr.move J J J (Tr.move J J J (Tr.sub_i64 J J J J oM (Tr.idxArr1 J J J J Y209 Sz22 j oM oM (Tr.load1 J J J Y22 J Z0 (by exact get_words oM) ?_)))))))))))))))))))))))))))))))))))
     refine Tr.move J J J (Tr.add_u64 J J J J (Tr.move J J J (Tr.sub_i64 J J J J oM (Tr.idxArr1 J J J J Y209 Sz22 (j + 9) oM oM (Tr.load1 J J J Y22 J Z0 (by exact get_words oM) ?_)))))
     refine Tr.add_u64 J J J J (Tr.move J J J (Tr.add_u64 J J J J (Tr.idxArr1 J J J J Y209 Sz22 (16 + j) oM oM (Tr.store1 J J J J J Sz22 Z0 (by (simp [schB_length, hA80]; omega)) (by exact set_words _ _ _) zU ?_))))
     refine Tr.nil (bl_n (at_n (Sat.region (Tr.move J J J (Tr.add_i64 J J J J oM (Tr.assign J J J (Tr.nil (at_n ?_))))))))
     exact ⟨j + 1, by omega, by omega, weak_of (wk1 rfl (wk1 rfl (wk1 (congrArg (fun z => some (i64 z)) oM) wk0))) (wh1 Z0 (wh1 Z1 wh0)) nD⟩
    ·
     obtain rfl : j = 64 := by omega
     rw [hwp.out]
     clear hlj
     refine Sat.exit (at_x (at_x (bl_h (at_n (Sat.seq (Sat.region (Tr.loadAll J J J Y209 J Sz209 Z0 (by (simp [hw80]; done)) ?_)))))))
     refine Tr.storeAll J J J J zB Sz209 (by (simp [hw80]; done)) Z1 sP zV ?_
     refine Tr.nil (at_n (Sat.ret (en_r ?_)))
     refine ⟨_, [], res_cell J J Y209 J Sz209 Z1 (by simp [hw80]), sP, sP, ?_, rfl⟩
     rfl

theorem sha_Kk (k : List UInt64) (hk : Hid (kW = k)) : Meets Tryz.prog 237 [] [] (fun _ => True) (fun v out => v = agg (wordsV k) ∧ out = []) := by
  rw [← hk.out]; exact sha_K
theorem W8.l_length (R : W8) : R.l.length = 8 := rfl

theorem sha_Piece (st : List UInt64) (hst : st.length = 8) (p : List UInt8) (hp : p.length = 128) (A w k : List UInt64) (R : W8) (hA : Hid (schA p 128 = A)) (hwp : Hid (schB A 64 = w)) (hw : w.length = 80) (hk : Hid (kW = k)) (hk80 : k.length = 80) (hR : Hid (rnds k w (W8.of st) 80 = R)) : Meets Tryz.prog 203 [agg (wordsV st), agg (bytesV p)] [] (fun _ => True) (fun v out => v = agg (wordsV (addUp st R.l 8)) ∧ out = []) := by
 intro W hW
 refine calls_of (hp0 := []) Tryz.func203 J 127 Tryz.ntmps203 J (HRep.nil _) (Sat.seq (Sat.region (Tr.boxA J J ?_)))
 intro n2 hn2 hf2
 refine Tr.boxA J J ?_
 intro n3 hn3 hf3
 refine Tr.alloc (cs := (wordsV (List.replicate 8 0))) J Zr135 J ?_
 intro n4 hn4 hf4
 refine Tr.nil (at_n (Sat.seq (Sat.region (Tr.loadAll J J J Tryz.underlying191 J Sz191 Z1 (by (simp [hp]; done)) ?_))))
 refine Tr.callV J J J J Body236 (sha_schedule p hp A w hA hwp) (fun _ _ => trivial) (Tr.callV J J J J Body237 (sha_Kk k hk) (fun _ _ => trivial) (Tr.alloc (cs := (wordsV (List.replicate 80 0))) J Zr209 J ?_))
 intro n5 hn5 hf5
 refine Tr.alloc (cs := (wordsV (List.replicate 80 0))) J Zr209 J ?_
 intro n6 hn6 hf6
 refine Tr.storeAll J J J J zB Sz209 (by (simp [hw]; done)) Z1 sP zV ?_
 refine Tr.storeAll J J J J zB Sz209 (by (simp [hk80]; done)) Z0 sP zU ?_
 refine Tr.nil (at_n (Sat.seq (Sat.draw [(0, 0), (1, 1), (0, 2), (1, 3), (0, 4), (1, 5), (0, 6), (1, 7), (0, 8), (0, 9), (0, 10), (0, 11)] Mixed zK (Tr.idxArr1 J J J J Y135 Sz22 0 J dE (Tr.load1 J J J Y22 J Z4 (by exact get_words oM) ?_)))))
 refine Tr.idxArr1 J J J J Y135 Sz22 1 J dE (Tr.load1 J J J Y22 J Z4 (by exact get_words oM) ?_)
 refine Tr.idxArr1 J J J J Y135 Sz22 2 J dE (Tr.load1 J J J Y22 J Z4 (by exact get_words oM) ?_)
 refine Tr.idxArr1 J J J J Y135 Sz22 3 J dE (Tr.load1 J J J Y22 J Z4 (by exact get_words oM) ?_)
 refine Tr.assign J J J (Tr.assign J J J (Tr.assign J J J (Tr.assign J J J (Tr.nil (at_n (Sat.seq (Sat.draw [(0, 0), (1, 1), (0, 2), (1, 3), (0, 4), (1, 5), (0, 6), (1, 7), (0, 8), (0, 9), (0, 10), (0, 11)] Mixed zK (Tr.idxArr1 J J J J Y135 Sz22 4 J dE (Tr.load1 J J J Y22 J Z4 (by exact get_words oM) ?_)))))))))
 refine Tr.idxArr1 J J J J Y135 Sz22 5 J dE (Tr.load1 J J J Y22 J Z4 (by exact get_words oM) ?_)
 refine Tr.idxArr1 J J J J Y135 Sz22 6 J dE (Tr.load1 J J J Y22 J Z4 (by exact get_words oM) ?_)
 refine Tr.idxArr1 J J J J Y135 Sz22 7 J dE (Tr.load1 J J J Y22 J Z4 (by exact get_words oM) ?_)
 refine Tr.assign J J J (Tr.assign J J J (Tr.assign J J J (Tr.assign J J J (Tr.nil (at_n (Sat.seq (Sat.seq (Sat.region (Tr.move J J J (Tr.nil (at_n (Sat.block (Sat.loop (ι := Nat) (fun t => ⟨[(2, ptr n2 0), (4, ptr n4 0), (5, ptr n5 0), (6, ptr n6 0), (7, u64 (rnds k w (W8.of st) t).a), (8, u64 (rnds k w (W8.of st) t).b), (9, u64 (rnds k w (W8.of st) t).c), (10, u64 (rnds k w (W8.of st) t).d), (11, u64 (rnds k w (W8.of st) t).e), (12, u64 (rnds k w (W8.of st) t).f), (13, u64 (rnds k w (W8.of st) t).g), (14, u64 (rnds k w (W8.of st) t).h), (41, i64 (t : Int))], [⟨n6, wordsV k, 209, 80⟩, ⟨n5, wordsV w, 209, 80⟩, ⟨n4, wordsV (List.replicate 8 0), 135, 8⟩, ⟨n2, wordsV st, 135, (wordsV st).length⟩]⟩) (fun t => t ≤ 80) (fun t => 80 - t) (0) ?_ ?_ ?_)))))))))))))
 · omega
 · exact weak_of (wk1 rfl (wk1 rfl (wk1 rfl (wk1 rfl (wk1 rfl (wk1 rfl (wk1 rfl (wk1 rfl (wk1 rfl (wk1 rfl (wk1 rfl (wk1 rfl (wk1 rfl wk0))))))))))))) (wh1 Z0 (wh1 Z1 (wh1 Z2 (wh1 Z4 wh0)))) nD
 ·
  rintro t hi
  refine Sat.seq (Sat.region (Tr.lss J J J J J (Tr.nil (at_n (Sat.seq (Sat.condP J (fun hc0 => ?_) (fun hc0 => ?_)))))))
  ·
   refine Sat.skip (at_n (Sat.seq (Sat.block (Sat.seq (Sat.region (Tr.move J J J (Tr.assign J J J (Tr.nil (at_n (Sat.seq (Sat.region (Tr.move J J J (Tr.callV J J J J Body238 (bits_rol _ (-14) 50 dE dE dE) (fun _ _ => trivial) (Tr.move J J J (Tr.callV J J J J Body238 (bits_rol _ (-18) 46 dE dE dE) (fun _ _ => trivial) (Tr.xor_u64 J J J J (Tr.move J J J (Tr.callV J J J J Body238 (bits_rol _ (-41) 23 dE dE dE) (fun _ _ => trivial) (Tr.xor_u64 J J J J (Tr.assign J J J (Tr.nil (at_n (Sat.seq (Sat.draw [(0, 0), (0, 1), (0, 2), (0, 3), (0, 4), (0, 5), (0, 6), (0, 7), (0, 8), (0, 9), (0, 10), (0, 11), (0, 12), (0, 13), (1, 14), (0, 15), (0, 16), (0, 17), (1, 18), (0, 19), (0, 20)] Mixed zK (Tr.move J J J (Tr.move J J J (Tr.add_u64 J J J J (Tr.move J J J (Tr.move J J J (Tr.and_u64 J J J J (Tr.move J J J (Tr.not_u64 J J J (Tr.move J J J (Tr.and_u64 J J J J (Tr.xor_u64 J J J J (Tr.add_u64 J J J J (Tr.move J J J (Tr.idxArr1 J J J J Y209 Sz22 _ J oM (Tr.load1 J J J Y22 J Z0 (by exact get_words oM) ?_)))))))))))))))))))))))))))))))))))))))
   refine Tr.add_u64 J J J J (Tr.move J J J (Tr.idxArr1 J J J J Y209 Sz22 _ J oM (Tr.load1 J J J Y22 J Z1 (by exact get_words oM) ?_)))
   refine Tr.add_u64 J J J J (Tr.assign J J J (Tr.nil (at_n (Sat.seq (Sat.region (Tr.move J J J (Tr.callV J J J J Body238 (bits_rol _ (-28) 36 dE dE dE) (fun _ _ => trivial) (Tr.move J J J (Tr.callV J J J J Body238 (bits_rol _ (-34) 30 dE dE dE) (fun _ _ => trivial) (Tr.xor_u64 J J J J (Tr.move J J J (Tr.callV J J J J Body238 (bits_rol _ (-39) 25 dE dE dE) (fun _ _ => trivial) (Tr.xor_u64 J J J J (Tr.assign J J J (Tr.nil (at_n (Sat.seq (Sat.region (Tr.move J J J (Tr.move J J J (Tr.move J J J (Tr.and_u64 J J J J (Tr.move J J J (Tr.move J J J (Tr.and_u64 J J J J (Tr.xor_u64 J J J J (Tr.move J J J (Tr.move J J J (Tr.and_u64 J J J J (Tr.xor_u64 J J J J (Tr.add_u64 J J J J (Tr.assign J J J (Tr.nil (at_n (Sat.region (Tr.move J J J (Tr.move J J J (Tr.add_u64 J J J J (Tr.move J J J (Tr.move J J J (Tr.move J J J (Tr.move J J J (Tr.move J J J (Tr.add_u64 J J J J (Tr.move J J J (Tr.move J J J (Tr.move J J J (Tr.assign J J J (Tr.assign J J J (Tr.assign J J J (Tr.assign J J J (Tr.assign J J J (Tr.assign J J J (Tr.assign J J J (Tr.assign J J J (Tr.nil (bl_n (at_n (Sat.region (Tr.add_i64 J J J J oM (Tr.move J J J (Tr.nil (at_n ?_)))))))))))))))))))))))))))))))))))))))))))))))))))))))))))))))
   exact ⟨t + 1, by omega, by omega, weak_of (wk1 rfl (wk1 rfl (wk1 rfl (wk1 rfl (wk1 rfl (wk1 rfl (wk1 rfl (wk1 rfl (wk1 rfl (wk1 rfl (wk1 rfl (wk1 rfl (wk1 rfl wk0))))))))))))) (wh1 Z0 (wh1 Z1 (wh1 Z2 (wh1 Z3 wh0)))) nD⟩
  ·
   obtain rfl : t = 80 := by omega
   rw [hR.out]
   refine Sat.exit (at_x (at_x (bl_h (at_n (Sat.seq (Sat.seq (Sat.region (Tr.move J J J (Tr.move J J J (Tr.move J J J (Tr.move J J J (Tr.move J J J (Tr.move J J J (Tr.move J J J (Tr.move J J J (Tr.build (cs := wordsV R.l) J J J (fun w => by kernel_rfl) ?_))))))))))))))))
   refine Tr.move J J J (Tr.nil (at_n (Sat.block (Sat.loop (ι := Nat) (fun i => ⟨[(2, ptr n2 0), (4, ptr n4 0), (114, agg (wordsV R.l)), (115, i64 (i : Int))], [⟨n4, wordsV (List.replicate 8 0), 135, 8⟩, ⟨n2, wordsV (addUp st R.l i), 135, (wordsV st).length⟩]⟩) (fun i => i ≤ 8) (fun i => 8 - i) (0) ?_ ?_ ?_))))
   · omega
   · exact weak_of (wk1 rfl (wk1 rfl (wk1 rfl (wk1 rfl wk0)))) (wh1 Z2 (wh1 Z3 wh0)) nD
   ·
    rintro i hi
    have hli := addUp_length st R.l i
    have hRl := W8.l_length R
    refine Sat.seq (Sat.region (Tr.lss J J J J J (Tr.nil (at_n (Sat.seq (Sat.condP J (fun hc1 => ?_) (fun hc1 => ?_)))))))
    ·
     refine Sat.skip (at_n (Sat.seq (Sat.block (Sat.seq (Sat.region (Tr.move J J J (Tr.idxA1 J J J J Y135 Sz22 Y22 J _ J oM (by exact get_words oM) ?_)))))))
     refine Tr.assign J J J (Tr.assign J J J (Tr.nil (at_n (Sat.region (Tr.move J J J (Tr.idxArr1 J J J J Y135 Sz22 _ J oM (Tr.load1 J J J Y22 J Z1 (by exact get_words oM) ?_)))))))
     refine Tr.move J J J (Tr.add_u64 J J J J (Tr.idxArr1 J J J J Y135 Sz22 _ J oM (Tr.store1 J J J J J Sz22 Z1 (by (simp [hst, addUp_length]; omega)) (by exact set_words _ _ _) zV ?_)))
     refine Tr.nil (bl_n (at_n (Sat.region (Tr.add_i64 J J J J oM (Tr.move J J J (Tr.nil (at_n ?_)))))))
     exact ⟨i + 1, by omega, by omega, weak_of (wk1 rfl (wk1 rfl (wk1 rfl (wk1 rfl wk0)))) (wh1 Z0 (wh1 Z1 wh0)) nD⟩
    ·
     obtain rfl : i = 8 := by omega
     refine Sat.exit (at_x (at_x (bl_h (at_n (Sat.seq (Sat.region (Tr.loadAll J J J Y135 J Sz135 Z1 (by (simp [hst, addUp_length]; done)) ?_)))))))
     refine Tr.storeAll J J J J zB Sz135 (by (simp [hst, addUp_length]; done)) Z0 sP zU ?_
     refine Tr.nil (at_n (Sat.ret (en_r ?_)))
     refine ⟨_, [], res_cell J J Y135 J Sz135 Z0 (by simp [hst, addUp_length]), sP, sP, ?_, rfl⟩
     rfl

theorem sha_sum (st : List UInt64) (hst : st.length = 8) (s : List UInt8) (hs : Hid (sumUp st 64 = s)) : Meets Tryz.prog 126 [agg (wordsV st)] [] (fun _ => True) (fun v out => v = agg (bytesV s) ∧ out = []) := by
 intro W hW
 have hs64 : s.length = 64 := by rw [← hs.out]; exact sumUp_length st 64
 refine calls_of (hp0 := []) Tryz.func126 J 22 Tryz.ntmps126 J (HRep.nil _) (Sat.seq (Sat.region (Tr.boxA J J ?_)))
 intro n1 hn1 hf1
 refine Tr.alloc (cs := (bytesV (List.replicate 64 0))) J Zr26 J ?_
 intro n2 hn2 hf2
 refine Tr.nil (at_n (Sat.seq (Sat.region (Tr.alloc (cs := (bytesV (List.replicate 64 0))) J Zr26 J ?_))))
 intro n3 hn3 hf3
 refine Tr.nil (at_n (Sat.seq (Sat.seq (Sat.region (Tr.move J J J (Tr.nil (at_n (Sat.block (Sat.loop (ι := Nat) (fun k => ⟨[(1, ptr n1 0), (2, ptr n2 0), (3, ptr n3 0), (5, i64 (k : Int))], [⟨n3, bytesV (sumUp st k), 26, 64⟩, ⟨n2, bytesV (List.replicate 64 0), 26, 64⟩, ⟨n1, wordsV st, 135, (wordsV st).length⟩]⟩) (fun k => k ≤ 64) (fun k => 64 - k) (0) ?_ ?_ ?_)))))))))
 · omega
 · exact weak_of (wk1 rfl (wk1 rfl (wk1 rfl (wk1 rfl wk0)))) (wh1 Z0 (wh1 Z1 (wh1 Z2 wh0))) nD
 ·
  rintro k hi
  have hlk := sumUp_length st k
  refine Sat.seq (Sat.region (Tr.lss J J J J J (Tr.nil (at_n (Sat.seq (Sat.condP J (fun hc0 => ?_) (fun hc0 => ?_)))))))
  ·
   refine Sat.skip (at_n (Sat.seq (Sat.block (Sat.seq (Sat.region (Tr.move J J J (Tr.assign J J J (Tr.nil (at_n (Sat.region (Tr.move J J J (Tr.move J J J (Tr.quo_i64 J J J J oM (Tr.idxArr1 J J J J Y135 Sz22 (k / 8) oM oM (Tr.load1 J J J Y22 J Z2 (by exact get_words oM) ?_)))))))))))))))
   refine Tr.move J J J (Tr.rem_i64 J J J J oM (Tr.mul_i64 J J J J oM (Tr.sub_i64 J J J J oM (Tr.shr_u64 J J J J (56 - 8 * (k % 8)) oM oM (Tr.conv J J J Y22 Y5 (cv_u64_u8 _) (Tr.idxArr1 J J J J Y26 Sz5 _ J oM (Tr.store1 J J J J J Sz5 Z0 (by (simp [sumUp_length]; omega)) (by exact set_bytes _ _ _) zU ?_)))))))
   refine Tr.nil (bl_n (at_n (Sat.region (Tr.add_i64 J J J J oM (Tr.move J J J (Tr.nil (at_n ?_)))))))
   exact ⟨k + 1, by omega, by omega, weak_of (wk1 rfl (wk1 rfl (wk1 rfl (wk1 rfl wk0)))) (wh1 Z0 (wh1 Z1 (wh1 Z2 wh0))) nD⟩
  ·
   obtain rfl : k = 64 := by omega
   rw [hs.out]
   clear hlk
   refine Sat.exit (at_x (at_x (bl_h (at_n (Sat.seq (Sat.region (Tr.loadAll J J J Y26 J Sz26 Z0 (by (simp [hs64]; done)) ?_)))))))
   refine Tr.storeAll J J J J zE Sz26 (by (simp [hs64]; done)) Z1 sP zV ?_
   refine Tr.nil (at_n (Sat.ret (en_r ?_)))
   refine ⟨_, [], res_cell J J Y26 J Sz26 Z1 (by simp [hs64]), sP, sP, ?_, rfl⟩
   rfl

end Go.Proofs.YtpacobmjjjillaaGreat
end

section
namespace Go.Proofs.YtpacobmjjjillaaGreat
open Go Hw
set_option linter.unusedVariables false
set_option linter.unusedSimpArgs false

theorem and_low {x : UInt64} (h : x.toNat < 4294967296) : x &&& 4294967295 = x := by
  apply UInt64.toNat_inj.1
  rw [UInt64.toNat_and]
  show x.toNat &&& (2 ^ 32 - 1) = x.toNat
  rw [Nat.and_two_pow_sub_one_eq_mod, Nat.mod_eq_of_lt oM]
theorem shr_small {x : UInt64} {n : Nat} (h : x.toNat < 2 ^ n) : shr64 x n = 0 := by
  apply UInt64.toNat_inj.1
  rw [shr64_nat, Nat.div_eq_of_lt h]; rfl
theorem mul8_nat {x : UInt64} (h : x.toNat < 536870912) : (x * 8).toNat = x.toNat * 8 := by
  rw [UInt64.toNat_mul]; show x.toNat * 8 % 18446744073709551616 = _; omega

theorem bits_mul8 (x : UInt64) (hx : x.toNat < 536870912) : Meets Tryz.prog 163 [u64 x, u64 8] [] (fun _ => True) (fun v out => v = .tuple #[u64 0, u64 (x * 8)] ∧ out = []) := by
 intro W hW
 have h1 := and_low (x := x) oM
 have h2 := shr_small (x := x) (n := 32) oM
 have h3 := mul8_nat hx
 have h4 := shr_small (x := x * 8) (n := 32) oM
 refine calls_of (hp0 := []) Tryz.func163 J 51 Tryz.ntmps163 J (HRep.nil _) (Sat.seq (Sat.region (Tr.assign J J (show evIn _ _ = some (u64 0) from rfl) (Tr.assign J J (show evIn _ _ = some (u64 0) from rfl) (Tr.nil (at_n (Sat.seq (Sat.region (Tr.move J J J (Tr.and_u64 J J J (show evIn _ _ = some (u64 4294967295) from rfl) (Tr.assign J J J (Tr.nil (at_n (Sat.seq (Sat.region (Tr.move J J J (Tr.shr_u64 J J J J 32 oM oM (Tr.assign J J J (Tr.nil (at_n (Sat.seq (Sat.region (Tr.move J J J (Tr.and_u64 J J J (show evIn _ _ = some (u64 4294967295) from rfl) (Tr.assign J J J (Tr.nil (at_n (Sat.seq (Sat.region (Tr.move J J J (Tr.shr_u64 J J (show evIn _ _ = some (u64 8) from rfl) J 32 oM oM (Tr.assign J J J (Tr.nil (at_n (Sat.seq (Sat.region (Tr.move J J J (Tr.move J J J (Tr.mul_u64 J J J J (Tr.assign J J J (Tr.nil (at_n (Sat.seq (Sat.region (Tr.move J J J (Tr.move J J J (Tr.mul_u64 J J J J (Tr.move J J J (Tr.shr_u64 J J J J 32 J dE (Tr.add_u64 J J J J (Tr.assign J J J (Tr.nil (at_n (Sat.seq (Sat.region (Tr.move J J J (Tr.and_u64 J J J (show evIn _ _ = some (u64 4294967295) from rfl) (Tr.assign J J J (Tr.nil (at_n (Sat.seq (Sat.region (Tr.move J J J (Tr.shr_u64 J J J J 32 J dE (Tr.assign J J J (Tr.nil (at_n (Sat.seq (Sat.region (Tr.move J J J (Tr.move J J J (Tr.move J J J (Tr.mul_u64 J J J J (Tr.add_u64 J J J J (Tr.assign J J J (Tr.nil (at_n (Sat.seq (Sat.region (Tr.move J J J (Tr.move J J J (Tr.mul_u64 J J J J (Tr.move J J J (Tr.add_u64 J J J J (Tr.move J J J (Tr.shr_u64 J J J J 32 J dE (Tr.add_u64 J J J J (Tr.assign J J J (Tr.nil (at_n (Sat.seq (Sat.region (Tr.move J J J (Tr.move J J J (Tr.mul_u64 J J J J (Tr.assign J J J (Tr.nil (at_n (Sat.ret (en_r ?_))))))))))))))))))))))))))))))))))))))))))))))))))))))))))))))))))))))))))))))))))))))))))))))))))))
 refine ⟨_, [], res_tmp2 J J J, sP, sP, ?_, rfl⟩
 simp only [h1, h2, show shr64 8 32 = 0 from rfl, show (8 : UInt64) &&& 4294967295 = 8 from rfl]
 rw [h4, UInt64.mul_zero (a := x)]
 rfl

theorem bytesV_app (a b : List UInt8) : bytesV (a ++ b) = bytesV a ++ bytesV b := List.map_append
theorem sl_get {ss : List Sl} {j : Nat} (h : j < ss.length) : (ss.map Sl.v)[j]? = some (ss.getD j Sl.nil).v := by simp [List.getElem?_eq_getElem h, List.getD]
theorem take_flat {ls : List (List UInt8)} {j : Nat} (h : j < ls.length) : (ls.take (j + 1)).flatten = (ls.take j).flatten ++ ls.getD j [] := by
  rw [List.take_succ_eq_append_getElem h, List.flatten_append]
  simp [List.getD, h]
theorem take_flat_le (ls : List (List UInt8)) (j : Nat) : (ls.take j).flatten.length ≤ ls.flatten.length := by
  have : ls.flatten = (ls.take j).flatten ++ (ls.drop j).flatten := by rw [← List.flatten_append, List.take_append_drop]
  rw [this, List.length_append]; omega

theorem sha_padded (p : Option Addr) (n c : Nat) (ss : List Sl) (ls : List (List UInt8)) (hss : ss.length = n) (hls : ls.length = n) (hsl : ∀ j, j < n → (ss.getD j Sl.nil).n = (ls.getD j []).length ∧ ((ss.getD j Sl.nil).p = none → (ss.getD j Sl.nil).n = 0)) (F : List UInt8) (hF : ls.flatten = F) (htot : F.length ≤ 90000) (hn : n ≤ 1000000) : Meets Tryz.prog 202 [.slice p n c] [] (fun W => SeesP W p (ss.map Sl.v) ∧ ∀ j, j < n → SeesP W (ss.getD j Sl.nil).p (bytesV (ls.getD j []))) (fun v out => ∃ s, v = s.v ∧ Acc s out (bytesV (padB F)) 5 (padB F).length 1) := by
 intro W hW
 have hz := padZ_lt F.length
 have hle := take_flat_le ls
 rw [hF] at hle
 refine calls_of (hp0 := []) Tryz.func202 J 76 Tryz.ntmps202 J (HRep.nil _) (Sat.seq (Sat.region (Tr.assign J J J (Tr.nil (at_n (Sat.seq (Sat.region (Tr.assign J J J (Tr.nil (at_n (Sat.seq (Sat.seq (Sat.region (Tr.move J J J (Tr.lenSl J J J Y133 (Tr.move J J J (Tr.nil (at_n (Sat.block (Sat.loop (ι := Nat) (fun k => ⟨[(0, .slice p n c), (3, i64 ((ls.take k).flatten.length : Int)), (14, .slice p n c), (15, i64 (n : Int)), (16, i64 (k : Int))], []⟩) (fun k => k ≤ n) (fun k => n - k) (0) ?_ ?_ ?_))))))))))))))))))))
 · omega
 · exact weak_perm (wk1 rfl (wk1 rfl (wk1 rfl (wk1 rfl (wk1 rfl wk0))))) pm_nil
 ·
  rintro k hi
  refine Sat.seq (Sat.region (Tr.lss J J J J J (Tr.nil (at_n (Sat.seq (Sat.condP J (fun hc0 => ?_) (fun hc0 => ?_)))))))
  ·
   have hk3 : k < n := by omega
   obtain ⟨b, o, hbp, hbs⟩ := hW.1.at (by rw [List.length_map]; omega)
   have hv : W.cell? ⟨b, o + k * 1, none⟩ = some (ss.getD k Sl.nil).v := by rw [Nat.mul_one]; exact hbs k _ (sl_get oM)
   have hstep := hle (k + 1)
   rw [take_flat oM, List.length_append, ← (hsl k oM).1] at hstep
   refine Sat.skip (at_n (Sat.seq (Sat.block (Sat.seq (Sat.region (Tr.idxSlP 1 J J J hbp J Y133 Sz39 k J oM (Tr.loadE J J J Y39 J sP (hv) (Tr.assign J J J (Tr.nil (at_n (Sat.region (Tr.move J J J (Tr.move J J J (Tr.lenSl J J J Y39 (Tr.add_i64 J J J J oM (Tr.assign J J J (Tr.nil (bl_n (at_n (Sat.region (Tr.add_i64 J J J J oM (Tr.move J J J (Tr.nil (at_n ?_))))))))))))))))))))))))
   exact ⟨k + 1, by omega, by omega, weak_perm (wk1 rfl (wk1 (congrArg (fun z => some (i64 z)) (by rw [take_flat oM, List.length_append, (hsl k oM).1]; simp)) (wk1 rfl (wk1 rfl (wk1 rfl wk0))))) pm_nil⟩
  ·
   have hk3 : k = n := by omega
   rw [hk3, List.take_of_length_le oM, hF]
   refine Sat.exit (at_x (at_x (bl_h (at_n (Sat.seq (Sat.region (Tr.move J J J (Tr.add_i64 J J J J oM (Tr.quo_i64 J J J J oM (Tr.mul_i64 J J J J oM (Tr.add_i64 J J J J oM (Tr.mkRoom (z := u8 0) (by' := 1) ((F.length + 16) / 128 * 128 + 128) J J J J oM Y39 Sz5 Zr5 (by unfold By; kernel_rfl) J oM oM ?_))))))))))))
   intro q30
   refine Tr.assign J J J (Tr.nil (at_n (Sat.seq (Sat.seq (Sat.region (Tr.move J J J (Tr.lenSl J J J Y133 (Tr.move J J J (Tr.nil (at_n (Sat.block (Sat.loop (ι := Nat × Sl × List Blk) (fun x => ⟨[(3, i64 (F.length : Int)), (6, x.2.1.v), (31, .slice p n c), (32, i64 (n : Int)), (33, i64 (x.1 : Int))], (x.2.2 ++ [])⟩) (fun x => x.1 ≤ n ∧ Acc x.2.1 x.2.2 (bytesV (ls.take x.1).flatten) 5 (ls.take x.1).flatten.length 1) (fun x => n - x.1) ((0, ⟨some ⟨q30, 0, none⟩, 0, (F.length + 16) / 128 * 128 + 128⟩, [⟨q30, [], 5, ((F.length + 16) / 128 * 128 + 128) * 1⟩])) ?_ ?_ ?_))))))))))))
   · exact ⟨Nat.zero_le _, Acc.some (Nat.zero_le _) rfl⟩
   · exact weak_perm (wk1 rfl (wk1 rfl (wk1 rfl (wk1 rfl (wk1 rfl wk0))))) (pm_consE rM rfl (Nat.mul_one _).symm pm_nil)
   ·
    rintro x ⟨hx, hax⟩
    refine Sat.seq (Sat.region (Tr.lss J J J J J (Tr.nil (at_n (Sat.seq (Sat.condP J (fun hc1 => ?_) (fun hc1 => ?_)))))))
    ·
     have hx3 : x.1 < n := by omega
     obtain ⟨b, o, hbp, hbs⟩ := hW.1.at (by rw [List.length_map]; omega)
     have hv : W.cell? ⟨b, o + x.1 * 1, none⟩ = some (ss.getD x.1 Sl.nil).v := by rw [Nat.mul_one]; exact hbs x.1 _ (sl_get oM)
     have hstep := hle (x.1 + 1)
     rw [take_flat oM, List.length_append, ← (hsl x.1 oM).1] at hstep
     refine Sat.skip (at_n (Sat.seq (Sat.block (Sat.seq (Sat.region (Tr.idxSlP 1 J J J hbp J Y133 Sz39 x.1 J oM (Tr.loadE J J J Y39 J sP (hv) (Tr.assign J J J (Tr.nil (at_n (Sat.region (Tr.move J J J (Tr.move J J J (Tr.appendAcc (z := u8 0) (by' := 1) (bytesV (ls.getD x.1 [])) J J J J J Y39 Y39 Sz5 Zr5 (by unfold By; kernel_rfl) J hax sG (fun w h => seesP_ext h J (hW.2 x.1 oM)) (hsl x.1 oM).2 (bytesV_cell _) oM oM (by rw [bytesV, List.length_map, Nat.mul_one]; exact (hsl x.1 oM).1.symm) ?_))))))))))))))
     intro s39 bl39 hac39
     refine Tr.assign J J J (Tr.nil (bl_n (at_n (Sat.region (Tr.add_i64 J J J J oM (Tr.move J J J (Tr.nil (at_n ?_))))))))
     refine ⟨(x.1 + 1, s39, bl39), ⟨by simp only []; omega, ?_⟩, by simp only []; omega, weak_perm (wk1 J (wk1 J (wk1 J (wk1 J (wk1 J wk0))))) (pm_seg sG pm_nil)⟩
     rw [take_flat oM, List.length_append, ← (hsl x.1 oM).1]
     simpa [bytesV] using hac39
    ·
     have hx3 : x.1 = n := by omega
     rw [hx3, List.take_of_length_le oM, hF] at hax
     refine Sat.exit (at_x (at_x (bl_h (at_n (Sat.seq (Sat.region (Tr.move J J J (Tr.mkRow (z := u8 0) [u8 (128)] (bytesV [128]) J J J Y39 Sz5 Zr5 J J (by intro v hv; rw [List.mem_singleton.1 hv]; rfl) dE J ?_))))))))
     intro q42
     refine Tr.appendAcc (z := u8 0) (by' := 1) (bytesV [128]) J J J J J Y39 Y39 Sz5 Zr5 (by unfold By; kernel_rfl) J hax (by repeat (first | exact sg_here | apply sg_there)) (fun w h => SeesP.of (sees_own h Z0)) (fun e => by cases e) (bytesV_cell _) oM oM (by rfl) ?_
     intro s43 bl43 hac43
     refine Tr.assign J J J (Tr.nil (at_n (Sat.seq (Sat.block (Sat.loop (ι := Nat × Sl × List Blk) (fun z => ⟨[(3, i64 (F.length : Int)), (6, z.2.1.v)], (z.2.2 ++ [])⟩) (fun z => z.1 ≤ padZ F.length ∧ Acc z.2.1 z.2.2 (bytesV (F ++ [128] ++ List.replicate z.1 0)) 5 (F.length + 1 + z.1) 1) (fun z => padZ F.length - z.1) ((0, s43, bl43)) ?_ ?_ ?_)))))
     · exact ⟨Nat.zero_le _, by simpa [bytesV] using hac43⟩
     · exact weak_perm (wk1 rfl (wk1 rfl wk0)) (pm_seg sG pm_nil)
     ·
      rintro z ⟨hz1, haz⟩
      have hzn := haz.num
      have hpz := padZ_at F.length z.1 hz1
      refine Sat.seq (Sat.seq (Sat.region (Tr.move J J J (Tr.lenSl J J J Y39 (Tr.rem_i64 J J J J oM (Tr.nei J J J J J (Tr.nil (at_n (Sat.condNP J (fun hc2 => ?_) (fun hc2 => ?_))))))))))
      ·
       have hz3 : z.1 < padZ F.length := by omega
       refine Sat.skip (at_n (Sat.block (Sat.region (Tr.move J J J (Tr.mkRow (z := u8 0) [u8 (0)] (bytesV [0]) J J J Y39 Sz5 Zr5 J J (by intro v hv; rw [List.mem_singleton.1 hv]; rfl) dE J ?_)))))
       intro q49
       refine Tr.appendAcc (z := u8 0) (by' := 1) (bytesV [0]) J J J J J Y39 Y39 Sz5 Zr5 (by unfold By; kernel_rfl) J haz (by repeat (first | exact sg_here | apply sg_there)) (fun w h => SeesP.of (sees_own h Z0)) (fun e => by cases e) (bytesV_cell _) oM oM (by rfl) ?_
       intro s50 bl50 hac50
       refine Tr.assign J J J (Tr.nil (bl_n (at_n ?_)))
       refine ⟨(z.1 + 1, s50, bl50), ⟨by simp only []; omega, ?_⟩, by simp only []; omega, weak_perm (wk1 J (wk1 J wk0)) (pm_seg sG pm_nil)⟩
       rw [List.replicate_succ', ← List.append_assoc]
       simpa [bytesV, Nat.add_assoc] using hac50
      ·
       have hz3 : z.1 = padZ F.length := by omega
       rw [hz3] at haz
       refine Sat.exit (at_x (at_x (bl_h (at_n (Sat.seq (Sat.region (Tr.move J J J (Tr.conv J J J Y3 Y22 (cv_i64_u64 _) ?_))))))))
       rw [word_nat (n := F.length) oM]
       refine Tr.callV J J J J Body163 (bits_mul8 (UInt64.ofNat F.length) (by rw [ofNat_nat oM]; omega)) (fun _ _ => trivial) ?_
       refine Tr.move J J J (Tr.extract J J J J (Tr.extract J J J J (Tr.assign J J J (Tr.assign J J J (Tr.nil (at_n (Sat.seq (Sat.seq (Sat.region (Tr.move J J J (Tr.move J J J (Tr.build (cs := [u64 0, u64 (UInt64.ofNat F.length * 8)]) J J J (fun w => by kernel_rfl) ?_))))))))))))
       refine Tr.move J J J (Tr.nil (at_n (Sat.block (Sat.rounds 3 (SRounds.more (Sat.seq (Sat.region (Tr.lss J J J J J (Tr.nil (at_n (Sat.seq (Sat.cond_t J (rfl) (Sat.skip (at_n (Sat.seq (Sat.block (Sat.seq (Sat.region (Tr.idxA1 J J J J Tryz.underlying208 Sz22 Y22 J 0 J oM J (Tr.assign J J J (Tr.nil (at_n (Sat.seq (Sat.region (Tr.assign J J J (Tr.nil (at_n (Sat.block (Sat.loop (ι := Nat × Sl × List Blk) (fun y => ⟨[(3, i64 (F.length : Int)), (6, y.2.1.v), (12, u64 (0)), (13, i64 (56 - 8 * (y.1 : Int))), (59, agg [u64 0, u64 (UInt64.ofNat F.length * 8)]), (60, i64 0)], (y.2.2 ++ [])⟩) (fun y => y.1 ≤ 8 ∧ Acc y.2.1 y.2.2 (bytesV (F ++ [128] ++ List.replicate (padZ F.length) 0 ++ beUp (0) y.1)) 5 ((F.length + 1 + padZ F.length) + y.1) 1) (fun y => 8 - y.1) ((0, z.2.1, z.2.2)) ?_ ?_ ?_)))))))))))))))))))))))))))))
       · exact ⟨Nat.zero_le _, by simpa [beUp] using haz⟩
       · exact weak_perm (wk1 rfl (wk1 rfl (wk1 rfl (wk1 rfl (wk1 rfl (wk1 rfl wk0)))))) (pm_seg sG pm_nil)
       ·
        rintro y ⟨hy, hay⟩
        refine Sat.seq (Sat.seq (Sat.region (Tr.move J J J (Tr.geq J J J J J (Tr.nil (at_n (Sat.condP J (fun hc4 => ?_) (fun hc4 => ?_))))))))
        ·
         have hy3 : y.1 ≤ 7 := by omega
         refine Sat.skip (at_n (Sat.seq (Sat.block (Sat.region (Tr.move J J J (Tr.move J J J (Tr.move J J J (Tr.shr_u64 J J J J (56 - 8 * y.1) oM oM (Tr.conv J J J Y22 Y5 (cv_u64_u8 _) (Tr.mkRow (z := u8 0) [u8 ((shr64 0 (56 - 8 * y.1)).toUInt8)] (bytesV [(shr64 0 (56 - 8 * y.1)).toUInt8]) J J J Y39 Sz5 Zr5 J J (by intro v hv; rw [List.mem_singleton.1 hv]; rfl) dE J ?_))))))))))
         intro q72
         refine Tr.appendAcc (z := u8 0) (by' := 1) (bytesV [(shr64 0 (56 - 8 * y.1)).toUInt8]) J J J J J Y39 Y39 Sz5 Zr5 (by unfold By; kernel_rfl) J hay (by repeat (first | exact sg_here | apply sg_there)) (fun w h => SeesP.of (sees_own h Z0)) (fun e => by cases e) (bytesV_cell _) oM oM (by rfl) ?_
         intro s73 bl73 hac73
         refine Tr.assign J J J (Tr.nil (bl_n (at_n (Sat.region (Tr.move J J J (Tr.sub_i64 J J J J oM (Tr.assign J J J (Tr.nil (at_n ?_)))))))))
         refine ⟨(y.1 + 1, s73, bl73), ⟨by simp only []; omega, ?_⟩, by simp only []; omega, weak_perm (wk1 J (wk1 J (wk1 J (wk1 (congrArg (fun z => some (i64 z)) oM) (wk1 J (wk1 J wk0)))))) (pm_seg sG pm_nil)⟩
         rw [show beUp (0) (y.1 + 1) = beUp (0) y.1 ++ [(shr64 (0) (56 - 8 * y.1)).toUInt8] from rfl, ← List.append_assoc, bytesV_app]
         exact hac73
        ·
         have hy3 : y.1 = 8 := by omega
         rw [hy3] at hay
         refine Sat.exit (at_x (at_x (bl_h (bl_n (at_n (Sat.region (Tr.add_i64 J J J J oM (Tr.move J J J (Tr.nil (at_n (SRounds.more (Sat.seq (Sat.region (Tr.lss J J J J J (Tr.nil (at_n (Sat.seq (Sat.cond_t J (rfl) (Sat.skip (at_n (Sat.seq (Sat.block (Sat.seq (Sat.region (Tr.idxA1 J J J J Tryz.underlying208 Sz22 Y22 J 1 J oM J (Tr.assign J J J (Tr.nil (at_n (Sat.seq (Sat.region (Tr.assign J J J (Tr.nil (at_n (Sat.block (Sat.loop (ι := Nat × Sl × List Blk) (fun y => ⟨[(3, i64 (F.length : Int)), (6, y.2.1.v), (12, u64 (UInt64.ofNat F.length * 8)), (13, i64 (56 - 8 * (y.1 : Int))), (59, agg [u64 0, u64 (UInt64.ofNat F.length * 8)]), (60, i64 (0 + 1))], (y.2.2 ++ [])⟩) (fun y => y.1 ≤ 8 ∧ Acc y.2.1 y.2.2 (bytesV (F ++ [128] ++ List.replicate (padZ F.length) 0 ++ beUp 0 8 ++ beUp (UInt64.ofNat F.length * 8) y.1)) 5 ((F.length + 1 + padZ F.length + 8) + y.1) 1) (fun y => 8 - y.1) ((0, y.2.1, y.2.2)) ?_ ?_ ?_)))))))))))))))))))))))))))))))))))
         · exact ⟨Nat.zero_le _, by simpa [beUp] using hay⟩
         · exact weak_perm (wk1 rfl (wk1 rfl (wk1 rfl (wk1 rfl (wk1 rfl (wk1 rfl wk0)))))) (pm_seg sG pm_nil)
         ·
          rintro y ⟨hy, hay⟩
          refine Sat.seq (Sat.seq (Sat.region (Tr.move J J J (Tr.geq J J J J J (Tr.nil (at_n (Sat.condP J (fun hc4 => ?_) (fun hc4 => ?_))))))))
          ·
           have hy3 : y.1 ≤ 7 := by omega
           refine Sat.skip (at_n (Sat.seq (Sat.block (Sat.region (Tr.move J J J (Tr.move J J J (Tr.move J J J (Tr.shr_u64 J J J J (56 - 8 * y.1) oM oM (Tr.conv J J J Y22 Y5 (cv_u64_u8 _) (Tr.mkRow (z := u8 0) [u8 ((shr64 (UInt64.ofNat F.length * 8) (56 - 8 * y.1)).toUInt8)] (bytesV [(shr64 (UInt64.ofNat F.length * 8) (56 - 8 * y.1)).toUInt8]) J J J Y39 Sz5 Zr5 J J (by intro v hv; rw [List.mem_singleton.1 hv]; rfl) dE J ?_))))))))))
           intro q72
           refine Tr.appendAcc (z := u8 0) (by' := 1) (bytesV [(shr64 (UInt64.ofNat F.length * 8) (56 - 8 * y.1)).toUInt8]) J J J J J Y39 Y39 Sz5 Zr5 (by unfold By; kernel_rfl) J hay (by repeat (first | exact sg_here | apply sg_there)) (fun w h => SeesP.of (sees_own h Z0)) (fun e => by cases e) (bytesV_cell _) oM oM (by rfl) ?_
           intro s73 bl73 hac73
           refine Tr.assign J J J (Tr.nil (bl_n (at_n (Sat.region (Tr.move J J J (Tr.sub_i64 J J J J oM (Tr.assign J J J (Tr.nil (at_n ?_)))))))))
           refine ⟨(y.1 + 1, s73, bl73), ⟨by simp only []; omega, ?_⟩, by simp only []; omega, weak_perm (wk1 J (wk1 J (wk1 J (wk1 (congrArg (fun z => some (i64 z)) oM) (wk1 J (wk1 J wk0)))))) (pm_seg sG pm_nil)⟩
           rw [show beUp (UInt64.ofNat F.length * 8) (y.1 + 1) = beUp (UInt64.ofNat F.length * 8) y.1 ++ [(shr64 (UInt64.ofNat F.length * 8) (56 - 8 * y.1)).toUInt8] from rfl, ← List.append_assoc, bytesV_app]
           exact hac73
          ·
           have hy3 : y.1 = 8 := by omega
           rw [hy3] at hay
           refine Sat.exit (at_x (at_x (bl_h (bl_n (at_n (Sat.region (Tr.add_i64 J J J J oM (Tr.move J J J (Tr.nil (at_n (SRounds.more (Sat.seq (Sat.region (Tr.lss J J J J J (Tr.nil (at_n (Sat.seq (Sat.cond_f J (rfl) (Sat.exit (at_x (at_x (bl_h (at_n (Sat.seq (Sat.region (Tr.move J J J (Tr.assign J J J (Tr.nil (at_n (Sat.ret (en_r (end_perm (out := (y.2.2 ++ [])) (res_tmp J J) (pm_seg sG pm_nil) ?_))))))))))))))))))))))))))))))))
           refine ⟨y.2.1, rfl, ?_⟩
           have e8 : UInt64.ofNat F.length * 8 = UInt64.ofNat (8 * F.length) := by
            apply UInt64.toNat_inj.1
            rw [mul8_nat (by rw [ofNat_nat oM]; omega), ofNat_nat oM, ofNat_nat oM]; omega
           rw [e8] at hay
           rw [padB_length, padB]
           simpa [Nat.add_assoc, Nat.add_comm, Nat.add_left_comm] using hay

end Go.Proofs.YtpacobmjjjillaaGreat
end

section
namespace Go.Proofs.YtpacobmjjjillaaGreat
open Go Hw
set_option linter.unusedVariables false
set_option linter.unusedSimpArgs false

theorem mk_chunk (p : Option Addr) (n c : Nat) : Meets Tryz.prog 201 [.slice p n c, i64 128] [] (fun _ => True) (fun v out => ∃ b1 b2, v = .func (.func 235) #[] #[ptr b1 0, ptr b2 0] ∧ out = [⟨b1, [.slice p n c], 39, 1⟩, ⟨b2, [i64 128], 3, 1⟩]) := by
 intro W hW
 refine calls_of (hp0 := []) Tryz.func201 J 9 Tryz.ntmps201 J (HRep.nil _) (Sat.seq (Sat.region (Tr.box1 J J J ?_)))
 intro n2 hn2 hf2
 refine Tr.box1 J J J ?_
 intro n3 hn3 hf3
 refine Tr.assign J J J (Tr.nil (at_n (Sat.seq (Sat.seq (Sat.region (Tr.load1 J J J Y3 J Z0 (by rfl) ?_))))))
 refine Tr.lss J J J J J (Tr.nil (at_n (Sat.cond_f J dE (Sat.skip (at_n (Sat.seq (Sat.region (Tr.makeFunc J J J J (Tr.assign J J J (Tr.nil (at_n (Sat.ret (en_r (end_perm (out := (⟨n2, [.slice p n c], 39, 1⟩ :: (⟨n3, [i64 128], 3, 1⟩ :: []))) (res_tmp J J) (pm_cons rM (pm_cons rM pm_nil)) ?_))))))))))))))
 exact ⟨n2, n3, rfl, by simp⟩

/-- a chunk of 128 bytes -/
def encC (q i : Nat) : Value := .slice (some ⟨q, 128 * i, none⟩) 128 128
theorem encC_eq (q i : Nat) : (.slice (some ⟨q, if 128 * i + 128 = 128 * i then 0 else 0 + 128 * i * 1, none⟩) (128 * i + 128 - 128 * i) (128 * i + 128 - 128 * i) : Value) = encC q i := by
  have e1 : 128 * i + 128 - 128 * i = 128 := by omega
  have e2 : 0 + 128 * i * 1 = 128 * i := by omega
  rw [if_neg oM, e1, e2]; rfl

theorem chunk_iter (l b1 b2 q n c K : Nat) (X : Nat → List Blk) (names : List Nat) (hnk : n = 128 * K) (hnc : n ≤ c) (hbig : n ≤ 1000000) : Meets Tryz.prog 235 [.func (.yield l) #[] #[], ptr b1 0, ptr b2 0] names (fun W => HRep ⟨Tryz.prog, W, 0, names, [], []⟩ (⟨b1, [.slice (some ⟨q, 0, none⟩) n c], 39, 1⟩ :: ⟨b2, [i64 128], 3, 1⟩ :: X 0) W ∧ ∀ i, i < K → ∀ W2, HRep ⟨Tryz.prog, W, 0, names, [], []⟩ (⟨b1, [.slice (some ⟨q, 0, none⟩) n c], 39, 1⟩ :: ⟨b2, [i64 128], 3, 1⟩ :: X i) W2 → YieldAt Fence.wide 0 Tryz.prog l #[encC q i] W2 fun e W3 => e = .returned (.bool true) ∧ HRep ⟨Tryz.prog, W, 0, names, [], []⟩ (⟨b1, [.slice (some ⟨q, 0, none⟩) n c], 39, 1⟩ :: ⟨b2, [i64 128], 3, 1⟩ :: X (i + 1)) W3) (fun v out => v = .tuple #[] ∧ out = ⟨b1, [.slice (some ⟨q, 0, none⟩) n c], 39, 1⟩ :: ⟨b2, [i64 128], 3, 1⟩ :: X K) := by
 intro W hW
 refine calls_of (hp0 := ⟨b1, [.slice (some ⟨q, 0, none⟩) n c], 39, 1⟩ :: ⟨b2, [i64 128], 3, 1⟩ :: X 0) Tryz.func235 J 31 Tryz.ntmps235 J (HRep.reN hW.1) (Sat.seq (Sat.region (Tr.assign J J J (Tr.nil (at_n (Sat.block (Sat.loop (ι := Nat) (fun i => ⟨[(0, .func (.yield l) #[] #[]), (1, ptr b1 0), (2, ptr b2 0), (4, i64 (128 * (i : Int)))], (⟨b1, [.slice (some ⟨q, 0, none⟩) n c], 39, 1⟩ :: (⟨b2, [i64 128], 3, 1⟩ :: (X i ++ [])))⟩) (fun i => i ≤ K) (fun i => K - i) (0) ?_ ?_ ?_)))))))
 · exact Nat.zero_le _
 · exact weak_perm (wk1 rfl (wk1 rfl (wk1 rfl (wk1 rfl wk0)))) (pm_cons rM (pm_cons rM (pm_seg (by repeat (exact sg_end)) pm_nil)))
 ·
  rintro i hi
  refine Sat.seq (Sat.seq (Sat.region (Tr.move J J J (Tr.load1 J J J Y39 J Z0 (by rfl) ?_))))
  refine Tr.lenSl J J J Y39 (Tr.lss J J J J J (Tr.nil (at_n (Sat.condP J (fun hc0 => ?_) (fun hc0 => ?_)))))
  ·
   have hi3 : i < K := by omega
   refine Sat.skip (at_n (Sat.seq (Sat.block (Sat.seq (Sat.draw [(1, 0), (1, 1), (0, 2), (0, 3), (0, 4), (0, 5), (0, 6)] Mixed zK (Tr.load1 J J J Y3 J Z1 (by rfl) ?_))))))
   refine Tr.load1 J J J Y39 J Z0 (by rfl) ?_
   refine Tr.move J J J (Tr.sliceLoN (128*i) J J J J oM oM oM Y39 Sz5 (Tr.lenSl J J J Y39 (Tr.min2 J J J J (show Value.int .i64 (if ((n - 128 * i : Nat) : Int) < (128 : Int) then ((n - 128 * i : Nat) : Int) else (128 : Int)) = i64 128 from by rw [if_neg oM]) ?_)))
   refine Tr.assign J J J (Tr.nil (at_n (Sat.seq (Sat.regionY 10 J zK (Tr.move J J J (Tr.load1 J J J Y39 J Z0 (by rfl) ?_))))))
   refine Tr.move J J J (Tr.move J J J (Tr.move J J J (Tr.add_i64 J J J J oM (Tr.move J J J (Tr.move J J J (Tr.add_i64 J J J J oM (Tr.slice3 (128*i) (128*i+128) (128*i+128) J J J J J J oM oM oM oM oM oM Y39 Sz5 (Tr.nil (yop J J (congrArg some (encC_eq q i)) (fun w h => hW.2 i hi3 w (by rw [List.append_nil] at h; exact h)) ?_)))))))))
   refine Tr.not J J J (Tr.nil (at_n (Sat.cond_f J (rfl) (Sat.skip (bl_n (at_n (Sat.region (Tr.move J J J (Tr.load1 J J J Y3 J Z1 (by rfl) ?_)))))))))
   refine Tr.add_i64 J J J J oM (Tr.assign J J J (Tr.nil (at_n ?_)))
   exact ⟨i + 1, by omega, by omega, weak_perm (wk1 rfl (wk1 rfl (wk1 rfl (wk1 (congrArg (fun z => some (i64 z)) oM) wk0)))) (pm_cons rM (pm_cons rM (pm_seg (by repeat (exact sg_end)) pm_nil)))⟩
  ·
   have hi3 : i = K := by omega
   refine Sat.exit (at_x (at_x (bl_h (en_n (end_perm (out := (⟨b1, [.slice (some ⟨q, 0, none⟩) n c], 39, 1⟩ :: (⟨b2, [i64 128], 3, 1⟩ :: (X i ++ [])))) (res_none J) (pm_cons rM (pm_cons rM (pm_seg sG pm_nil))) ?_)))))
   rw [hi3]; exact ⟨rfl, by simp⟩

theorem chunk_seq {l b1 b2 q n c K : Nat} {X : Nat → List Blk} {names : List Nat} (hnk : n = 128 * K) (hnc : n ≤ c) (hbig : n ≤ 1000000) (hnm : ∀ i, (⟨b1, [.slice (some ⟨q, 0, none⟩) n c], 39, 1⟩ :: ⟨b2, [i64 128], 3, 1⟩ :: X i).map (·.n) = names) (w1 : World) (hh : HRep ⟨Tryz.prog, w1, 0, names, [], []⟩ (⟨b1, [.slice (some ⟨q, 0, none⟩) n c], 39, 1⟩ :: ⟨b2, [i64 128], 3, 1⟩ :: X 0) w1)
    (hy : ∀ i, i < K → ∀ W2, HRep ⟨Tryz.prog, w1, 0, names, [], []⟩ (⟨b1, [.slice (some ⟨q, 0, none⟩) n c], 39, 1⟩ :: ⟨b2, [i64 128], 3, 1⟩ :: X i) W2 → YieldAt Fence.wide 0 Tryz.prog l #[encC q i] W2 fun e W3 => e = .returned (.bool true) ∧ HRep ⟨Tryz.prog, w1, 0, names, [], []⟩ (⟨b1, [.slice (some ⟨q, 0, none⟩) n c], 39, 1⟩ :: ⟨b2, [i64 128], 3, 1⟩ :: X (i + 1)) W3) :
    CallsIn Fence.wide 0 Tryz.prog 235 (#[.func (.yield l) #[] #[]] ++ #[ptr b1 0, ptr b2 0]) w1 fun e W' => (∃ v, e = .returned v) ∧ HRep ⟨Tryz.prog, w1, 0, names, [], []⟩ (⟨b1, [.slice (some ⟨q, 0, none⟩) n c], 39, 1⟩ :: ⟨b2, [i64 128], 3, 1⟩ :: X K) W' :=
  callsIn_wide.2 ((chunk_iter l b1 b2 q n c K X names hnk hnc hbig w1 ⟨hh, hy⟩).mono fun e W' ⟨v, out, he, ⟨_, ho⟩, hr⟩ => ⟨⟨v, he⟩, by subst ho; exact HRep.ofRet hr (hnm K)⟩)
theorem take_len {xs : List UInt8} {i K : Nat} (h : xs.length = 128 * K) (hi : i < K) : ((xs.drop (128 * i)).take 128).length = 128 := by simp; omega

theorem sha_whole (st : List UInt64) (hst : st.length = 8) (k : List UInt64) (hk : Hid (kW = k)) (hk80 : k.length = 80) (p : Option Addr) (n c : Nat) (ss : List Sl) (ls : List (List UInt8)) (hss : ss.length = n) (hls : ls.length = n) (hsl : ∀ j, j < n → (ss.getD j Sl.nil).n = (ls.getD j []).length ∧ ((ss.getD j Sl.nil).p = none → (ss.getD j Sl.nil).n = 0)) (F : List UInt8) (hF : ls.flatten = F) (htot : F.length ≤ 90000) (hn : n ≤ 1000000)  : Meets Tryz.prog 127 [agg (wordsV st), .slice p n c] [] (fun W => SeesP W p (ss.map Sl.v) ∧ ∀ j, j < n → SeesP W (ss.getD j Sl.nil).p (bytesV (ls.getD j []))) (fun v out => v = agg (wordsV (allW k st F)) ∧ out = []) := by
  intro W hW
  have hpl := padB_length F
  have hpz := padZ_lt F.length
  have hpm := padB_mod F
  have hst2 : (runW k st (padB F) ((padB F).length / 128)).length = 8 := by rw [runW_length]; exact hst
  refine calls_range Tryz.func127 rfl 16 Tryz.ntmps127 rfl ?_
  refine Sat.region ?_
  refine Tr.boxA rfl rfl ?_
  intro n2 hn2 hf2
  refine Tr.alloc (cs := (wordsV (List.replicate 8 0))) rfl Zr135 rfl ?_
  intro n4 hn4 hf4
  refine Tr.nil ?_
  refine at_n ?_
  refine Sat.region ?_
  refine Tr.move rfl rfl rfl ?_
  refine Tr.call4 rfl rfl rfl rfl rfl Body202 (sha_padded p n c ss ls hss hls hsl F hF htot hn) (fun w h => ⟨seesP_ext h rfl hW.1, fun j hj => seesP_ext h rfl (hW.2 j hj)⟩) ?_
  rintro v7 out7 ⟨s7, rfl, hac7⟩
  obtain ⟨q7, c7, rfl, hc7, rfl⟩ := acc_pos hac7 oM
  refine Tr.call4 rfl rfl rfl rfl rfl Body201 (mk_chunk (some ⟨q7, 0, none⟩) (padB F).length c7) (fun _ _ => trivial) ?_
  rintro v8 out8 ⟨b1, b2, rfl, rfl⟩
  refine Tr.nil ?_
  refine at_n ?_
  refine ⟨_, _, fun i => ⟨b1, [.slice (some ⟨q7, 0, none⟩) (padB F).length c7], 39, 1⟩ :: ⟨b2, [i64 128], 3, 1⟩ :: [⟨q7, bytesV (padB F), 5, c7 * 1⟩, ⟨n4, wordsV (List.replicate 8 0), 135, (wordsV (List.replicate 8 0)).length⟩, ⟨n2, wordsV (runW k st (padB F) i), 135, (wordsV st).length⟩], [b1, b2, q7, n4, n2], encC q7, ((padB F).length / 128), fun sl i => (5, encC q7 i) :: (9, encC q7 i) :: sl, rfl, rfl, Body235, dE, fun _ => rfl, ?_, ?_, ?_, ?_⟩
  ·
    intro l w1 hh hy
    exact chunk_seq (X := fun i => [⟨q7, bytesV (padB F), 5, c7 * 1⟩, ⟨n4, wordsV (List.replicate 8 0), 135, (wordsV (List.replicate 8 0)).length⟩, ⟨n2, wordsV (runW k st (padB F) i), 135, (wordsV st).length⟩]) hpm hc7 oM (fun _ => rfl) w1 hh hy
  ·
    intro i hi l W2 hh
    refine SatI.region zK ?_
    refine Tr.assign rfl rfl rfl ?_
    refine Tr.nil ?_
    exact ⟨rfl, rfl⟩
  ·
    intro i hi l W2 hh
    obtain ⟨A, hA⟩ : ∃ A, Hid (schA ((padB F).drop (128 * i) |>.take 128) 128 = A) := ⟨_, ⟨rfl⟩⟩
    obtain ⟨w, hwp⟩ : ∃ w, Hid (schB A 64 = w) := ⟨_, ⟨rfl⟩⟩
    obtain ⟨R, hR⟩ : ∃ R, Hid (rnds k w (W8.of (runW k st (padB F) i)) 80 = R) := ⟨_, ⟨rfl⟩⟩
    have hw : w.length = 80 := by rw [← hwp.out, schB_length, ← hA.out]; exact schA_length _ 128
    have e1 : addUp (runW k st (padB F) i) R.l 8 = runW k st (padB F) (i + 1) := by rw [runW, pieceW, schW, hA.out, hwp.out, hR.out]
    refine SatI.block ?_
    refine SatI.draw [(1, 0), (0, 1), (0, 2), (1, 3), (3, 4), (4, 5)] Mixed zK zK ?_
    refine Tr.loadAll rfl rfl rfl Y135 rfl Sz135 Z4 (by rw [List.length_map, runW_length]; exact hst) ?_
    refine Tr.move rfl rfl rfl ?_
    refine Tr.s2a rfl rfl rfl Tryz.underlying191 oM ?_
    refine Tr.loadN (bytesV ((padB F).drop (128 * i) |>.take 128)) rfl rfl rfl Tryz.underlying191 rfl Sz191 Z2 (by rw [← List.map_drop, ← List.map_take]) (by rw [List.length_map]; exact take_len hpm hi) ?_
    refine Tr.callV rfl rfl rfl rfl Body203 (sha_Piece (runW k st (padB F) i) (by rw [runW_length]; exact hst) ((padB F).drop (128 * i) |>.take 128) (take_len hpm hi) A w k R hA hwp hw hk hk80 hR) (fun _ _ => trivial) ?_
    refine Tr.storeAll rfl rfl rfl rfl zB Sz135 (by (rw [List.length_map, addUp_length, runW_length]; exact hst)) Z4 (by (rw [List.length_map, runW_length]; exact hst)) (by exact upd4) ?_
    refine Tr.nil ?_
    rw [e1]
  ·
    intro D W2
    refine Sat.seq ?_
    refine Sat.region ?_
    refine Tr.loadAll rfl rfl rfl Y135 rfl Sz135 Z4 (by (simp [hst2]; done)) ?_
    refine Tr.storeAll rfl rfl rfl rfl zB Sz135 (by (simp [hst2]; done)) Z3 sP (by exact upd3) ?_
    refine Tr.nil ?_
    refine at_n ?_
    refine Sat.ret ?_
    refine enA_r ?_
    refine ⟨_, [], fun W names => res_cell rfl rfl Y135 rfl Sz135 Z3 (by simp [hst2]), sP, sP, ?_⟩
    exact ⟨rfl, rfl⟩

theorem startW_length : startW.length = 8 := rfl
def xorUp : Nat → List UInt64
  | 0 => startW
  | i + 1 => (xorUp i).set i ((xorUp i).getD i 0 ^^^ 11936128518282651045)
theorem xorUp_length : ∀ i, (xorUp i).length = 8
  | 0 => rfl
  | i + 1 => by rw [xorUp, List.length_set, xorUp_length i]
/-- the bytes of 'SHA-512/256' -/
def shaTag : List UInt8 := [83, 72, 65, 45, 53, 49, 50, 47, 50, 53, 54]
def shaI : List UInt64 := allW kW (xorUp 8) shaTag
/-- SHA-512/256 -/
def sha256 (l : List UInt8) : List UInt8 := (sumUp (allW kW shaI l) 64).take 32
theorem sha256_length (l : List UInt8) : (sha256 l).length = 32 := by rw [sha256, List.length_take, sumUp_length]; rfl

theorem sha_StartShort (k s0 i0 : List UInt64) (G : List UInt8) (hk : Hid (kW = k)) (hk80 : k.length = 80) (hs0 : Hid (xorUp 8 = s0)) (hs8 : s0.length = 8) (hG : Hid (shaTag = G)) (hGl : G.length = 11) (hi0 : Hid (allW k s0 G = i0)) (hi8 : i0.length = 8)  : Meets Tryz.prog 128 [] [] (fun _ => True) (fun v out => v = agg (wordsV i0) ∧ out = []) := by
 intro W hW
 refine calls_of (hp0 := []) Tryz.func128 J 18 Tryz.ntmps128 J (HRep.nil _) (Sat.seq (Sat.region (Tr.alloc (cs := (wordsV (List.replicate 8 0))) J Zr135 J ?_)))
 intro n0 hn0 hf0
 refine Tr.nil (at_n (Sat.seq (Sat.region (Tr.callV J J J J Body204 (sha_Start) (fun _ _ => trivial) (Tr.alloc (cs := (wordsV (List.replicate 8 0))) J Zr135 J ?_)))))
 intro n1 hn1 hf1
 refine Tr.storeAll J J J J zB Sz135 (by (simp [startW_length]; done)) Z0 sP zU ?_
 refine Tr.nil (at_n (Sat.seq (Sat.seq (Sat.region (Tr.move J J J (Tr.nil (at_n (Sat.block (Sat.loop (ι := Nat) (fun j => ⟨[(0, ptr n0 0), (1, ptr n1 0), (4, i64 (j : Int))], [⟨n1, wordsV (xorUp j), 135, 8⟩, ⟨n0, wordsV (List.replicate 8 0), 135, 8⟩]⟩) (fun j => j ≤ 8) (fun j => 8 - j) (0) ?_ ?_ ?_)))))))))
 · omega
 · exact weak_perm (wk1 rfl (wk1 rfl (wk1 rfl wk0))) (pm_cons rM (pm_cons rM pm_nil))
 ·
  rintro j hi
  have hlj := xorUp_length j
  refine Sat.seq (Sat.region (Tr.lss J J J J J (Tr.nil (at_n (Sat.seq (Sat.condP J (fun hc0 => ?_) (fun hc0 => ?_)))))))
  ·
   refine Sat.skip (at_n (Sat.seq (Sat.block (Sat.seq (Sat.region (Tr.move J J J (Tr.assign J J J (Tr.nil (at_n (Sat.region (Tr.move J J J (Tr.idxArr1 J J J J Y135 Sz22 _ J oM (Tr.load1 J J J Y22 J Z0 (by exact get_words oM) ?_)))))))))))))
   refine Tr.xor_u64 J J J (show evIn _ _ = some (u64 11936128518282651045) from rfl) (Tr.idxArr1 J J J J Y135 Sz22 _ J oM (Tr.store1 J J J J J Sz22 Z0 (by (simp [xorUp_length]; omega)) (by exact set_words _ _ _) zU ?_))
   refine Tr.nil (bl_n (at_n (Sat.region (Tr.add_i64 J J J J oM (Tr.move J J J (Tr.nil (at_n ?_)))))))
   exact ⟨j + 1, by omega, by omega, weak_perm (wk1 rfl (wk1 rfl (wk1 rfl wk0))) (pm_cons rM (pm_cons rM pm_nil))⟩
  ·
   obtain rfl : j = 8 := by omega
   rw [hs0.out]
   clear hlj
   refine Sat.exit (at_x (at_x (bl_h (at_n (Sat.seq (Sat.region (Tr.loadAll J J J Y135 J Sz135 Z0 (by (simp [hs8]; done)) ?_)))))))
   refine Tr.mkRow (z := u8 0) [u8 83, u8 72, u8 65, u8 45, u8 53, u8 49, u8 50, u8 47, u8 50, u8 53, u8 54] (bytesV shaTag) J J J Y39 Sz5 Zr5 J J (by intro v hv; simp only [List.mem_cons, List.not_mem_nil, or_false] at hv; rcases hv with rfl | rfl | rfl | rfl | rfl | rfl | rfl | rfl | rfl | rfl | rfl <;> rfl) dE J ?_
   intro q14
   rw [hG.out]
   refine Tr.constB J J J J Y39 Y5 Z0 ?_
   refine Tr.mkRow (z := .slice none 0 0) [.slice (some ⟨q14, 0, none⟩) 11 11] [.slice (some ⟨q14, 0, none⟩) 11 11] rfl J J Y133 Sz39 Zr39 J J (by intro v hv; rw [List.mem_singleton.1 hv]; rfl) dE J ?_
   intro q16
   refine Tr.callV J J J J Body127 (sha_whole s0 hs8 k hk hk80 (some ⟨q16, 0, none⟩) 1 1 [⟨some ⟨q14, 0, none⟩, 11, 11⟩] [G] rfl J (fun j hj => (by obtain rfl : j = 0 := oM; exact ⟨by simp [hGl], fun e => by cases e⟩)) G sP oM dE) (fun w h => ⟨SeesP.of (sees_own h Z0), fun j hj => (by obtain rfl : j = 0 := oM; exact SeesP.of (sees_own h Z1))⟩) ?_
   rw [hi0.out]
   refine Tr.storeAll J J J J zB Sz135 (by (simp [hi8]; done)) Z3 sP (by exact upd3) ?_
   refine Tr.nil (at_n (Sat.ret (en_r ?_)))
   refine ⟨_, [], res_cell J J Y135 J Sz135 Z3 (by simp [hi8]), sP, sP, ?_, rfl⟩
   rfl

theorem sha_Sum (k s0 i0 : List UInt64) (G : List UInt8) (hk : Hid (kW = k)) (hk80 : k.length = 80) (hs0 : Hid (xorUp 8 = s0)) (hs8 : s0.length = 8) (hG : Hid (shaTag = G)) (hGl : G.length = 11) (hi0 : Hid (allW k s0 G = i0)) (hi8 : i0.length = 8) (p : Option Addr) (n c : Nat) (ss : List Sl) (ls : List (List UInt8)) (hss : ss.length = n) (hls : ls.length = n) (hsl : ∀ j, j < n → (ss.getD j Sl.nil).n = (ls.getD j []).length ∧ ((ss.getD j Sl.nil).p = none → (ss.getD j Sl.nil).n = 0)) (F : List UInt8) (hF : ls.flatten = F) (htot : F.length ≤ 90000) (hn : n ≤ 1000000) (r : List UInt64) (hr : Hid (allW k i0 F = r)) (s : List UInt8) (hs : Hid (sumUp r 64 = s))  : Meets Tryz.prog 68 [.slice p n c] [] (fun W => SeesP W p (ss.map Sl.v) ∧ ∀ j, j < n → SeesP W (ss.getD j Sl.nil).p (bytesV (ls.getD j []))) (fun v out => v = agg (bytesV (s.take 32)) ∧ out = []) := by
 intro W hW
 have hr8 : r.length = 8 := by rw [← hr.out, allW_length]; exact hi8
 have hs64 : s.length = 64 := by rw [← hs.out]; exact sumUp_length r 64
 have hs32 : (s.take 32).length = 32 := by rw [List.length_take, hs64]; rfl
 refine calls_of (hp0 := []) Tryz.func68 J 11 Tryz.ntmps68 J (HRep.nil _) (Sat.seq (Sat.region (Tr.alloc (cs := (bytesV (List.replicate 32 0))) J Zr24 J ?_)))
 intro n2 hn2 hf2
 refine Tr.nil (at_n (Sat.seq (Sat.region (Tr.callV J J J J Body128 (sha_StartShort k s0 i0 G hk hk80 hs0 hs8 hG hGl hi0 hi8) (fun _ _ => trivial) (Tr.move J J J (Tr.callV J J J J Body127 (sha_whole i0 hi8 k hk hk80 p n c ss ls hss hls hsl F hF htot hn) (fun w h => ⟨seesP_ext h J hW.1, fun j hj => seesP_ext h J (hW.2 j hj)⟩) ?_))))))
 rw [hr.out]
 refine Tr.callV J J J J Body126 (sha_sum r hr8 s hs) (fun _ _ => trivial) (Tr.alloc (cs := (bytesV (List.replicate 64 0))) J Zr26 J ?_)
 intro n3 hn3 hf3
 refine Tr.storeAll J J J J zE Sz26 (by (simp [hs64]; done)) Z0 sP zU ?_
 refine Tr.nil (at_n (Sat.seq (Sat.region (Tr.sliceArrHi 32 J J J J J dE dE Y26 Sz5 (Tr.s2a J J J Y24 oM (Tr.loadN (bytesV (s.take 32)) J J J Y24 J Sz24 Z0 (by rw [List.drop_zero, ← List.map_take]) (by rw [List.length_map]; exact hs32) ?_))))))
 refine Tr.storeAll J J J J zE Sz24 (by (simp [hs64]; done)) Z1 sP zV ?_
 refine Tr.nil (at_n (Sat.ret (en_r ?_)))
 refine ⟨_, [], res_cell J J Y24 J Sz24 Z1 (by simp [hs64]), sP, sP, ?_, rfl⟩
 rfl

end Go.Proofs.YtpacobmjjjillaaGreat
end

section
namespace Go.Proofs.YtpacobmjjjillaaGreat
open Go Hw
set_option linter.unusedVariables false
set_option linter.unusedSimpArgs false

theorem DB.head_small {D : DB} (h : D.check = 0) : D.ls.length ≤ 16 ∧ D.ds.length ≤ 512 := by
  unfold DB.check at h
  by_cases h1 : D.head = true
  · rw [if_pos h1] at h; cases h
  · unfold DB.head at h1
    simp at h1
    omega
theorem BlockIs.ext {C : Cx} {hp : List Blk} {w : World} {B : Block} {D : DB} (hh : HRep C hp w) (hl : C.lent = []) (h : BlockIs C.W0 B D) : BlockIs w B D :=
  ⟨h.ok, h.w, h.seq, h.prev, rows_ext hh hl h.ls, bytes_ext hh hl h.ds, h.sg⟩

end Go.Proofs.YtpacobmjjjillaaGreat
end

section
namespace Go.Proofs.YtpacobmjjjillaaGreat
open Go Hw
set_option linter.unusedSimpArgs false
set_option linter.unusedVariables false
set_option maxRecDepth 100000
/-- a vote is its own data -/
structure VoteIs (W : World) (x : Vote) (d : Vote) : Prop where
  ok : x.ok
  eq : x = d
  wf : (Lit.int .i64 d.fPhase).wf = true
theorem VoteIs.ext {C : Cx} {hp : List Blk} {w : World} {x d : Vote} (h : VoteIs C.W0 x d) (hh : HRep C hp w) (hl : C.lent = []) : VoteIs w x d := ⟨h.ok, h.eq, h.wf⟩
section
variable {H : Type} {enc : TypeId × Value → H} {P : Program} {W : World} {base : Nat} {sp : Nat → Bool} {held : Bool}
end
section
variable {H : Type} {enc : TypeId × Value → H} {W : World} {base : Nat} {sp : Nat → Bool} {held : Bool}
end
section
variable {H : Type} {enc : TypeId × Value → H} {W : World} {base : Nat} {sp : Nat → Bool} {held : Bool}
end
section
variable {H : Type} {enc : TypeId × Value → H} {W : World} {base : Nat} {sp : Nat → Bool} {held : Bool}
end
section
variable {H : Type} {enc : TypeId × Value → H} {W : World} {base : Nat} {sp : Nat → Bool} {held : Bool}
end
section
variable {H : Type} {enc : TypeId × Value → H} {W : World} {base : Nat} {sp : Nat → Bool} {held : Bool}
end

end Go.Proofs.YtpacobmjjjillaaGreat
end

section
namespace Go.Proofs.YtpacobmjjjillaaGreat
open Go Hw
set_option linter.unusedVariables false
set_option linter.unusedSimpArgs false

def vheadB (V : Vote) : Bool := decide ((V.fHeight.toNat : Int) < 1) || (decide ((4294967295 : Int) < (V.fHeight.toNat : Int)) || decide ((20 : Int) < (V.fRound.toNat : Int)))
def vokB (V : Vote) : Bool := if V.fPhase = 1 then (!decide (V.fValue = List.replicate 32 0)) && decide ((V.fProof.toNat : Int) ≤ (V.fRound.toNat : Int)) else if V.fPhase = 2 ∨ V.fPhase = 3 then decide ((V.fProof.toNat : Int) = 0) else false
def vcheck (V : Vote) : Int := if vheadB V = true then 2 else if vokB V = true then 0 else 2

theorem vote_check (V : Vote) (hV : V.ok) : Meets Tryz.prog 13 [agg V.cells] [] (fun _ => True) (fun v out => v = i64 (vcheck V) ∧ out = []) := by
 intro W hW
 refine calls_of (hp0 := []) Tryz.func13 J 40 Tryz.ntmps13 J (HRep.nil _) (Sat.seq (Sat.region (Tr.boxA J J ?_)))
 intro n1 hn1 hf1
 refine Tr.assign J J J (Tr.nil (at_n (Sat.seq (Sat.seq (Sat.region (Tr.fld J J J Y29 J Sz22 dE _ J (Tr.load1 J J J Y22 J Z0 (by exact Vote.get_fHeight zA) ?_)))))))
 refine two (fun r hr k => Tr.lss J J J J hr k) (fun hs1_20 => ?_) (fun hs1_20 => ?_)
 ·
  have hs1_2 := of_decide_eq_true hs1_20
  refine Tr.move J J J (Tr.skp J J (Tr.skp J J (Tr.skp J J (Tr.pick J J J J J J (Tr.move J J J (Tr.skp J J (Tr.skp J J (Tr.skp J J (Tr.pick J J J J J J (Tr.nil (at_n (Sat.cond_t J J (Sat.seq (Sat.region (Tr.assign J J J (Tr.nil (at_n (Sat.ret (at_r (en_r ?_))))))))))))))))))))
  refine ⟨_, [], res_tmp J J, sP, sP, ?_, rfl⟩
  (unfold vcheck vheadB vokB; simp_all; done)
 ·
  have hs1_2 := of_decide_eq_false hs1_20
  refine Tr.move J J J (Tr.fld J J J Y29 J Sz22 dE _ J (Tr.load1 J J J Y22 J Z0 (by exact Vote.get_fHeight zA) ?_))
  refine two (fun r hr k => Tr.gtr J J J J hr k) (fun hs1_60 => ?_) (fun hs1_60 => ?_)
  ·
   have hs1_6 := of_decide_eq_true hs1_60
   refine Tr.pick J J J J J J (Tr.move J J J (Tr.skp J J (Tr.skp J J (Tr.skp J J (Tr.pick J J J J J J (Tr.nil (at_n (Sat.cond_t J J (Sat.seq (Sat.region (Tr.assign J J J (Tr.nil (at_n (Sat.ret (at_r (en_r ?_))))))))))))))))
   refine ⟨_, [], res_tmp J J, sP, sP, ?_, rfl⟩
   (unfold vcheck vheadB vokB; simp_all; done)
  ·
   have hs1_6 := of_decide_eq_false hs1_60
   refine Tr.pick J J J J J J (Tr.move J J J (Tr.fld J J J Y29 J Sz22 dE _ J (Tr.load1 J J J Y22 J Z0 (by exact Vote.get_fRound zA) ?_)))
   refine Tr.gtr J J J J J (Tr.pick J J J J J J (Tr.nil (at_n (Sat.condP J (fun hc0 => ?_) (fun hc0 => ?_)))))
   ·
    refine Sat.seq (Sat.region (Tr.assign J J J (Tr.nil (at_n (Sat.ret (at_r (en_r ?_)))))))
    refine ⟨_, [], res_tmp J J, sP, sP, ?_, rfl⟩
    (unfold vcheck vheadB vokB; simp_all; done)
   ·
    refine Sat.skip (at_n (Sat.seq (Sat.region (Tr.assign J J J (Tr.nil (at_n (Sat.seq (Sat.seq (Sat.region (Tr.fld J J J Y29 J Sz3 dE _ J (Tr.load1 J J J Y3 J Z0 (by exact Vote.get_fPhase zA) ?_)))))))))))
    refine Tr.nil (at_n (Sat.block (Sat.seq (Sat.region (Tr.eqi J J J J J (Tr.assign J J J (Tr.nil (at_n (Sat.condP J (fun hc1 => ?_) (fun hc1 => ?_))))))))))
    ·
     refine Sat.region (Tr.fld J J J Y29 J Sz24 dE _ J (Tr.loadN (bytesV _) J J J Y24 J Sz24 Z0 (Vote.row_fValue zA) (Vote.rl_fValue zA) ?_))
     refine Tr.build (cs := bytesV (List.replicate 32 0)) J J J (fun w => by kernel_rfl) ?_
     refine two (fun r hr k => Tr.neq_bytes J J J J Tryz.eqGuardType24 Y24 Y5 Sz5 (by (simp [hV.l_fValue]; done)) sP hr k) (fun hs6_30 => ?_) (fun hs6_30 => ?_)
     ·
      have hs6_3 := nd_t hs6_30
      refine Tr.move J J J (Tr.fld J J J Y29 J Sz22 dE _ J (Tr.load1 J J J Y22 J Z0 (by exact Vote.get_fProof zA) ?_))
      refine Tr.fld J J J Y29 J Sz22 dE _ J (Tr.load1 J J J Y22 J Z0 (by exact Vote.get_fRound zA) ?_)
      refine Tr.leq J J J J J (Tr.pick J J J J J J (Tr.assign J J J (Tr.nil (bl_n (at_n (Sat.seq (Sat.seq (Sat.region (Tr.move J J J (Tr.not J J J (Tr.nil (at_n (Sat.condNP J (fun hc4 => ?_) (fun hc4 => ?_))))))))))))))
      ·
       refine Sat.seq (Sat.region (Tr.assign J J J (Tr.nil (at_n (Sat.ret (at_r (en_r ?_)))))))
       refine ⟨_, [], res_tmp J J, sP, sP, ?_, rfl⟩
       (unfold vcheck vheadB vokB; simp_all; done)
      ·
       refine Sat.skip (at_n (Sat.seq (Sat.region (Tr.assign J J J (Tr.nil (at_n (Sat.ret (en_r ?_))))))))
       refine ⟨_, [], res_tmp J J, sP, sP, ?_, rfl⟩
       (unfold vcheck vheadB vokB; simp_all; done)
     ·
      have hs6_3 := nd_f hs6_30
      refine Tr.move J J J (Tr.skp J J (Tr.skp J J (Tr.skp J J (Tr.skp J J (Tr.skp J J (Tr.pick J J J J J J (Tr.assign J J J (Tr.nil (bl_n (at_n (Sat.seq (Sat.seq (Sat.region (Tr.move J J J (Tr.not J J J (Tr.nil (at_n (Sat.cond_t J J (Sat.seq (Sat.region (Tr.assign J J J (Tr.nil (at_n (Sat.ret (at_r (en_r ?_))))))))))))))))))))))))))
      refine ⟨_, [], res_tmp J J, sP, sP, ?_, rfl⟩
      (unfold vcheck vheadB vokB; simp_all; done)
    ·
     refine Sat.seq (Sat.seq (Sat.region (Tr.eqi J J J J J (Tr.assign J J J (Tr.nil (at_n (Sat.condP J (fun hc2 => ?_) (fun hc2 => ?_))))))))
     ·
      refine Sat.skip (at_n (Sat.condP J (fun hc3 => ?_) (fun hc3 => ?_)))
      ·
       refine Sat.region (Tr.fld J J J Y29 J Sz22 dE _ J (Tr.load1 J J J Y22 J Z0 (by exact Vote.get_fProof zA) ?_))
       refine Tr.eqi J J J J J (Tr.assign J J J (Tr.nil (bl_n (at_n (Sat.seq (Sat.seq (Sat.region (Tr.move J J J (Tr.not J J J (Tr.nil (at_n (Sat.condNP J (fun hc4 => ?_) (fun hc4 => ?_)))))))))))))
       ·
        refine Sat.seq (Sat.region (Tr.assign J J J (Tr.nil (at_n (Sat.ret (at_r (en_r ?_)))))))
        refine ⟨_, [], res_tmp J J, sP, sP, ?_, rfl⟩
        (unfold vcheck vheadB vokB; simp_all; done)
       ·
        refine Sat.skip (at_n (Sat.seq (Sat.region (Tr.assign J J J (Tr.nil (at_n (Sat.ret (en_r ?_))))))))
        refine ⟨_, [], res_tmp J J, sP, sP, ?_, rfl⟩
        (unfold vcheck vheadB vokB; simp_all; done)
      ·
       refine Sat.skip (bl_n (at_n (Sat.seq (Sat.seq (Sat.region (Tr.move J J J (Tr.not J J J (Tr.nil (at_n (Sat.cond_t J J (Sat.seq (Sat.region (Tr.assign J J J (Tr.nil (at_n (Sat.ret (at_r (en_r ?_))))))))))))))))))
       refine ⟨_, [], res_tmp J J, sP, sP, ?_, rfl⟩
       (unfold vcheck vheadB vokB; simp_all; done)
     ·
      refine Sat.region (Tr.eqi J J J J J (Tr.assign J J J (Tr.nil (at_n (Sat.condP J (fun hc3 => ?_) (fun hc3 => ?_))))))
      ·
       refine Sat.region (Tr.fld J J J Y29 J Sz22 dE _ J (Tr.load1 J J J Y22 J Z0 (by exact Vote.get_fProof zA) ?_))
       refine Tr.eqi J J J J J (Tr.assign J J J (Tr.nil (bl_n (at_n (Sat.seq (Sat.seq (Sat.region (Tr.move J J J (Tr.not J J J (Tr.nil (at_n (Sat.condNP J (fun hc4 => ?_) (fun hc4 => ?_)))))))))))))
       ·
        refine Sat.seq (Sat.region (Tr.assign J J J (Tr.nil (at_n (Sat.ret (at_r (en_r ?_)))))))
        refine ⟨_, [], res_tmp J J, sP, sP, ?_, rfl⟩
        (unfold vcheck vheadB vokB; simp_all; done)
       ·
        refine Sat.skip (at_n (Sat.seq (Sat.region (Tr.assign J J J (Tr.nil (at_n (Sat.ret (en_r ?_))))))))
        refine ⟨_, [], res_tmp J J, sP, sP, ?_, rfl⟩
        (unfold vcheck vheadB vokB; simp_all; done)
      ·
       refine Sat.skip (bl_n (at_n (Sat.seq (Sat.seq (Sat.region (Tr.move J J J (Tr.not J J J (Tr.nil (at_n (Sat.cond_t J J (Sat.seq (Sat.region (Tr.assign J J J (Tr.nil (at_n (Sat.ret (at_r (en_r ?_))))))))))))))))))
       refine ⟨_, [], res_tmp J J, sP, sP, ?_, rfl⟩
       (unfold vcheck vheadB vokB; simp_all; done)

end Go.Proofs.YtpacobmjjjillaaGreat
end

section
namespace Hw
open Go Go.RowKit
set_option linter.unusedSimpArgs false
set_option linter.unusedVariables false
def orI (x y : Int) : Int := IntKind.i64.wrap (((BitVec.ofInt 64 x ||| BitVec.ofInt 64 y).toNat : Nat) : Int)
section
variable {C : Cx} {ops : Array Oper} {rest : List (Nat × Oper)} {sl : List (Nat × Value)} {hp : List Blk} {Q : St → Prop} {c d : Nat} {ty : TypeId} {pos : String} {af : Array Edge} {g : Option (Nat × Bool)} {x y : Operand} {xT yT : TypeId} {a b : Int}
end
end Hw
end

section
namespace Go.Proofs.YtpacobmjjjillaaGreat
open Go Hw
set_option linter.unusedVariables false
set_option linter.unusedSimpArgs false

theorem Acc.hrep {P : Program} {W : World} {N : Nat} {s : Sl} {bl : List Blk} {cells : List Value} {E : TypeId} {n size : Nat} (h : Hw.Acc s bl cells E n size) (hl : Lies bl W) : HRep ⟨P, W, N, bl.map (·.n), [], []⟩ bl W :=
  ⟨hl, by rcases h with ⟨_, rfl, _⟩ | ⟨q, c, _, _, _, rfl⟩ <;> simp, fun b hb => .inr (List.mem_map.2 ⟨b, hb, rfl⟩), Keeps.refl _ _, fun _ h => (by cases h), fun _ _ _ h => (by cases h)⟩
theorem sees_kok {w : World} {b o : Nat} {cs l : List Value} {T : TypeId} {m : Nat} (hb : BlkOk w ⟨b, cs, T, m⟩) (hs : ∀ (j : Nat) (v : Value), l[j]? = some v → cs[o + j]? = some v) : Sees w b o l := fun j v hj => hb.cell (o := o + j) (hs j v hj)
theorem sp_e {X A K : List Blk} (h : ([] : List Blk).Perm (A ++ K)) : X.Perm ((X ++ A) ++ K) := by rw [List.append_assoc]; exact (List.Perm.append_left X h).symm.symm.trans (.refl _) |> fun k => (by rw [List.append_nil] at k; exact k)
theorem seesP_na {C : Cx} {hp : List Blk} {w : World} {p : Option Addr} {cs : List Value} (h : HRep C hp w) (hs : SeesP C.W0 p cs) (hna : ∀ a, p = some a → a.block ∉ C.lent) : SeesP w p cs := fun j v hj => by
  obtain ⟨b, o, e, hc⟩ := hs j v hj
  exact ⟨b, o, e, h.keeps.cell (show b ∉ C.lent from hna ⟨b, o, none⟩ e) hc⟩
theorem na_kb {C : Cx} {hp bl : List Blk} {w : World} {k : Blk} {o : Nat} (h : HRep C hp w) (hk : k ∈ C.kb) (hb : ∀ b ∈ bl, b ∈ hp) : ∀ a, (some ⟨k.n, o, none⟩ : Option Addr) = some a → a.block ∉ bl.map (·.n) := fun a e hm => by
  cases e
  obtain ⟨b, hb2, e2⟩ := List.mem_map.1 hm
  exact h.kd b (hb b hb2) k hk e2
def voteT (V : Vote) : List UInt8 := numB V.fHeight ++ numB V.fRound ++ numB (Hw.byteOf V.fPhase).toUInt64 ++ V.fValue ++ numB V.fProof ++ V.fVoter
def voteBy (V : Vote) : List UInt8 := if vcheck V = 0 then voteT V ++ V.fSig else []
def voteN (V : Vote) : Nat := szN V.fHeight.toNat + szN V.fRound.toNat + szN (Hw.byteOf V.fPhase).toUInt64.toNat + 32 + szN V.fProof.toNat + 32
theorem voteT_length {V : Vote} (h : V.ok) : (voteT V).length = voteN V := by simp only [voteT, voteN, List.length_append, numB_length, h.l_fValue, h.l_fVoter]
theorem voteN_le (V : Vote) : voteN V ≤ 100 := by
  have h1 := szN_pos V.fHeight.toNat
  have h2 := szN_pos V.fRound.toNat
  have h3 := szN_pos (Hw.byteOf V.fPhase).toUInt64.toNat
  have h4 := szN_pos V.fProof.toNat
  unfold voteN
  omega

theorem text_number (s : Sl) (bl : List Blk) (l : List UInt8) (n : Nat) (hac : Hw.Acc s bl (bytesV l) 5 n 1) (hn : n ≤ 1000) (x : UInt64) : Meets Tryz.prog 117 [s.v, u64 x] (bl.map (·.n)) (fun W => Lies bl W ∧ True) (fun v out => ∃ s', v = s'.v ∧ Hw.Acc s' out (bytesV (l ++ numB x)) 5 (n + szN x.toNat) 1) := by
 intro W hW
 have hz := szN_pos x.toNat
 refine calls_of (hp0 := bl) Tryz.func117 J 9 Tryz.ntmps117 J (Acc.hrep hac hW.1) (Sat.seq (Sat.region (Tr.assign J J J (Tr.nil (at_n (Sat.seq (Sat.region (Tr.move J J J (Tr.move J J J (Tr.call4 J J J J J Body152 (oct_Number none 0 0 [] x J (fun _ => rfl) oM) (fun _ _ => SeesP.nil) ?_))))))))))
 rintro v7 out7 ⟨q7, c7, rfl, hc7, rfl⟩
 simp only [Nat.zero_add, List.nil_append, List.cons_append]
 refine Tr.appendAcc (z := u8 0) (by' := 1) (bytesV (numB x)) J J J J J Tryz.underlying72 Y39 Sz5 Zr5 (by unfold By; kernel_rfl) J hac (by repeat (first | exact sg_end | apply sg_there)) (fun w h => SeesP.of (sees_own h Z0)) (fun e => by cases e) (bytesV_cell _) oM oM (by simp [numB_length]) ?_
 intro s8 bl8 hac8
 refine Tr.assign J J J (Tr.nil (at_n (Sat.ret (en_r (end_perm (out := (bl8 ++ [])) (res_tmp J J) (pm_seg sG pm_nil) ?_)))))
 exact ⟨s8, rfl, by rw [bytesV_app, List.append_nil]; exact hac8⟩

theorem text_raw (s : Sl) (bl : List Blk) (l : List UInt8) (n : Nat) (hac : Hw.Acc s bl (bytesV l) 5 n 1) (hn : n ≤ 1000) (p : Option Addr) (m c : Nat) (ys : List UInt8) (hy : ys.length = m) (hm : m ≤ 1000) (hpn : p = none → m = 0) : Meets Tryz.prog 63 [s.v, .slice p m c] (bl.map (·.n)) (fun W => Lies bl W ∧ SeesP W p (bytesV ys) ∧ ∀ a, p = some a → a.block ∉ bl.map (·.n)) (fun v out => ∃ s', v = s'.v ∧ Hw.Acc s' out (bytesV (l ++ ys)) 5 (n + m) 1) := by
 intro W hW
 refine calls_of (hp0 := bl) Tryz.func63 J 8 Tryz.ntmps63 J (Acc.hrep hac hW.1) (Sat.seq (Sat.region (Tr.assign J J J (Tr.nil (at_n (Sat.seq (Sat.region (Tr.move J J J (Tr.move J J J (Tr.appendAcc (z := u8 0) (by' := 1) (bytesV ys) J J J J J Tryz.underlying72 Y39 Sz5 Zr5 (by unfold By; kernel_rfl) J hac (by repeat (exact sg_end)) (fun w h => seesP_na h hW.2.1 hW.2.2) hpn (bytesV_cell _) oM oM (by rw [bytesV, List.length_map, hy, Nat.mul_one]) ?_))))))))))
 intro s7 bl7 hac7
 refine Tr.assign J J J (Tr.nil (at_n (Sat.ret (en_r (end_perm (out := (bl7 ++ [])) (res_tmp J J) (pm_seg sG pm_nil) ?_)))))
 exact ⟨s7, rfl, by rw [bytesV_app, List.append_nil]; exact hac7⟩

theorem text_vote (s : Sl) (bl : List Blk) (l : List UInt8) (n : Nat) (hac : Hw.Acc s bl (bytesV l) 5 n 1) (hn : n ≤ 100) (V : Vote) (hV : V.ok) : Meets Tryz.prog 62 [s.v, agg V.cells] (bl.map (·.n)) (fun W => Lies bl W) (fun v out => ∃ s', v = s'.v ∧ Hw.Acc s' out (bytesV (l ++ voteT V)) 5 (n + voteN V) 1) := by
 intro W hW
 have z1 := szN_pos V.fHeight.toNat
 have z2 := szN_pos V.fRound.toNat
 have z3 := szN_pos (Hw.byteOf V.fPhase).toUInt64.toNat
 have z4 := szN_pos V.fProof.toNat
 refine calls_of (hp0 := bl) Tryz.func62 J 27 Tryz.ntmps62 J (Acc.hrep hac hW) (Sat.seq (Sat.region (Tr.boxA J J ?_)))
 intro n3 hn3 hf3
 refine Tr.assign J J J (Tr.nil (at_n (Sat.join (ι := Sl × List Blk) (fun p => ⟨[(0, p.1.v), (3, ptr n3 0)], (p.2 ++ (⟨n3, V.cells, 29, V.cells.length⟩ :: []))⟩) (fun p => Hw.Acc p.1 p.2 (bytesV (l ++ numB V.fHeight ++ numB V.fRound ++ numB (Hw.byteOf V.fPhase).toUInt64)) 5 (n + szN V.fHeight.toNat + szN V.fRound.toNat + szN (Hw.byteOf V.fPhase).toUInt64.toNat) 1) ?_ ?_)))
 ·
  refine Sat.withK (sp_k (sp_e sp_n)) J (Sat.draw [(0, 0), (0, 1), (0, 2), (0, 4), (0, 5), (0, 7), (0, 8), (0, 9), (0, 10), (4, 3), (4, 6), (4, 11), (0, 12)] Mixed zK (Tr.move J J J (Tr.fld J J J Y29 J Sz22 dE _ J (Tr.kload1 J J J Y22 J Z0 (by exact Vote.get_fHeight zA) ?_))))
  refine Tr.fld J J J Y29 J Sz22 dE _ J (Tr.kload1 J J J Y22 J Z0 (by exact Vote.get_fRound zA) ?_)
  refine Tr.fld J J J Y29 J Sz3 dE _ J (Tr.kload1 J J J Y3 J Z0 (by exact Vote.get_fPhase zA) ?_)
  refine Tr.conv J J J Y3 Y5 (cv_i64_u8 _) (Tr.conv J J J Y5 Y22 (cv_u8_u64 _) (Tr.callL (L := bl) J J J J J Body117 (text_number s bl (l) (n) hac oM (V.fHeight)) sG (lent_ok J) (fun w h => ⟨Lies.of h (by repeat (exact in_here)), trivial⟩) ?_))
  rintro v8 out8 ⟨s8, rfl, hac8⟩
  refine Tr.callL (L := out8) J J J J J Body117 (text_number s8 out8 (l ++ numB V.fHeight) (n + szN V.fHeight.toNat) hac8 oM (V.fRound)) sG (lent_ok J) (fun w h => ⟨Lies.of h (by repeat (exact in_here)), trivial⟩) ?_
  rintro v11 out11 ⟨s11, rfl, hac11⟩
  refine Tr.callL (L := out11) J J J J J Body117 (text_number s11 out11 (l ++ numB V.fHeight ++ numB V.fRound) (n + szN V.fHeight.toNat + szN V.fRound.toNat) hac11 oM ((Hw.byteOf V.fPhase).toUInt64)) sG (lent_ok J) (fun w h => ⟨Lies.of h (by repeat (exact in_here)), trivial⟩) ?_
  rintro v16 out16 ⟨s16, rfl, hac16⟩
  refine Tr.assign J J J (Tr.nil (at_n ?_))
  simp only [List.cons_append, List.nil_append, List.append_nil]
  exact ⟨(s16, out16), hac16, weak_perm (wk1 rfl (wk1 rfl wk0)) (pm_seg sG (pm_cons rM pm_nil))⟩
 ·
  intro p hj
  have hap := hj
  refine Sat.seq (Sat.withK (sp_x (sp_k sp_n)) J (Sat.draw [(0, 0), (0, 1), (0, 2), (0, 4), (0, 5), (0, 7), (0, 8), (4, 3), (4, 6), (4, 9), (0, 10)] Mixed zK (Tr.move J J J (Tr.fld J J J Y29 J Sz24 dE _ J (Tr.sliceArr J J J Y24 Sz5 (Tr.fld J J J Y29 J Sz22 dE _ J (Tr.kload1 J J J Y22 J Z0 (by exact Vote.get_fProof zA) ?_)))))))
  refine Tr.fld J J J Y29 J Sz25 dE _ J (Tr.sliceArr J J J Y25 Sz5 (Tr.callL (L := p.2) J J J J J Body63 (text_raw p.1 p.2 (l ++ numB V.fHeight ++ numB V.fRound ++ numB (Hw.byteOf V.fPhase).toUInt64) (n + szN V.fHeight.toNat + szN V.fRound.toNat + szN (Hw.byteOf V.fPhase).toUInt64.toNat) hap oM (some ⟨n3, 0 + 3, none⟩) 32 32 V.fValue hV.l_fValue dE (fun e => by cases e)) sG (lent_ok J) (fun w h => ⟨Lies.of h (by repeat (exact in_here)), SeesP.of (sees_kok (h.kok _ List.mem_cons_self) (Vote.see_fValue hV)), na_kb h List.mem_cons_self (by repeat (exact in_here))⟩) ?_))
  rintro v20 out20 ⟨s20, rfl, hac20⟩
  refine Tr.callL (L := out20) J J J J J Body117 (text_number s20 out20 (l ++ numB V.fHeight ++ numB V.fRound ++ numB (Hw.byteOf V.fPhase).toUInt64 ++ V.fValue) (n + szN V.fHeight.toNat + szN V.fRound.toNat + szN (Hw.byteOf V.fPhase).toUInt64.toNat + 32) hac20 oM (V.fProof)) sG (lent_ok J) (fun w h => ⟨Lies.of h (by repeat (exact in_here)), trivial⟩) ?_
  rintro v23 out23 ⟨s23, rfl, hac23⟩
  refine Tr.callL (L := out23) J J J J J Body63 (text_raw s23 out23 (l ++ numB V.fHeight ++ numB V.fRound ++ numB (Hw.byteOf V.fPhase).toUInt64 ++ V.fValue ++ numB V.fProof) (n + szN V.fHeight.toNat + szN V.fRound.toNat + szN (Hw.byteOf V.fPhase).toUInt64.toNat + 32 + szN V.fProof.toNat) hac23 oM (some ⟨n3, 0 + 36, none⟩) 32 32 V.fVoter hV.l_fVoter dE (fun e => by cases e)) sG (lent_ok J) (fun w h => ⟨Lies.of h (by repeat (exact in_here)), SeesP.of (sees_kok (h.kok _ List.mem_cons_self) (Vote.see_fVoter hV)), na_kb h List.mem_cons_self (by repeat (exact in_here))⟩) ?_
  rintro v26 out26 ⟨s26, rfl, hac26⟩
  refine Tr.assign J J J (Tr.nil (at_n (Sat.ret (en_r ?_))))
  simp only [List.cons_append, List.nil_append, List.append_nil]
  refine end_perm (out := (out26 ++ [])) (res_tmp J J) (pm_seg sG pm_nil) ?_
  refine ⟨s26, rfl, ?_⟩
  rw [List.append_nil, show l ++ voteT V = l ++ numB V.fHeight ++ numB V.fRound ++ numB (Hw.byteOf V.fPhase).toUInt64 ++ V.fValue ++ numB V.fProof ++ V.fVoter by simp only [voteT, List.append_assoc], show n + voteN V = n + szN V.fHeight.toNat + szN V.fRound.toNat + szN (Hw.byteOf V.fPhase).toUInt64.toNat + 32 + szN V.fProof.toNat + 32 by unfold voteN; omega]
  exact hac26

theorem vote_bytes (V : Vote) (hV : V.ok) : Meets Tryz.prog 17 [agg V.cells] [] (fun _ => True) (fun v out => ∃ s, v = .tuple #[s.v, i64 (vcheck V)] ∧ Hw.Acc s out (bytesV (voteBy V)) 5 (voteBy V).length 1) := by
 intro W hW
 have hvl := voteT_length hV
 have hvn := voteN_le V
 have hsl := hV.l_fSig
 refine calls_of (hp0 := []) Tryz.func17 J 15 Tryz.ntmps17 J (HRep.nil _) (Sat.seq (Sat.region (Tr.boxA J J ?_)))
 intro n1 hn1 hf1
 refine Tr.assign J J J (Tr.assign J J J (Tr.nil (at_n (Sat.seq (Sat.seq (Sat.region (Tr.loadAll J J J Y29 J Sz29 Z0 (Vote.length zA) ?_)))))))
 refine Tr.callV J J J J Body13 (vote_check V hV) (fun _ _ => trivial) (Tr.assign J J J (Tr.nil (at_n (Sat.seq (Sat.region (Tr.move J J J (Tr.nei J J J J J (Tr.nil (at_n (Sat.condNP J (fun hc0 => ?_) (fun hc0 => ?_)))))))))))
 ·
  refine Sat.seq (Sat.region (Tr.move J J J (Tr.assign J J J (Tr.assign J J J (Tr.nil (at_n (Sat.ret (at_r (en_r (end_perm (out := []) (res_tmp2 J J J) pm_nil ?_))))))))))
  exact ⟨Sl.nil, rfl, by rw [show voteBy V = [] from if_neg hc0]; exact Acc.none⟩
 ·
  refine Sat.skip (at_n (Sat.seq (Sat.withK (sp_k sp_n) J (Sat.draw [(0, 0), (0, 2), (0, 3), (4, 1), (4, 4), (0, 5), (0, 6)] Mixed zK (Tr.kloadAll J J J Y29 J Sz29 Z0 (Vote.length zA) ?_)))))
  refine Tr.fld J J J Y29 J Sz27 dE _ J (Tr.sliceArr J J J Y27 Sz5 (Tr.callL (L := []) J J J J J Body62 (text_vote Sl.nil [] [] 0 Acc.none dE V hV) (.refl _) (lent_ok J) (fun w h => fun b hb => (by cases hb)) ?_))
  rintro v11 out11 ⟨s11, rfl, hac11⟩
  simp only [List.nil_append, Nat.zero_add] at hac11
  refine Tr.callL (L := out11) J J J J J Body63 (text_raw s11 out11 (voteT V) (voteN V) hac11 oM (some ⟨n1, 0 + 68, none⟩) 64 64 V.fSig hV.l_fSig dE (fun e => by cases e)) sG (lent_ok J) (fun w h => ⟨Lies.of h (by repeat (exact in_here)), SeesP.of (sees_kok (h.kok _ List.mem_cons_self) (Vote.see_fSig hV)), na_kb h List.mem_cons_self (by repeat (exact in_here))⟩) ?_
  rintro v14 out14 ⟨s14, rfl, hac14⟩
  refine Tr.assign J J J (Tr.assign J J J (Tr.nil (at_n (Sat.ret (en_r ?_)))))
  simp only [List.cons_append, List.nil_append, List.append_nil]
  refine end_perm (out := (out14 ++ [])) (res_tmp2 J J J) (pm_seg sG pm_nil) ?_
  refine ⟨s14, by rw [show vcheck V = 0 by omega], ?_⟩
  rw [show voteBy V = voteT V ++ V.fSig from if_pos oM, List.append_nil, show (voteT V ++ V.fSig).length = voteN V + 64 by rw [List.length_append, hvl, hsl]]
  exact hac14

theorem upd_vsig {X : Vote} (h : X.ok) {l : List UInt8} (hl : l = [] ∨ l.length = 64) : upd X.cells 68 (bytesV l) = ({ X with fSig := l ++ X.fSig.drop l.length } : Vote).cells := by
  rcases hl with rfl | hl
  · exact upd_nil _ _
  · rw [Vote.upd_fSig h l hl, hl, List.drop_of_length_le (by rw [h.l_fSig]; exact Nat.le_refl _), List.append_nil]
/-- what is read: the data of a vote -/
def voteP (xs : List UInt8) : Vote × Nat × Int :=
  let r1 := numR xs 0 0
  let r2 := numR xs r1.2.1 r1.2.2
  let r3 := numR xs r2.2.1 r2.2.2
  let r4 := digR xs r3.2.1 r3.2.2
  let r5 := numR xs r4.2.1 r4.2.2
  let r6 := digR xs r5.2.1 r5.2.2
  let r7 := takR xs 64 r6.2.1 r6.2.2
  (⟨r1.1, r2.1, ((min r3.1.toNat 4 : Nat) : Int), r4.1, r5.1, r6.1, r7.1 ++ (List.replicate 64 0).drop r7.1.length⟩, r7.2)
def voteRd (xs : List UInt8) : Vote × Int :=
  if endR xs.length (voteP xs).2.1 (voteP xs).2.2 = 0 ∧ vcheck (voteP xs).1 = 0 then ((voteP xs).1, 0) else (Vote.zero, 4)
theorem voteRd_bad {xs : List UInt8} (h : ¬ (endR xs.length (voteP xs).2.1 (voteP xs).2.2 = 0 ∧ vcheck (voteP xs).1 = 0)) : voteRd xs = (Vote.zero, 4) := if_neg h
theorem voteRd_ok {xs : List UInt8} (h : endR xs.length (voteP xs).2.1 (voteP xs).2.2 = 0 ∧ vcheck (voteP xs).1 = 0) : voteRd xs = ((voteP xs).1, 0) := if_pos h

theorem vote_read (a : Option Addr) (n c : Nat) (xs : List UInt8) (hl : xs.length = n) (hp : a = none → n = 0) (hn : n ≤ 90000) : Meets Tryz.prog 23 [.slice a n c] [] (fun W => SeesP W a (bytesV xs)) (fun v out => v = .tuple #[agg (voteRd xs).1.cells, i64 (voteRd xs).2] ∧ out = []) := by
 intro W hW
 obtain ⟨x1, r1, h1⟩ : ∃ l r, numR xs 0 0 = (l, r) := ⟨_, _, rfl⟩
 obtain ⟨a1, e1⟩ := r1
 obtain ⟨x2, r2, h2⟩ : ∃ l r, numR xs a1 e1 = (l, r) := ⟨_, _, rfl⟩
 obtain ⟨a2, e2⟩ := r2
 obtain ⟨x3, r3, h3⟩ : ∃ l r, numR xs a2 e2 = (l, r) := ⟨_, _, rfl⟩
 obtain ⟨a3, e3⟩ := r3
 obtain ⟨l4, r4, h4⟩ : ∃ l r, digR xs a3 e3 = (l, r) := ⟨_, _, rfl⟩
 obtain ⟨a4, e4⟩ := r4
 obtain ⟨x5, r5, h5⟩ : ∃ l r, numR xs a4 e4 = (l, r) := ⟨_, _, rfl⟩
 obtain ⟨a5, e5⟩ := r5
 obtain ⟨l6, r6, h6⟩ : ∃ l r, digR xs a5 e5 = (l, r) := ⟨_, _, rfl⟩
 obtain ⟨a6, e6⟩ := r6
 obtain ⟨l7, r7, h7⟩ : ∃ l r, takR xs 64 a6 e6 = (l, r) := ⟨_, _, rfl⟩
 obtain ⟨a7, e7⟩ := r7
 have hvp : voteP xs = (({ Vote.zero with fHeight := x1, fRound := x2, fPhase := ((min x3.toNat 4 : Nat) : Int), fValue := l4, fProof := x5, fVoter := l6, fSig := l7 ++ Vote.zero.fSig.drop l7.length } : Vote), a7, e7) := by simp only [voteP, h1, h2, h3, h4, h5, h6, h7]; rfl
 have hd1 := numE_le h1 hl (Nat.zero_le _)
 have hd2 := numE_le h2 hl hd1
 have hd3 := numE_le h3 hl hd2
 have hd4 := digE_le h4 hl hd3
 have hd5 := numE_le h5 hl hd4.1
 have hd6 := digE_le h6 hl hd5
 have hd7 := takE_le h7 hl hd6.1
 have hlen7 : l7.length ≤ 64 := by rcases hd7.2 with h | h <;> simp [h]
 have hs64 : (l7 ++ Vote.zero.fSig.drop l7.length).length = 64 := by rcases hd7.2 with h | h <;> simp [h, Vote.zero]
 have ok2 : ({ Vote.zero with fHeight := x1, fRound := x2 } : Vote).ok := ⟨rfl, rfl, rfl⟩
 have ok3 : ({ Vote.zero with fHeight := x1, fRound := x2, fPhase := ((min x3.toNat 4 : Nat) : Int) } : Vote).ok := ⟨rfl, rfl, rfl⟩
 have ok4 : ({ Vote.zero with fHeight := x1, fRound := x2, fPhase := ((min x3.toNat 4 : Nat) : Int), fValue := l4 } : Vote).ok := ⟨hd4.2, rfl, rfl⟩
 have ok5 : ({ Vote.zero with fHeight := x1, fRound := x2, fPhase := ((min x3.toNat 4 : Nat) : Int), fValue := l4, fProof := x5 } : Vote).ok := ⟨hd4.2, rfl, rfl⟩
 have ok6 : ({ Vote.zero with fHeight := x1, fRound := x2, fPhase := ((min x3.toNat 4 : Nat) : Int), fValue := l4, fProof := x5, fVoter := l6 } : Vote).ok := ⟨hd4.2, hd6.2, rfl⟩
 have okX : ({ Vote.zero with fHeight := x1, fRound := x2, fPhase := ((min x3.toNat 4 : Nat) : Int), fValue := l4, fProof := x5, fVoter := l6, fSig := l7 ++ Vote.zero.fSig.drop l7.length } : Vote).ok := ⟨hd4.2, hd6.2, hs64⟩
 refine calls_of (hp0 := []) Tryz.func23 J 42 Tryz.ntmps23 J (HRep.nil _) (Sat.seq (Sat.region (Tr.alloc (cs := Vote.zero.cells) J Vote.zr J ?_)))
 intro n2 hn2 hf2
 refine Tr.assign J J J (Tr.nil (at_n (Sat.seq (Sat.region (Tr.move J J J (Tr.call4 J J J J J Body69 (oct_Read a n c xs hl hp hn) (fun w h => seesP_ext h J hW) ?_))))))
 rintro v7 out7 ⟨n7, q7, cp7, rfl, hcp7, rfl⟩
 refine Tr.nd (fun hnd => ?_)
 have hne : q7 ≠ n7 := by intro e; simp [RB, e] at hnd
 clear hnd
 refine Tr.assign J J J (Tr.nil (at_n (Sat.seq (Sat.region (Tr.move J J J (Tr.callL (L := [RB n7 q7 n cp7 0 0]) J J J J J Body70 (rd_NumberE n7 q7 n cp7 0 0 xs hl (Nat.zero_le _) hcp7 oM x1 a1 e1 h1) (pm_cons rM pm_nil) (lent_ok J) (fun w h => ⟨own_blk h Z0, sees_own h Z1, hne⟩) ?_))))))
 rintro v9 out9 ⟨rfl, rfl⟩
 refine Tr.move J J J (Tr.callL (L := [RB n7 q7 n cp7 a1 e1]) J J J J J Body70 (rd_NumberE n7 q7 n cp7 a1 e1 xs hl hd1 hcp7 oM x2 a2 e2 h2) (pm_cons rM pm_nil) (lent_ok J) (fun w h => ⟨own_blk h Z0, sees_own h Z1, hne⟩) ?_)
 rintro v9 out9 ⟨rfl, rfl⟩
 refine Tr.build (cs := ({ Vote.zero with fHeight := x1, fRound := x2 } : Vote).cells) J J J (fun w => by kernel_rfl) ?_
 refine Tr.alloc (cs := Vote.zero.cells) J Vote.zr J ?_
 intro n5 hn5 hf5
 refine Tr.storeAll J J J J (Vote.isCell zA) Sz29 (Vote.length zA) Z0 (Vote.length zT) zU ?_
 refine Tr.nil (at_n (Sat.seq (Sat.region (Tr.move J J J (Tr.callL (L := [RB n7 q7 n cp7 a2 e2]) J J J J J Body70 (rd_NumberE n7 q7 n cp7 a2 e2 xs hl hd2 hcp7 oM x3 a3 e3 h3) (pm_cons rM pm_nil) (lent_ok J) (fun w h => ⟨own_blk h Z1, sees_own h Z2, hne⟩) ?_)))))
 rintro v9 out9 ⟨rfl, rfl⟩
 refine Tr.min2 J J J J (show Value.int .u64 (if (4 : Int) < (x3.toNat : Int) then 4 else (x3.toNat : Int)) = .int .u64 ((min x3.toNat 4 : Nat) : Int) from by congr 1; split <;> omega) ?_
 refine Tr.conv J J J Y22 Y3 (show Value.int .i64 (IntKind.i64.wrap ((min x3.toNat 4 : Nat) : Int)) = i64 ((min x3.toNat 4 : Nat) : Int) by rw [i64_wrap oM]) ?_
 refine Tr.fld J J J Y29 J Sz3 dE _ J (Tr.store1 J J J J J Sz3 Z1 (by rw [Vote.length zA]; decide) (Vote.set_fPhase zA _) zV ?_)
 refine Tr.nil (at_n (Sat.seq (Sat.region (Tr.move J J J (Tr.callL (L := [RB n7 q7 n cp7 a3 e3]) J J J J J Body71 (rd_DigestE n7 q7 n cp7 a3 e3 xs hl hd3 hcp7 oM l4 a4 e4 h4) (pm_cons rM pm_nil) (lent_ok J) (fun w h => ⟨own_blk h Z0, sees_own h Z2, hne⟩) ?_)))))
 rintro v9 out9 ⟨rfl, rfl⟩
 refine Tr.fld J J J Y29 J Sz24 dE _ J (Tr.storeN (bytesV _) J J J J J zE Sz24 (by simp [hd4.2]) Z1 (by rw [Vote.length zA]; simp [hd4.2]) (Vote.upd_fValue zA _ (by simp [hd4.2])) zV ?_)
 refine Tr.nil (at_n (Sat.seq (Sat.region (Tr.move J J J (Tr.callL (L := [RB n7 q7 n cp7 a4 e4]) J J J J J Body70 (rd_NumberE n7 q7 n cp7 a4 e4 xs hl hd4.1 hcp7 oM x5 a5 e5 h5) (pm_cons rM pm_nil) (lent_ok J) (fun w h => ⟨own_blk h Z0, sees_own h Z2, hne⟩) ?_)))))
 rintro v9 out9 ⟨rfl, rfl⟩
 refine Tr.fld J J J Y29 J Sz22 dE _ J (Tr.store1 J J J J J Sz22 Z1 (by rw [Vote.length zA]; decide) (Vote.set_fProof zA _) zV ?_)
 refine Tr.nil (at_n (Sat.seq (Sat.region (Tr.move J J J (Tr.callL (L := [RB n7 q7 n cp7 a5 e5]) J J J J J Body71 (rd_DigestE n7 q7 n cp7 a5 e5 xs hl hd5 hcp7 oM l6 a6 e6 h6) (pm_cons rM pm_nil) (lent_ok J) (fun w h => ⟨own_blk h Z0, sees_own h Z2, hne⟩) ?_)))))
 rintro v9 out9 ⟨rfl, rfl⟩
 refine Tr.fld J J J Y29 J Sz25 dE _ J (Tr.storeN (bytesV _) J J J J J zE Sz25 (by simp [hd6.2]) Z1 (by rw [Vote.length zA]; simp [hd6.2]) (Vote.upd_fVoter zA _ (by simp [hd6.2])) zV ?_)
 refine Tr.nil (at_n (Sat.seq (Sat.draw [(0, 0), (0, 1), (0, 2), (4, 3), (4, 4)] Mixed zK (Tr.fld J J J Y29 J Sz27 dE _ J (Tr.sliceArr J J J Y27 Sz5 (Tr.move J J J (Tr.callL (L := [RB n7 q7 n cp7 a6 e6]) J J J J J Body72 (rd_TakeE n7 q7 n cp7 a6 e6 64 dE dE xs hl hd6.1 hcp7 oM l7 a7 e7 h7) (pm_cons rM pm_nil) (lent_ok J) (fun w h => ⟨own_blk h Z0, sees_own h Z2, hne⟩) ?_)))))))
 rintro v30 out30 ⟨s30, bl30, rfl, hac30, rfl⟩
 simp only [List.append_assoc, List.cons_append, List.nil_append]
 refine Tr.copyP (bytesV l7) l7.length J J J J J Y39 Sz5 (fun w h => hac30.see (Lies.of h (by repeat (exact in_here)))) (fun e => hac30.nil e) (by simp [bytesV, hac30.num]) (by rw [hac30.num]; omega) (List.take_of_length_le (by simp [bytesV])) (bytesV_cell _) (by (repeat (first | exact List.mem_cons_self | refine List.mem_cons_of_mem _ ?_ | refine mem_seg ?_))) (by rw [Vote.length ok6]; show 68 + l7.length ≤ 132; omega) (upd_vsig ok6 hd7.2) (by (repeat (first | exact upd0 | apply Upd.tail | apply Upd.seg))) ?_
 refine Tr.nil (at_n (Sat.seq (Sat.seq (Sat.region (Tr.move J J J (Tr.callV J J J J Body73 (rd_End n7 q7 n cp7 a7 e7 hd7.1 oM) (fun w h => own_blk h (by (repeat (first | exact List.mem_cons_self | refine mem_seg ?_)))) ?_))))))
 refine two (fun r hr k => Tr.nei J J J J hr k) (fun hs8_20 => ?_) (fun hs8_20 => ?_)
 ·
  have hs8_2 := nd_t hs8_20
  refine Tr.move J J J (Tr.skp J J (Tr.skp J J (Tr.skp J J (Tr.pick J J J J J J (Tr.nil (at_n (Sat.cond_t J J (Sat.seq (Sat.region (Tr.build (cs := Vote.zero.cells) J J J (fun w => by kernel_rfl) ?_))))))))))
  refine Tr.storeAll J J J J (Vote.isCell zT) Sz29 (Vote.length zT) (by (repeat (first | exact List.mem_cons_self | refine List.mem_cons_of_mem _ ?_ | refine mem_seg ?_))) (Vote.length zT) (by (repeat (first | exact upd0 | apply Upd.tail | apply Upd.seg))) ?_
  refine Tr.assign J J J (Tr.nil (at_n (Sat.ret (at_r (en_r (end_perm (out := []) (res_cell_tmp J J J Y29 J Sz29 (by (repeat (first | exact List.mem_cons_self | refine List.mem_cons_of_mem _ ?_ | refine mem_seg ?_))) (by exact Vote.length zT)) pm_nil ?_))))))
  exact ⟨by rw [voteRd_bad (by rw [hvp, hl]; exact fun h => hs8_2 h.1)], rfl⟩
 ·
  have hs8_2 := nd_f hs8_20
  refine Tr.move J J J (Tr.loadAll J J J Y29 J Sz29 (by (repeat (first | exact List.mem_cons_self | refine List.mem_cons_of_mem _ ?_ | refine mem_seg ?_))) (Vote.length zA) ?_)
  refine Tr.callV J J J J Body13 (vote_check ({ Vote.zero with fHeight := x1, fRound := x2, fPhase := ((min x3.toNat 4 : Nat) : Int), fValue := l4, fProof := x5, fVoter := l6, fSig := l7 ++ Vote.zero.fSig.drop l7.length } : Vote) okX) (fun _ _ => trivial) (Tr.nei J J J J J (Tr.pick J J J J J J (Tr.nil (at_n (Sat.condNP J (fun hc0 => ?_) (fun hc0 => ?_))))))
  ·
   refine Sat.seq (Sat.region (Tr.build (cs := Vote.zero.cells) J J J (fun w => by kernel_rfl) ?_))
   refine Tr.storeAll J J J J (Vote.isCell zT) Sz29 (Vote.length zT) (by (repeat (first | exact List.mem_cons_self | refine List.mem_cons_of_mem _ ?_ | refine mem_seg ?_))) (Vote.length zT) (by (repeat (first | exact upd0 | apply Upd.tail | apply Upd.seg))) ?_
   refine Tr.assign J J J (Tr.nil (at_n (Sat.ret (at_r (en_r (end_perm (out := []) (res_cell_tmp J J J Y29 J Sz29 (by (repeat (first | exact List.mem_cons_self | refine List.mem_cons_of_mem _ ?_ | refine mem_seg ?_))) (by exact Vote.length zT)) pm_nil ?_))))))
   exact ⟨by rw [voteRd_bad (by rw [hvp, hl]; exact fun h => hc0 h.2)], rfl⟩
  ·
   refine Sat.skip (at_n (Sat.seq (Sat.region (Tr.loadAll J J J Y29 J Sz29 (by (repeat (first | exact List.mem_cons_self | refine List.mem_cons_of_mem _ ?_ | refine mem_seg ?_))) (Vote.length zA) ?_))))
   refine Tr.storeAll J J J J (Vote.isCell zA) Sz29 (Vote.length zA) (by (repeat (first | exact List.mem_cons_self | refine List.mem_cons_of_mem _ ?_ | refine mem_seg ?_))) (Vote.length zT) (by (repeat (first | exact upd0 | apply Upd.tail | apply Upd.seg))) ?_
   refine Tr.assign J J J (Tr.nil (at_n (Sat.ret (en_r (end_perm (out := []) (res_cell_tmp J J J Y29 J Sz29 (by (repeat (first | exact List.mem_cons_self | refine List.mem_cons_of_mem _ ?_ | refine mem_seg ?_))) (by exact Vote.length zA)) pm_nil ?_)))))
   exact ⟨by rw [voteRd_ok (by rw [hvp, hl]; exact ⟨hs8_2, hc0⟩), hvp], rfl⟩

end Go.Proofs.YtpacobmjjjillaaGreat
end
