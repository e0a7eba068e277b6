/- Contracts of functions of the loaded program, and the lemmas that they need (part 2). It proves no statement by itself; it has no conditions. -/
import Derived.WalkKit
import Derived.Orders
import Derived.Deep.LoopGhost
import Derived.IntWalk
import Derived.Laws.StructEq
import Derived.ArgAppend
import Derived.Deep.AppendSrc
import Derived.Lib.Bytealg
import Derived.Lib.BytesEntry
import Derived.Laws.IdiomStrings
import Derived.WideKeyArr2
import Derived.ProofKit
import Derived.OpenShut
import Derived.Deep.Slices
import Derived.Laws.Pointers
import Derived.Laws.Cover3
import Derived.LaidEqlPtr
import Derived.LoopN
import Derived.RangeFuncLeaves
import Derived.RangeFuncSeq
import Derived.OrdersIn
import Derived.Test.YtdifpjmfabhpiaaGreatRows
import Derived.KernelRfl
import Derived.Laws.Externs
import Derived.Defers
import Derived.ChangeOld
import Derived.Below
import Derived.Test.YtdifpjmfabhpiaaGreatSMostC1
set_option maxRecDepth 100000
set_option maxHeartbeats 8000000
set_option linter.unusedVariables false
set_option linter.unusedSimpArgs false
section
namespace Hw
open Go Go.RowKit

def FW (ro : Option Nat) : Fence := { Fence.wide with round := ro }
def noDefer (ops : Array Oper) : Bool := ops.all fun o => match o.op with | .defer _ => false | _ => true
theorem noDefer_at {ops : Array Oper} (h : noDefer ops = true) {i : Nat} {o : Oper} (hi : ops[i]? = some o) : ∀ c, o.op ≠ .defer c := fun c hc => by
  obtain ⟨hlt, he⟩ := Array.getElem?_eq_some_iff.1 hi
  have := (Array.all_eq_true.1 h) i hlt
  rw [he, hc] at this
  cases this

section
variable {ro : Option Nat} {n : Nat} {P : Program}
theorem calls_FW {f : FuncId} {args : Array Value} {w : World} {R R' : Ending → World → Prop} (h : Calls P f args w R) (hr : ∀ e w, R e w → R' e w) : CallsIn (FW ro) n P f args w R' :=
  show CallsIn Fence.wide n P f args w R' from callsIn_wide.2 (h.mono hr)
theorem rows_FW {row : String} {args : Array Value} {w : World} {R : Value → World → Prop} (h : Rows P row args w R) : RowsIn (FW ro) n P row args w R :=
  show RowsIn Fence.wide n P row args w R from fun c cs _ => let ⟨v, w', r, s⟩ := h c cs; ⟨v, w', r, stepsIn_wide.2 s⟩

theorem wp_in {o : Oper} {a : Act} {w : World} {K : Act → World → Prop} {X : Exit → Act → World → Prop} (h : Oper.wp P o a w K X) (hnd : ∀ c, o.op ≠ .defer c) : Oper.wpIn (FW ro) n P o a w K X := by
  refine ⟨fun f _ => trivial, ?_⟩
  rw [Oper.semAt_eq _ _ _ hnd]
  unfold Oper.wp at h
  generalize (execOp a.eval o).run P w = r at h ⊢
  cases r with
  | ok x w' =>
    cases x <;> simp only [Oper.upon] at h <;> simp only [Oper.uponIn]
    case value => exact h
    case skip => exact h
    case defer => exact h
    case enter f args => exact ⟨fun h0 => (by cases h0), calls_FW h fun e w h => h⟩
    case row => exact ⟨fun h0 => (by cases h0), rows_FW h⟩
  | halt x w' => cases x <;> simp only [Oper.upon] at h <;> simp only [Oper.uponIn] <;> exact h

theorem wpOp_in {ops : Array Oper} {X : Exit → Act → World → Prop} {i : Nat} {K : Act → World → Prop} {a : Act} {w : World} (h : wpOp P ops X i K a w) (hnd : noDefer ops = true) (hX : ∀ a w, ¬ X .outgrown a w) : wpOpIn (FW ro) n P ops X i K a w := by
  unfold wpOp at h
  unfold wpOpIn
  cases ho : ops[i]? with
  | none => rw [ho] at h; exact h
  | some o =>
    rw [ho] at h
    simp only at h ⊢
    split
    · rename_i hw
      rw [if_pos hw] at h
      rcases h with h | ⟨_, a0, w0, h⟩
      · exact wp_in h (noDefer_at hnd ho)
      · exact absurd h (hX a0 w0)
    · rename_i hw
      rw [if_neg hw] at h
      exact ⟨fun f _ => trivial, h⟩
theorem wpOps_in {ops : Array Oper} {X : Exit → Act → World → Prop} (hnd : noDefer ops = true) (hX : ∀ a w, ¬ X .outgrown a w) : ∀ (l : List Nat) (a : Act) (w : World), wpOps P ops X l a w → wpOpsIn (FW ro) n P ops X l a w
  | [], a, w, h => h
  | i :: l, a, w, h => by
    rw [wpOps_cons] at h
    rw [wpOpsIn_cons]
    exact wpOpIn_mono (fun a w h => wpOps_in hnd hX l a w h) (wpOp_in h hnd hX)
end

def SatI (ro : Option Nat) (C : Cx) (code : Code) (s : St) (Q : St → Prop) : Prop :=
  ∀ a w, Rep C s a w → code.wpIn (FW ro) 0 C.P (Fin C Q) a w
theorem fin_out {C : Cx} {Q : St → Prop} : ∀ a w, ¬ Fin C Q .outgrown a w := fun a w h => by cases h.1
theorem SatI.region {ro : Option Nat} {C : Cx} {id : Nat} {ops : List Oper} {s : St} {Q : St → Prop} (hnd : noDefer ops.toArray = true) (h : Tr C ops.toArray (ops.map fun o => (4, o)) s Q) : SatI ro C (.region id ops.toArray false) s Q := by
  intro a w r
  refine wpIn_region (wpOps_in hnd fin_out _ _ _ (wpOps_of_tr _ _ s a w _ sP (fun k => ?_) r h fun s' a' w' r' q => ⟨rfl, s', r', q⟩))
  by_cases hk : k < ops.length
  · simp [hk]
  · simp [hk]
theorem SatI.draw {ro : Option Nat} {C : Cx} {id : Nat} {ops : List Oper} {s : St} {Q : St → Prop} (perm : List (Nat × Nat)) (hm : C.P.follows .mixedOrders = true) (hok : orderOk ops.toArray perm = true) (hnd : noDefer ops.toArray = true)
    (h : Tr C ops.toArray (items ops.toArray perm) s Q) : SatI ro C (.region id ops.toArray true) s Q := by
  intro a w r
  have hlen : perm.length ≤ ops.length := by
    simp only [orderOk, Bool.and_eq_true] at hok
    have hnd := topo_nodup perm [] hok.1.1
    have hlt : ∀ x ∈ perm.map (·.2), x ∈ List.range ops.length := fun x hx => by
      obtain ⟨p, hp, rfl⟩ := List.mem_map.1 hx
      have := (topo_mem perm [] hok.1.1 p hp).1
      simpa using this
    have := hnd.length_le_of_subset hlt
    simpa using this
  have h0 : perm.filter (fun p => !(Array.replicate ops.toArray.size false).getD p.2 false) = perm := List.filter_eq_self.2 fun p _ => by
    rw [Array.getD_eq_getD_getElem?, Array.getElem?_replicate]
    split <;> rfl
  have := wpAny_of_tr (C := C) hok ops.toArray.size (Array.replicate ops.toArray.size false) s a { w with drawn := w.drawn + 1 } Q sP
    (fun j hj => by
      rw [Array.getD_eq_getD_getElem?, Array.getElem?_replicate] at hj
      split at hj <;> simp at hj) (by rw [h0]; simpa using hlen) ⟨r.rs, r.rh.drew _⟩ (by rw [h0]; exact h)
  refine wpIn_region_draw fun t => ?_
  simp only [Region.schedule, hm, Bool.true_or, if_true]
  exact wpOps_in hnd fin_out _ _ _ (wpAny_sound ops.toArray.size t _ a _ this)
theorem SatI.block {ro : Option Nat} {C : Cx} {id : Nat} {x : Code} {s : St} {Q : St → Prop} (h : SatI ro C x s Q) : SatI ro C (.block id x) s Q := fun a w r =>
  wpIn_block (wpIn_mono (h a w r) fun e a w ⟨he, q⟩ => by subst he; exact ⟨rfl, q⟩)

theorem HRep.ofRet {P : Program} {w w' : World} {names : List Nat} {hp : List Blk} (h : Ret names hp w w') (hn : hp.map (·.n) = names) : HRep ⟨P, w, 0, names, [], []⟩ hp w' :=
  ⟨h.cells, h.nodup, fun b hb => .inr (by show b.n ∈ names; rw [← hn]; exact List.mem_map.2 ⟨b, hb, rfl⟩), h.keeps, fun _ h => (by cases h), fun _ _ _ h => (by cases h)⟩
theorem acc_pos {s : Sl} {bl : List Blk} {cells : List Value} {E : TypeId} {n size : Nat} (h : Acc s bl cells E n size) (hn : 0 < n) : ∃ q c, s = ⟨some ⟨q, 0, none⟩, n, c⟩ ∧ n ≤ c ∧ bl = [⟨q, cells, E, c * size⟩] := by
  rcases h with ⟨_, _, _, rfl⟩ | ⟨q, c, h1, h2, _, h4⟩
  · omega
  · exact ⟨q, c, h1, h2, h4⟩
section
variable {C : Cx} {ops : Array Oper} {rest : List (Nat × Oper)} {sl : List (Nat × Value)} {hp : List Blk} {Q : St → Prop} {c d : Nat} {ty : TypeId} {pos : String} {af : Array Edge} {g : Option (Nat × Bool)}
theorem Tr.constB {x : Operand} {b n cap : Nat} {T E : TypeId} {cs : List Value} {m : Nat} (hg : Al ops sl g = true) (hc : Nat.beq c 4 = true) (hd : Nat.blt d C.N = true) (hx : Aj sl x = some (.slice (some ⟨b, 0, none⟩) n cap)) (hu : C.P.underlying T = some (.slice E)) (he : C.P.underlying E = some (.int .u8)) (hb : (⟨b, cs, E, m⟩ : Blk) ∈ hp)
    (k : Tr C ops rest ⟨(d, .slice (some ⟨b, 0, none⟩) n cap) :: sl, hp⟩ Q) : Tr C ops ((c, ⟨some d, .convert T T x, ty, pos, af, g⟩) :: rest) ⟨sl, hp⟩ Q := by
  refine Tr.act (ρ := Unit) (fun _ => True) (fun _ => .slice (some ⟨b, 0, none⟩) n cap) (fun _ => hp) (nbeq' hc) (A5 hg) (B6 (nblt hd)) ⟨known1 hx, fun a w hf hh => ?_⟩ (fun _ _ => k)
  have h1 := hf x (by simp [Op.operands]); rw [hx] at h1
  simp only [Option.some.injEq] at h1
  obtain ⟨full, fr, hbk⟩ := hh.cells _ hb
  have hlt := (hh.cells _ hb).lt
  have hsh : w.shape? b = some (E, full.size) := by unfold World.shape?; rw [hbk.heap]
  obtain ⟨fr', hfr', hfree⟩ : ∃ fr', w.freeze ⟨b, full.size, none⟩ 1 = setBlk w b full E fr' ∧ Free fr' m := by
    refine ⟨if fr.1 == fr.2 then (full.size, full.size + 1) else (min fr.1 full.size, max fr.2 (full.size + 1)), ?_, ?_⟩
    · unfold World.freeze setBlk
      rw [if_neg dE]
      congr 1
      apply Array.ext_getElem?
      intro i
      rw [Array.getElem?_setIfInBounds, Array.getElem?_modify]
      by_cases hi : b = i
      · subst hi
        rw [if_pos rfl, if_pos rfl, if_pos hlt, hbk.heap]
        rfl
      · rw [if_neg hi, if_neg hi]
    · have hf := hbk.free
      have hs := hbk.size
      simp only at hf hs
      by_cases e : fr.1 = fr.2
      · rw [if_pos (by simpa using e)]
        exact ⟨by simp, fun i hi => by simp; omega⟩
      · rw [if_neg (by simpa using e)]
        have hle := hf.le
        have hm : m ≤ fr.1 := by
          rcases Nat.lt_or_ge fr.1 m with h1 | h1
          · have := hf.at' fr.1 h1
            simp at this
            omega
          · exact h1
        exact ⟨by simp; omega, fun i hi => by simp; omega⟩
  have hrun : (execOp a.eval ⟨some d, .convert T T x, ty, pos, af, g⟩).run C.P w = .ok (.value (.slice (some ⟨b, 0, none⟩) n cap)) (setBlk w b full E fr') := by
    simp [execOp, convert, ← h1, run_underlying hu, run_underlying he, markStringish, hsh, hfr']
  unfold Oper.wp
  rw [hrun]
  have hup : Upd hp b cs E m cs hp := by
    clear hh k hf
    induction hp with
    | nil => cases hb
    | cons y l ih =>
      rcases List.mem_cons.1 hb with rfl | h
      · exact .head
      · exact .tail (ih h)
  exact ⟨(), trivial, rfl, hh.upd hup hlt hbk.size hbk.pre hfree⟩

theorem Tr.sliceArrHi {x hi : Operand} {b o len : Nat} {xT E : TypeId} {kl : IntKind} {l : Int} (j : Nat) (hg : Al ops sl g = true) (hk : okD c d C.N = true) (hx : Aj sl x = some (ptr b o)) (hlo : Aj sl hi = some (.int kl l)) (hj : l = j) (hlt : j ≤ len) (hpos : 0 < len) (hu : C.P.underlying xT = some (.array len E)) {sz : Nat} (hs : Sz C.P E sz)
    (k : Tr C ops rest ⟨(d, .slice (some ⟨b, o, none⟩) j len) :: sl, hp⟩ Q) : Tr C ops ((c, ⟨some d, .slice xT x none (some hi) none, ty, pos, af, g⟩) :: rest) ⟨sl, hp⟩ Q :=
  .pv hg hk ⟨by simpa [Known, Op.operands] using known2 hx hlo, fun ρ hfi w => by
    have h1 := hfi x (by simp [Op.operands]); rw [hx] at h1
    have h2 := hfi hi (by simp [Op.operands]); rw [hlo] at h2
    simp only [Option.some.injEq] at h1 h2
    subst hj
    have e : ¬ (len = 0) := by omega
    simp [execOp, Instr.sliceAt, ← h1, ← h2, run_underlying hu, Instr.sureAddr, Instr.sliceBounds, Instr.sliceBound, asIntOf, run_sz hs, B0, e, hlt]⟩ k

theorem Tr.slice3 {x lo hi mx : Operand} {b o n cap : Nat} {T E : TypeId} {kl kh km : IntKind} {l h m : Int} {sz : Nat} (i j t : Nat) (hg : Al ops sl g = true) (hk : okD c d C.N = true) (hx : Aj sl x = some (.slice (some ⟨b, o, none⟩) n cap)) (hl : Aj sl lo = some (.int kl l)) (hh : Aj sl hi = some (.int kh h)) (hm : Aj sl mx = some (.int km m)) (hi' : l = i) (hj : h = j) (ht : m = t) (hij : i ≤ j) (hjt : j ≤ t) (htc : t ≤ cap)
    (hu : C.P.underlying T = some (.slice E)) (hs : Sz C.P E sz)
    (k : Tr C ops rest ⟨(d, .slice (some ⟨b, if t = i then o else o + i * sz, none⟩) (j - i) (t - i)) :: sl, hp⟩ Q) : Tr C ops ((c, ⟨some d, .slice T x (some lo) (some hi) (some mx), ty, pos, af, g⟩) :: rest) ⟨sl, hp⟩ Q :=
  .pv hg hk ⟨fun z hz => by
    simp [Op.operands] at hz
    rcases hz with rfl | rfl | rfl | rfl
    · simp [hx]
    · simp [hl]
    · simp [hh]
    · simp [hm], fun ρ hfi w => by
    have h1 := hfi x (by simp [Op.operands]); rw [hx] at h1
    have h2 := hfi lo (by simp [Op.operands]); rw [hl] at h2
    have h3 := hfi hi (by simp [Op.operands]); rw [hh] at h3
    have h4 := hfi mx (by simp [Op.operands]); rw [hm] at h4
    simp only [Option.some.injEq] at h1 h2 h3 h4
    subst hi'
    subst hj
    subst ht
    by_cases e : t = i
    · subst e
      simp [execOp, Instr.sliceAt, Instr.slice, ← h1, ← h2, ← h3, ← h4, run_underlying hu, Instr.sliceBounds, Instr.sliceBound, asIntOf, run_sz hs, B0, hjt, hij, htc]
    · simp [execOp, Instr.sliceAt, Instr.slice, ← h1, ← h2, ← h3, ← h4, run_underlying hu, Instr.sliceBounds, Instr.sliceBound, asIntOf, run_sz hs, B0, e, hjt, hij, htc]⟩ k
end

def YOp (C : Cx) (y : Oper) (s : St) (K : St → Prop) : Prop := y.guard = none ∧ ∀ a w, Rep C s a w → y.wpIn Fence.wide 0 C.P a w (fun a' w' => ∃ s2, Rep C s2 a' w' ∧ K s2) (fun _ _ _ => False)

theorem Sat.regionY {C : Cx} {id : Nat} {ops : List Oper} {s : St} {Q : Exit → St → Prop} (k : Nat) {y : Oper} (hy : ops[k]? = some y) (hnd : noDefer ops.toArray = true)
    (h : Tr C ops.toArray ((ops.take k).map fun o => (4, o)) s (fun s1 => YOp C y s1 fun s2 => Tr C ops.toArray ((ops.drop (k + 1)).map fun o => (4, o)) s2 (Q .normal))) : Sat C (.region id ops.toArray false) s Q := by
  intro a w r
  refine wpIn_wide (n := 0).1 ?_
  refine wpIn_mono (Q := Fin C (Q .normal)) ?_ fun e a' w' ⟨he, s', r', q⟩ => by subst he; exact ⟨s', r', q⟩
  have hk : k < ops.length := by
    rcases Nat.lt_or_ge k ops.length with h1 | h1
    · exact h1
    · rw [List.getElem?_eq_none h1] at hy; cases hy
  refine wpIn_region ?_
  have e : List.range ops.toArray.size = List.range k ++ k :: List.range' (k + 1) (ops.length - (k + 1)) := by
    rw [List.size_toArray, List.range_eq_range', List.range_eq_range', show ops.length = k + (1 + (ops.length - (k + 1))) by omega, ← List.range'_append_1, ← List.range'_append_1]
    simp
    omega
  rw [e]
  have hB : ∀ s2 a w, Rep C s2 a w → Tr C ops.toArray ((ops.drop (k + 1)).map fun o => (4, o)) s2 (Q .normal) → wpOpsIn Fence.wide 0 C.P ops.toArray (Fin C (Q .normal)) (List.range' (k + 1) (ops.length - (k + 1))) a w := fun s2 a w r2 h2 => by
    refine wpOps_in (ro := none) hnd fin_out _ _ _ (wpOps_of_tr _ _ s2 a w _ sP (fun j => ?_) r2 h2 fun s' a' w' r' q => ⟨rfl, s', r', q⟩)
    by_cases hj : j < ops.length - (k + 1)
    · rw [List.getElem?_range' hj]
      simp only [Option.bind_some, List.getElem?_map, List.getElem?_drop, List.getElem?_toArray, Nat.one_mul]
      cases ops[k + 1 + j]? <;> rfl
    · rw [List.getElem?_eq_none (by simp; omega), List.getElem?_map, List.getElem?_drop, List.getElem?_eq_none oM]
      rfl
  have hA : ∀ (l : List (Nat × Oper)) (is : List Nat) (s : St) (a : Act) (w : World), is.length = l.length → (∀ j : Nat, (is[j]?).bind (fun i => ops.toArray[i]?) = (l[j]?).map Prod.snd) → Rep C s a w →
      Tr C ops.toArray l s (fun s1 => YOp C y s1 fun s2 => Tr C ops.toArray ((ops.drop (k + 1)).map fun o => (4, o)) s2 (Q .normal)) →
      wpOpsIn Fence.wide 0 C.P ops.toArray (Fin C (Q .normal)) (is ++ k :: List.range' (k + 1) (ops.length - (k + 1))) a w := by
    intro l
    induction l with
    | nil =>
      intro is s a w hl _ r h
      have : is = [] := List.eq_nil_of_length_eq_zero hl
      subst this
      cases h with
      | dup h => exact absurd r.rh.nodup h
      | nil h =>
        rw [List.nil_append, wpOpsIn_cons]
        unfold wpOpIn
        have hy' : ops.toArray[k]? = some y := by simpa using hy
        rw [hy']
        simp only
        rw [if_pos (by unfold Region.wanted; rw [h.1])]
        have := h.2 a w r
        refine Oper.wpIn_mono (K := fun a' w' => ∃ s2, Rep C s2 a' w' ∧ Tr C ops.toArray ((ops.drop (k + 1)).map fun o => (4, o)) s2 (Q .normal)) (fun a' w' ⟨s2, r2, h2⟩ => hB s2 a' w' r2 h2) ?_
        unfold Oper.wpIn at this ⊢
        refine ⟨this.1, ?_⟩
        have := this.2
        generalize (y.semAt Fence.wide.round a.eval).run C.P w = res at this ⊢
        cases res with
        | ok x w' =>
          cases x <;> simp only [Oper.uponIn] at this ⊢
          case value => exact this
          case skip => exact this
          case defer => exact this
          case enter f args =>
            refine ⟨this.1, CallsIn.mono this.2 fun e w'' he => ?_⟩
            cases e with
            | returned v => exact he
            | panicked ch => exact he.elim
            | outgrown => exact he.elim (fun _ hx => hx.elim (fun _ hy => hy.elim))
          case row row args => exact this
          case round l f tmps ars bd =>
            refine ⟨this.1, RoundIn.mono this.2 fun e w'' he => ?_⟩
            cases e with
            | returned v => exact he
            | panicked ch => exact he.elim
            | outgrown => exact he.elim (fun _ hx => hx.elim (fun _ hy => hy.elim))
        | halt x w' => cases x <;> simp only [Oper.uponIn] at this
    | cons p l ih =>
      intro is s a w hl he r h
      obtain ⟨c, o⟩ := p
      cases is with
      | nil => cases hl
      | cons i is =>
        rw [List.cons_append, wpOpsIn_cons]
        have h0 : ops.toArray[i]? = some o := by simpa using he 0
        refine wpOp_in (ro := none) (X := Fin C (Q .normal)) (Tr.step h0 h a w r _ (fun s' a' w' r' k' => ?_) _) hnd fin_out
        exact ih is s' a' w' (by simpa using hl) (fun j => by simpa using he (j + 1)) r' k'
  refine hA _ (List.range k) s a w (by simp; omega) (fun j => ?_) r h
  by_cases hj : j < k
  · rw [List.getElem?_range hj]
    simp only [Option.bind_some, List.getElem?_map, List.getElem?_toArray]
    rw [List.getElem?_take_of_lt hj]
    cases ops[j]? <;> rfl
  · rw [List.getElem?_eq_none (by simp; omega), List.getElem?_map, List.getElem?_eq_none (by simp; omega)]
    rfl

theorem yop {P : Program} {w1 : World} {N : Nat} {names : List Nat} {sl : List (Nat × Value)} {hp hp' : List Blk} {d : Nat} {ty : TypeId} {pos : String} {af : Array Edge} {f x : Operand} {ats : Array TypeId} {l : Nat} {v : Value} {K : St → Prop} (hd : Nat.blt d N = true)
    (hf : Aj sl f = some (.func (.yield l) #[] #[])) (hx : Aj sl x = some v) (hY : ∀ w, HRep ⟨P, w1, 0, names, [], []⟩ hp w → YieldAt Fence.wide 0 P l #[v] w fun e w' => e = .returned (.bool true) ∧ HRep ⟨P, w1, 0, names, [], []⟩ hp' w')
    (k : K ⟨(d, .bool true) :: sl, hp'⟩) : YOp ⟨P, w1, N, names, [], []⟩ ⟨some d, .call ⟨.value f, #[x], ats⟩, ty, pos, af, none⟩ ⟨sl, hp⟩ K := by
  refine ⟨rfl, fun a w r => ?_⟩
  have h1 := r.rs.eval hf
  have h2 := r.rs.eval hx
  obtain ⟨fn, tmps, ars, bd, hrun, hR⟩ := hY w ⟨r.rh.cells, r.rh.nodup, r.rh.own, r.rh.keeps, r.rh.kok, r.rh.kd⟩
  refine ⟨fun _ _ => trivial, ?_⟩
  rw [show (Oper.semAt Fence.wide.round a.eval ⟨some d, .call ⟨.value f, #[x], ats⟩, ty, pos, af, none⟩).run P w = .ok (.round l fn tmps ars bd) w by
    rw [Oper.semAt_eq _ _ _ (by intro c hc; cases hc)]
    simp [execOp, resolve, Deferred.ofValue, h1, h2, invoke, hrun]]
  simp only [Oper.uponIn]
  refine ⟨fun h0 => (by cases h0), RoundIn.mono hR fun e w' ⟨he, hh⟩ => ?_⟩
  subst he
  exact ⟨⟨(d, .bool true) :: sl, hp'⟩, ⟨r.rs.put (some d) (.bool true) fun t ht => by cases ht; exact nblt hd, hh.cells, hh.nodup, hh.own, hh.keeps, hh.kok, hh.kd⟩, k⟩

theorem HRep.base {P : Program} {w : World} {N : Nat} {names : List Nat} {hp : List Blk} (hc : ∀ b ∈ hp, BlkOk w b) (hn : hp.map (·.n) = names) (hd : names.Nodup) : HRep ⟨P, w, N, names, [], []⟩ hp w :=
  ⟨hc, by rw [hn]; exact hd, fun b hb => .inr (by rw [← hn]; exact List.mem_map.2 ⟨b, hb, rfl⟩), Keeps.refl _ _, fun _ h => (by cases h), fun _ _ _ h => (by cases h)⟩
theorem HRep.reN {P : Program} {w w' : World} {N N' : Nat} {names : List Nat} {hp : List Blk} (h : HRep ⟨P, w, N, names, [], []⟩ hp w') : HRep ⟨P, w, N', names, [], []⟩ hp w' :=
  ⟨h.cells, h.nodup, h.own, h.keeps, h.kok, h.kd⟩

theorem wpIn_range {C : Cx} {sl : List (Nat × Value)} {g : Operand} {p0 : Tmp} {assign body : Code} {QQ : Exit → Act → World → Prop} {a : Act} {w : World} {gf : Nat} {lb : Array Value} (hpF : Nat → List Blk) (names : List Nat) (enc : Nat → Value) (K : Nat) (slA : Nat → List (Nat × Value))
    (hrep : Rep C ⟨sl, hpF 0⟩ a w) (hkb : C.kb = []) (hg : Aj sl g = some (.func (.func gf) #[] lb)) (eg : A4 C.P gf) (hp0 : p0 < C.N) (hnames : ∀ i, (hpF i).map (·.n) = names)
    (iter : ∀ (l : Nat) (w1 : World), HRep ⟨C.P, w1, 0, names, [], []⟩ (hpF 0) w1 →
      (∀ i, i < K → ∀ W, HRep ⟨C.P, w1, 0, names, [], []⟩ (hpF i) W → YieldAt Fence.wide 0 C.P l #[enc i] W fun e W' => e = .returned (.bool true) ∧ HRep ⟨C.P, w1, 0, names, [], []⟩ (hpF (i + 1)) W') →
      CallsIn Fence.wide 0 C.P gf (#[.func (.yield l) #[] #[]] ++ lb) w1 fun e W' => (∃ v, e = .returned v) ∧ HRep ⟨C.P, w1, 0, names, [], []⟩ (hpF K) W')
    (hassign : ∀ i, i < K → ∀ l W, HRep ⟨C.P, W, C.N, names, [], []⟩ (hpF i) W → SatI (some l) ⟨C.P, W, C.N, names, [], []⟩ assign ⟨(p0, enc i) :: sl, hpF i⟩ (fun s' => s'.hp = hpF i ∧ s'.sl = slA i))
    (hbody : ∀ i, i < K → ∀ l W, HRep ⟨C.P, W, C.N, names, [], []⟩ (hpF i) W → SatI (some l) ⟨C.P, W, C.N, names, [], []⟩ body ⟨slA i, hpF i⟩ (fun s' => s'.hp = hpF (i + 1)))
    (hdone : ∀ D W, HRep C (hpF K) W → W.heap[D]? = some (.deferred (some [])) → C.W0.heap.size ≤ D → D ∉ names → QQ .normal { a with defers := { target := .collected D, args := #[] } :: a.defers } W) :
    (Code.rangeFunc g #[p0] assign body).wpIn Fence.wide 0 C.P QQ a w := by
  have hnd : names.Nodup := by rw [← hnames 0]; exact hrep.rh.nodup
  have hlt : ∀ k ∈ names, k < w.heap.size := fun k hk => by
    rw [← hnames 0] at hk
    obtain ⟨b, hb, rfl⟩ := List.mem_map.1 hk
    exact (hrep.rh.cells b hb).lt
  have inN : ∀ i, ∀ b ∈ hpF i, b.n ∈ names := fun i b hb => by rw [← hnames i]; exact List.mem_map.2 ⟨b, hb, rfl⟩
  refine wpIn_rangeFunc ?_
  intro fn _
  obtain ⟨rec, hrec⟩ : ∃ rec : LoopState → Option Code → Loop, rec = fun st pe => { state := st, pending := pe, fn, tmps := a.tmps, params := #[p0], assign, body, defers := w.heap.size } := ⟨_, rfl⟩
  obtain ⟨w1, hw1⟩ : ∃ w1, (w.alloc (.deferred (some []))).alloc (.loop (rec .ready none)) = w1 := ⟨_, rfl⟩
  have hsz1 : w1.heap.size = w.heap.size + 2 := by rw [← hw1]; simp
  have hL1 : w1.heap[w.heap.size + 1]? = some (.loop (rec .ready none)) := by
    rw [← hw1]; have := World.alloc_heap_new (w.alloc (.deferred (some []))) (.loop (rec .ready none)); rwa [World.size_alloc] at this
  have hK1 : w1.heap[w.heap.size]? = some (.deferred (some [])) := by
    rw [← hw1]; exact (Below.heap_alloc _ _ _ sP).trans (World.alloc_heap_new w _)
  have hold : ∀ k, k < w.heap.size → w1.heap[k]? = w.heap[k]? := fun k hk => by
    rw [← hw1]; exact (Below.heap_alloc _ _ _ (by simp; omega)).trans (Below.heap_alloc _ _ _ hk)
  have hH : HRep ⟨C.P, w1, 0, names, [], []⟩ (hpF 0) w1 := HRep.base (fun b hb => (hrep.rh.cells b hb).of_heap (hold _ (hrep.rh.cells b hb).lt)) (hnames 0) hnd
  have lN : w.heap.size + 1 ∉ names := fun h => by have := hlt _ h; omega
  have dN : w.heap.size ∉ names := fun h => by have := hlt _ h; omega
  refine ⟨w.heap.size + 1, [{ target := .collected w.heap.size, args := #[] }], w1, { target := .fn (.func gf) lb, args := #[.func (.yield (w.heap.size + 1)) #[] #[]] }, w1, gf,
    #[.func (.yield (w.heap.size + 1)) #[] #[]] ++ lb, w1, ?_, ?_, fun _ _ => trivial, ?_, fun h => (by cases h), ?_⟩
  · rw [← hw1, hrec]; exact run_enterLoop_outer _ _ _ _ _
  · have := hrep.rs.eval hg
    simp only [resolve, this]
    simp [go_sem]
  · have := eg (#[.func (.yield (w.heap.size + 1)) #[] #[]] ++ lb) w1
    simpa [invoke] using this
  refine (iter (w.heap.size + 1) w1 hH fun i hi W hh => ?_).mono ?_
  · -- one round
    have hl : W.heap[w.heap.size + 1]? = some (.loop (rec .ready none)) := (hh.keeps.block _ (by show _ < w1.heap.size; omega) lN).trans hL1
    have hy := run_yield (P := C.P) (args := #[enc i]) hl (by rw [hrec]; rfl)
    rw [hrec] at hy
    have rep0 : Rep ⟨C.P, W, C.N, names, [], []⟩ ⟨(p0, enc i) :: sl, hpF i⟩ { tmps := (#[p0].zip #[enc i]).foldl (fun t (p, v) => t.setIfInBounds p v) a.tmps, defers := [] } W := by
      refine ⟨?_, HRep.base hh.cells (hnames i) hnd⟩
      have s0 : SRep [] C.N sl ⟨a.tmps, []⟩ := ⟨hrep.rs.size, rfl, hrep.rs.slots⟩
      have s1 := s0.put (some p0) (enc i) fun t ht => by cases ht; exact hp0
      have e : (#[p0].zip #[enc i]).foldl (fun t (p, v) => t.setIfInBounds p v) a.tmps = a.tmps.setIfInBounds p0 (enc i) := by simp
      rw [e]
      exact s1
    refine ⟨fn, _, assign, body, hy, roundIn_of_wpIn trivial ?_⟩
    refine wpIn_mono (hassign i hi (w.heap.size + 1) W (HRep.base hh.cells (hnames i) hnd) _ _ rep0) fun e a1 W1 ⟨he, s1, r1, hs1, hs2⟩ => ?_
    subst he
    have hl1 : W1.heap[w.heap.size + 1]? = some (.loop (rec .ready none)) := (r1.rh.keeps.block _ (Array.getElem?_eq_some_iff.1 hl).1 lN).trans hl
    have hlt1 := (Array.getElem?_eq_some_iff.1 hl1).1
    refine ⟨_, run_beginRound hl1 (by rw [hrec]), ?_⟩
    obtain ⟨W2, hW2⟩ : ∃ W2, W1.putObj (w.heap.size + 1) (.loop { rec .ready none with state := .busy }) = W2 := ⟨_, rfl⟩
    rw [hW2]
    have ne1 : ∀ j, ∀ b ∈ hpF j, b.n ≠ w.heap.size + 1 := fun j b hb e => lN (e ▸ inN j b hb)
    have hc2 : ∀ b ∈ hpF i, BlkOk W2 b := fun b hb => by
      rw [← hs1] at hb
      refine (r1.rh.cells b hb).of_heap ?_
      rw [← hW2]
      rw [hs1] at hb
      exact World.putObj_heap_other (ne1 i b hb)
    have hl2 : W2.heap[w.heap.size + 1]? = some (.loop { rec .ready none with state := .busy }) := by rw [← hW2]; exact World.putObj_heap_same hlt1
    have rep2 : Rep ⟨C.P, W2, C.N, names, [], []⟩ ⟨slA i, hpF i⟩ a1 W2 := ⟨by have := r1.rs; rw [hs2] at this; exact this, HRep.base hc2 (hnames i) hnd⟩
    refine wpIn_mono (hbody i hi (w.heap.size + 1) W2 (HRep.base hc2 (hnames i) hnd) _ _ rep2) fun e a3 W3 ⟨he, s3, r3, hs3⟩ => ?_
    subst he
    have hl3 : W3.heap[w.heap.size + 1]? = some (.loop { rec .ready none with state := .busy }) := (r3.rh.keeps.block _ (Array.getElem?_eq_some_iff.1 hl2).1 lN).trans hl2
    have hend := run_endRound (P := C.P) none hl3
    refine ⟨_, _, hend, rfl, ?_⟩
    have hlt3 := (Array.getElem?_eq_some_iff.1 hl3).1
    refine ⟨fun b hb => ?_, by rw [hnames]; exact hnd, fun b hb => .inr (inN _ b hb), ?_, fun _ h => (by cases h), fun _ _ _ h => (by cases h)⟩
    · refine BlkOk.of_heap (r3.rh.cells b (by rw [hs3]; exact hb)) ?_
      exact World.putObj_heap_other (ne1 _ b hb)
    · have k1 := hh.keeps
      have k2 := r1.rh.keeps
      have k3 := r3.rh.keeps
      have os2 : W2.os = W1.os := by rw [← hW2]; rfl
      have tp2 : W2.tape = W1.tape := by rw [← hW2]; rfl
      have ot2 : W2.output = W1.output := by rw [← hW2]; rfl
      have sz2 : W2.heap.size = W1.heap.size := by rw [← hW2]; simp [World.putObj]
      refine ⟨k3.os.trans (os2.trans (k2.os.trans k1.os)), k3.tape.trans (tp2.trans (k2.tape.trans k1.tape)), k3.output.trans (ot2.trans (k2.output.trans k1.output)), ?_, fun j hj hjn => ?_⟩
      · have h1 := k1.size
        have h2 := k2.size
        have h3 := k3.size
        show w1.heap.size ≤ _
        have : (W3.putObj (w.heap.size + 1) (.loop { rec .ready none with state := .ready })).heap.size = W3.heap.size := by simp [World.putObj]
        simp only [World.putObj, Array.size_setIfInBounds]
        simp only at h1 h2 h3
        omega
      · by_cases hjl : j = w.heap.size + 1
        · subst hjl
          rw [hL1]
          refine (World.putObj_heap_same hlt3).trans ?_
          rw [hrec]
          rfl
        · refine (World.putObj_heap_other hjl).trans ?_
          have h1 := k1.size
          have h2 := k2.size
          simp only at h1 h2 hj
          refine (k3.block j (by simp only; omega) hjn).trans ?_
          simp only
          rw [← hW2]
          refine (World.putObj_heap_other hjl).trans ?_
          exact (k2.block j (by simp only; omega) hjn).trans (k1.block j hj hjn)
  · -- behind the iterator
    rintro e W ⟨⟨v, rfl⟩, hh⟩
    have hl : W.heap[w.heap.size + 1]? = some (.loop (rec .ready none)) := (hh.keeps.block _ (by show _ < w1.heap.size; omega) lN).trans hL1
    have hd : W.heap[w.heap.size]? = some (.deferred (some [])) := (hh.keeps.block _ (by simp only; omega) dN).trans hK1
    refine ⟨none, _, by have := run_endLoop (P := C.P) hl (by rw [hrec]; simp); rw [hrec] at this; exact this, ?_⟩
    have kw := hrep.rh.keeps
    refine hdone w.heap.size _ ⟨fun b hb => (hh.cells b hb).of_heap (World.putObj_heap_other fun e => lN (e ▸ inN K b hb)), by rw [hnames]; exact hnd, fun b hb => ?_, ?_, by rw [hkb]; exact fun _ h => (by cases h), by rw [hkb]; exact fun _ _ _ h => (by cases h)⟩
      ((World.putObj_heap_other oM).trans hd) kw.size dN
    · have := inN K b hb
      rw [← hnames 0] at this
      obtain ⟨b0, hb0, e⟩ := List.mem_map.1 this
      rw [← e]
      exact hrep.rh.own b0 hb0
    · have k1 := hh.keeps
      have osw : w1.os = w.os ∧ w1.tape = w.tape ∧ w1.output = w.output := by rw [← hw1]; exact ⟨rfl, rfl, rfl⟩
      refine ⟨k1.os.trans (osw.1.trans kw.os), k1.tape.trans (osw.2.1.trans kw.tape), k1.output.trans (osw.2.2.trans kw.output), ?_, fun j hj hjn => ?_⟩
      · have h1 := k1.size
        have h2 := kw.size
        simp only [World.putObj, Array.size_setIfInBounds]
        simp only at h1
        omega
      · have h2 := kw.size
        have hjN : j ∉ names := fun h => by
          rw [← hnames 0] at h
          obtain ⟨b0, hb0, e⟩ := List.mem_map.1 h
          rcases hrep.rh.own b0 hb0 with h3 | h3
          · omega
          · exact hjn (e ▸ h3)
        refine (World.putObj_heap_other oM).trans ?_
        exact (k1.block j (by simp only; omega) hjN).trans ((hold j oM).trans (kw.block j hj hjn))

def endAtA (P : Program) (N : Nat) (ds : List Deferred) (fn : Func) (R : Value → List Blk → Prop) (s : St) : Prop :=
  ∃ v out, (∀ W names, Res ⟨P, W, N, names, [], ds⟩ fn s v) ∧ (∀ b ∈ out, b ∈ s.hp) ∧ ((s.hp.map (·.n)).Nodup → (out.map (·.n)).Nodup) ∧ R v out
def endQA (P : Program) (N : Nat) (ds : List Deferred) (fn : Func) (R : Value → List Blk → Prop) : Exit → St → Prop
  | .normal, s | .ret, s => endAtA P N ds fn R s
  | _, _ => False
theorem enA_r {P : Program} {N : Nat} {ds : List Deferred} {fn : Func} {R : Value → List Blk → Prop} {s : St} (h : endAtA P N ds fn R s) : endQA P N ds fn R .ret s := h
def RangeSt (P : Program) (W : World) (N : Nat) (fn : Func) (g : Operand) (p0 : Tmp) (assign body tail : Code) (R : Value → List Blk → Prop) (s : St) : Prop :=
  ∃ (gf : Nat) (lb : Array Value) (hpF : Nat → List Blk) (names : List Nat) (enc : Nat → Value) (K : Nat) (slA : List (Nat × Value) → Nat → List (Nat × Value)), s.hp = hpF 0 ∧ Aj s.sl g = some (.func (.func gf) #[] lb) ∧ A4 P gf ∧ p0 < N ∧ (∀ i, (hpF i).map (·.n) = names) ∧
    (∀ (l : Nat) (w1 : World), HRep ⟨P, w1, 0, names, [], []⟩ (hpF 0) w1 →
      (∀ i, i < K → ∀ W, HRep ⟨P, w1, 0, names, [], []⟩ (hpF i) W → YieldAt Fence.wide 0 P l #[enc i] W fun e W' => e = .returned (.bool true) ∧ HRep ⟨P, w1, 0, names, [], []⟩ (hpF (i + 1)) W') →
      CallsIn Fence.wide 0 P gf (#[.func (.yield l) #[] #[]] ++ lb) w1 fun e W' => (∃ v, e = .returned v) ∧ HRep ⟨P, w1, 0, names, [], []⟩ (hpF K) W') ∧
    (∀ i, i < K → ∀ l W, HRep ⟨P, W, N, names, [], []⟩ (hpF i) W → SatI (some l) ⟨P, W, N, names, [], []⟩ assign ⟨(p0, enc i) :: s.sl, hpF i⟩ (fun s' => s'.hp = hpF i ∧ s'.sl = slA s.sl i)) ∧
    (∀ i, i < K → ∀ l W, HRep ⟨P, W, N, names, [], []⟩ (hpF i) W → SatI (some l) ⟨P, W, N, names, [], []⟩ body ⟨slA s.sl i, hpF i⟩ (fun s' => s'.hp = hpF (i + 1))) ∧
    (∀ D W2, Sat ⟨P, W2, N, names, [], [{ target := .collected D, args := #[] }]⟩ tail ⟨s.sl, hpF K⟩ (endQA P N [{ target := .collected D, args := #[] }] fn R))

theorem calls_range {P : Program} {f : FuncId} {fn : Func} {R0 R1 assign body tail : Code} {id : Nat} {g : Operand} {p0 : Tmp} {args : List Value} {W : World} {R : Value → List Blk → Prop}
    (hf : P.funcs[f]? = some fn) (hb : fn.body = some (.seq R0 (.seq (.seq R1 (.block id (.rangeFunc g #[p0] assign body))) tail))) (N : Nat) (hN : fn.ntmps = N) (hlen : Nat.ble args.length N = true)
    (h : Sat ⟨P, W, N, [], [], []⟩ R0 ⟨argSlots 0 args, []⟩ (thenQ (fun s' => Sat ⟨P, W, N, [], [], []⟩ R1 s' (thenQ (RangeSt P W N fn g p0 assign body tail R) (fun _ _ => False))) (fun _ _ => False))) :
    Calls P f args.toArray W fun e W' => ∃ v out, e = .returned v ∧ R v out ∧ Ret [] out W W' := by
  have hlen := Nat.le_of_ble_eq_true hlen
  subst hN
  refine callsIn_wide.1 (callsIn_of_wp_marks (F := Fence.wide) (n := 0) hf hb trivial ?_)
  have rep0 : Rep ⟨P, W, fn.ntmps, [], [], []⟩ ⟨argSlots 0 args, []⟩ { tmps := args.toArray ++ Array.replicate (fn.ntmps - args.toArray.size) undef, defers := [] } W := by
    refine ⟨⟨?_, rfl, fun t v ht => ?_⟩, HRep.nil _⟩
    · simp; omega
    · have := argSlots_look args 0 t v ht
      rw [Array.getElem?_append]
      have hlt : t < args.length := by
        rcases Nat.lt_or_ge t args.length with h1 | h1
        · exact h1
        · rw [List.getElem?_eq_none oM] at this; cases this.2
      simp only [List.size_toArray]
      rw [if_pos hlt]
      simpa using this.2
  refine wpIn_seq (wpIn_wide.2 (wp_mono (h _ _ rep0) fun e a w ⟨s, r, q⟩ => ?_))
  cases e with
  | normal =>
    refine wpIn_seq (wpIn_seq (wpIn_wide.2 (wp_mono (q a w r) fun e a1 w1 ⟨s1, r1, q1⟩ => ?_)))
    cases e with
    | normal =>
      obtain ⟨gf, lb, hpF, names, enc, K, slA, hs, hg, eg, hp0, hnames, iter, hassign, hbody, htail⟩ := q1
      obtain ⟨sl, hp⟩ := s1
      simp only at hs hg hassign htail
      subst hs
      refine wpIn_block (wpIn_range (C := ⟨P, W, fn.ntmps, [], [], []⟩) hpF names enc K (slA sl) r1 rfl hg eg hp0 hnames iter hassign hbody fun D W2 hh hD hDl hDn => ?_)
      refine wpIn_wide.2 ?_
      have hnd : names.Nodup := by rw [← hnames K]; exact hh.nodup
      have rep2 : Rep ⟨P, W2, fn.ntmps, names, [], [{ target := .collected D, args := #[] }]⟩ ⟨sl, hpF K⟩ { a1 with defers := { target := .collected D, args := #[] } :: a1.defers } W2 := by
        refine ⟨⟨r1.rs.size, ?_, r1.rs.slots⟩, hh.cells, hh.nodup, fun b hb => .inr ?_, Keeps.refl _ _, fun _ h => (by cases h), fun _ _ _ h => (by cases h)⟩
        · show _ :: a1.defers = _
          rw [r1.rs.defers]
        · show b.n ∈ names
          rw [← hnames K]; exact List.mem_map.2 ⟨b, hb, rfl⟩
      refine wp_mono (htail D W2 _ _ rep2) fun e a3 W3 ⟨s3, r3, q3⟩ => ?_
      have own : ∀ b : Blk, (W2.heap.size ≤ b.n ∨ b.n ∈ names) → W.heap.size ≤ b.n := fun b hb => by
        rcases hb with h1 | h1
        · exact Nat.le_trans hh.keeps.size h1
        · rw [← hnames K] at h1
          obtain ⟨b0, hb0, e⟩ := List.mem_map.1 h1
          rcases hh.own b0 hb0 with h2 | h2
          · rw [← e]; exact h2
          · cases h2
      have fin : endAtA P fn.ntmps [{ target := .collected D, args := #[] }] fn R s3 → LeavesInM Fence.wide 0 P fn a3.tmps (fun e W' => ∃ v out, e = .returned v ∧ R v out ∧ Ret [] out W W') a3.defers .returning W3 := by
        rintro ⟨v, out, hr, hsub, hnd3, hR⟩
        have hd3 : a3.defers = [{ target := .collected D, args := #[] }] := r3.rs.defers
        rw [hd3]
        have hD3 : W3.heap[D]? = some (.deferred (some [])) := (r3.rh.keeps.block D (Array.getElem?_eq_some_iff.1 hD).1 hDn).trans hD
        refine ⟨by simp, .inl ⟨D, _, rfl, run_takeDeferred hD3, ?_⟩⟩
        have hDout : ∀ b ∈ s3.hp, b.n ≠ D := fun b hb e => by
          obtain ⟨full, fr, hbk⟩ := r3.rh.cells b hb
          have := hbk.heap
          rw [e, hD3] at this
          cases this
        have rep4 : Rep ⟨P, W3.putObj D (.deferred none), fn.ntmps, s3.hp.map (·.n), [], [{ target := .collected D, args := #[] }]⟩ s3 a3 (W3.putObj D (.deferred none)) :=
          ⟨⟨r3.rs.size, r3.rs.defers, r3.rs.slots⟩, fun b hb => (r3.rh.cells b hb).of_heap (World.putObj_heap_other (hDout b hb)), r3.rh.nodup, fun b hb => .inr (List.mem_map.2 ⟨b, hb, rfl⟩), Keeps.refl _ _, fun _ h => (by cases h), fun _ _ _ h => (by cases h)⟩
        refine ⟨v, ?_, v, out, rfl, hR, ⟨?_, fun b hb => rep4.rh.cells b (hsub b hb), hnd3 r3.rh.nodup, fun b hb => .inl (own b (r3.rh.own b (hsub b hb)))⟩⟩
        · exact hr _ _ _ _ rep4
        · have k1 := hh.keeps
          have k2 := r3.rh.keeps
          refine ⟨k2.os.trans k1.os, k2.tape.trans k1.tape, k2.output.trans k1.output, ?_, fun j hj hjn => ?_⟩
          · have h1 := k1.size
            have h2 := k2.size
            simp only [World.putObj, Array.size_setIfInBounds]
            simp only at h1 h2
            omega
          · simp only at hDl
            refine (World.putObj_heap_other oM).trans ?_
            have h1 := k1.size
            simp only at h1
            refine (k2.block j (by simp only; omega) (fun hjn2 => ?_)).trans (k1.block j hj hjn)
            have := own ⟨j, [], 0, 0⟩ (.inr hjn2)
            simp only at this
            omega
      cases e with
      | normal => exact fin q3
      | ret => exact fin q3
      | _ => exact q3.elim
    | _ => exact q1.elim
  | _ => exact q.elim
end Hw
end

section
namespace Hw
open Go Go.RowKit

theorem flat_get {m : Nat} : ∀ {cs : List (List Value)} {i j : Nat} {l : List Value}, (∀ l ∈ cs, l.length = m) → cs[i]? = some l → j < l.length → cs.flatten[i * m + j]? = l[j]?
  | [], i, j, l, _, h, _ => by simp at h
  | x :: cs, 0, j, l, hl, h, hj => by
    simp only [List.getElem?_cons_zero, Option.some.injEq] at h
    subst h
    rw [Nat.zero_mul, Nat.zero_add, List.flatten_cons, List.getElem?_append_left hj]
  | x :: cs, i + 1, j, l, hl, h, hj => by
    rw [List.getElem?_cons_succ] at h
    have hx := hl x sP
    rw [List.flatten_cons, List.getElem?_append_right (by rw [hx, Nat.add_mul]; omega), hx, show (i + 1) * m + j - m = i * m + j by rw [Nat.add_mul]; omega]
    exact flat_get (fun y hy => hl y (by simp [hy])) h hj
theorem sees_elem {w : World} {b o m i : Nat} {cs : List (List Value)} {l : List Value} (hl : ∀ l ∈ cs, l.length = m) (hs : Cb w b o cs.flatten) (hi : cs[i]? = some l) : Cb w b (o + i * m) l := fun j v hj => by
  have hlt : j < l.length := (List.getElem?_eq_some_iff.1 hj).1
  have := hs (i * m + j) v (by rw [flat_get hl hi hlt]; exact hj)
  rwa [Nat.add_assoc]

structure SeqIs {R D : Type} (cells : R → List Value) (k : Nat) (Is : World → R → D → Prop) (W : World) (s : Sl) (rs : List R) (ds : List D) : Prop where
  nr : rs.length = s.n
  nd : ds.length = s.n
  is : ∀ (i : Nat) (r : R) (d : D), rs[i]? = some r → ds[i]? = some d → Is W r d
  len : ∀ r ∈ rs, (cells r).length = k
  cap : s.n ≤ s.c
  see : SeesP W s.p (rs.map cells).flatten
  max : s.n ≤ maxLen
  nil : s.p = none → s.c = 0
section
variable {R D : Type} {cells : R → List Value} {k : Nat} {Is : World → R → D → Prop} {W w : World} {s : Sl} {rs : List R} {ds : List D}
theorem SeqIs.flat (h : SeqIs cells k Is W s rs ds) : (rs.map cells).flatten.length = s.n * k := by
  rw [← h.nr]
  have hl := h.len
  clear h
  induction rs with
  | nil => simp
  | cons r rs ih => rw [List.map_cons, List.flatten_cons, List.length_append, ih (fun x hx => hl x (by simp [hx])), hl r sP, List.length_cons, Nat.add_mul]; omega
theorem SeqIs.at (h : SeqIs cells k Is W s rs ds) (hk : 0 < k) {i : Nat} (hi : i < s.n) : ∃ b o r d, s.p = some ⟨b, o, none⟩ ∧ rs[i]? = some r ∧ ds[i]? = some d ∧ Is W r d ∧ (cells r).length = k ∧ Cb W b (o + i * k) (cells r) := by
  have h1 : i < rs.length := by rw [h.nr]; exact hi
  have h2 : i < ds.length := by rw [h.nd]; exact hi
  have h3 : 0 < s.n * k := Nat.mul_pos oM hk
  obtain ⟨b, o, hp, hs⟩ := h.see.at (by rw [h.flat]; exact h3)
  have e1 := List.getElem?_eq_getElem h1
  have e2 := List.getElem?_eq_getElem h2
  refine ⟨b, o, rs[i], ds[i], hp, e1, e2, h.is i _ _ e1 e2, h.len _ (List.getElem_mem h1), ?_⟩
  exact sees_elem (cs := rs.map cells) (fun l hl => by obtain ⟨r, hr, rfl⟩ := List.mem_map.1 hl; exact h.len r hr) hs (by rw [List.getElem?_map, e1]; rfl)
theorem SeqIs.ext {C : Cx} {hp : List Blk} (hh : HRep C hp w) (hl : C.lent = []) (hIs : ∀ r d, Is C.W0 r d → Is w r d) (h : SeqIs cells k Is C.W0 s rs ds) : SeqIs cells k Is w s rs ds :=
  ⟨h.nr, h.nd, fun i r d h1 h2 => hIs r d (h.is i r d h1 h2), h.len, h.cap, Aw hh hl h.see, h.max, h.nil⟩
theorem SeqIs.none : SeqIs cells k Is W Sl.nil [] [] :=
  ⟨rfl, rfl, fun i r d h => (by simp at h), fun r h => (by cases h), Nat.le_refl _, SeesP.nil, Nat.zero_le _, fun _ => rfl⟩
theorem acc_seq {bl : List Blk} {E : TypeId} {n : Nat} (h : Acc s bl (rs.map cells).flatten E n k) (hl : Lies bl w) (hr : rs.length = n) (hd : ds.length = n) (hlen : ∀ r ∈ rs, (cells r).length = k) (hm : n ≤ 1000000) (his : ∀ (i : Nat) (r : R) (d : D), rs[i]? = some r → ds[i]? = some d → Is w r d) : SeqIs cells k Is w s rs ds :=
  ⟨by rw [h.num, hr], by rw [h.num, hd], his, hlen, h.cap, h.see hl, by rw [h.num]; unfold maxLen; omega, h.nilc⟩
end

structure OwnSeq {R D : Type} (cells : R → List Value) (k : Nat) (Is : World → R → D → Prop) (E : TypeId) (s : Sl) (bl bl2 : List Blk) (rs : List R) (ds : List D) (n : Nat) : Prop where
  acc : Acc s bl (rs.map cells).flatten E n k
  nr : rs.length = n
  nd : ds.length = n
  len : ∀ r ∈ rs, (cells r).length = k
  is : ∀ W2, Lies bl2 W2 → ∀ (i : Nat) (r : R) (d : D), rs[i]? = some r → ds[i]? = some d → Is W2 r d
section
variable {R D : Type} {cells : R → List Value} {k : Nat} {Is : World → R → D → Prop} {w : World} {E : TypeId} {s s' : Sl} {bl bl' bl2 bl3 : List Blk} {rs : List R} {ds : List D} {n : Nat}
theorem OwnSeq.none : OwnSeq cells k Is E Sl.nil [] [] [] [] 0 := ⟨Acc.none, rfl, rfl, fun r h => (by cases h), fun W2 _ i r d h => (by simp at h)⟩
theorem OwnSeq.seq (h : OwnSeq cells k Is E s bl bl2 rs ds n) (h1 : Lies bl w) (h2 : Lies bl2 w) (hm : n ≤ 1000000) : SeqIs cells k Is w s rs ds := acc_seq h.acc h1 h.nr h.nd h.len hm (h.is w h2)
theorem OwnSeq.snoc {r : R} {d : D} (h : OwnSeq cells k Is E s bl bl2 rs ds n) (ha : Acc s' bl' ((rs.map cells).flatten ++ cells r) E (n + 1) k) (hr : (cells r).length = k) (hi : ∀ W2, Lies bl3 W2 → Is W2 r d) : OwnSeq cells k Is E s' bl' (bl3 ++ bl2) (rs ++ [r]) (ds ++ [d]) (n + 1) := by
  refine ⟨by rw [List.map_append, List.flatten_append]; simpa using ha, by simp [h.nr], by simp [h.nd], fun x hx => ?_, fun W2 hl i x y hx hy => ?_⟩
  · rcases List.mem_append.1 hx with hx | hx
    · exact h.len x hx
    · rw [List.mem_singleton.1 hx]; exact hr
  · by_cases hn : i < n
    · rw [List.getElem?_append_left (by rw [h.nr]; exact hn)] at hx
      rw [List.getElem?_append_left (by rw [h.nd]; exact hn)] at hy
      exact h.is W2 (hl.sub fun b hb => List.mem_append_right _ hb) i x y hx hy
    · rw [List.getElem?_append_right (by rw [h.nr]; omega), h.nr] at hx
      rw [List.getElem?_append_right (by rw [h.nd]; omega), h.nd] at hy
      have e : i - n = 0 := by
        have := (List.getElem?_eq_some_iff.1 hx).1
        simp at this; omega
      rw [e] at hx hy
      simp only [List.getElem?_cons_zero, Option.some.injEq] at hx hy
      subst hx; subst hy
      exact hi W2 (hl.sub fun b hb => List.mem_append_left _ hb)
end

section
variable {C : Cx} {ops : Array Oper} {rest : List (Nat × Oper)} {sl : List (Nat × Value)} {hp : List Blk} {Q : St → Prop} {c d : Nat} {ty : TypeId} {pos : String} {af : Array Edge} {g : Option (Nat × Bool)}
variable {f : Operand} {fid : FuncId} {ars : List Operand} {ats : Array TypeId} {vs us : List Value} {fst cap : Array Value}
theorem Tr.callCV {Pre : World → Prop} {r : Value} (hg : Al ops sl g = true) (hk : okG c d C.N = true) (hfn : Aj sl f = some (.func (.func fid) fst cap)) (hargs : evs sl ars = some vs) (hus : fst.toList ++ vs ++ cap.toList = us) (hb : A4 C.P fid)
    (hc : Meets C.P fid us [] Pre fun v out => v = r ∧ out = []) (hpre : ∀ w, HRep C hp w → Pre w)
    (k : Tr C ops rest ⟨(d, r) :: sl, hp⟩ Q) : Tr C ops ((c, ⟨some d, .call ⟨.value f, ars.toArray, ats⟩, ty, pos, af, g⟩) :: rest) ⟨sl, hp⟩ Q :=
  .callC hg hk hfn hargs hus hb hc (fun l hn => ⟨r, [], ⟨rfl, rfl⟩, hn⟩) hpre fun v out h => by obtain ⟨rfl, rfl⟩ := h; exact k
end

section
variable {H : Type} {enc : TypeId × Value → H} {P : Program} {W : World} {base : Nat} {sp : Nat → Bool} {held : Bool}
theorem elems_of {R D : Type} {cells : R → List Value} {k : Nat} {Is : World → R → D → Prop} (b o : Nat) : ∀ n : Nat, (∀ i, i < n → ∃ r d, Is W r d ∧ (cells r).length = k ∧ Cb W b (o + i * k) (cells r)) →
    ∃ (rs : List R) (ds : List D), rs.length = n ∧ ds.length = n ∧ (∀ r ∈ rs, (cells r).length = k) ∧ (∀ (i : Nat) (r : R) (d : D), rs[i]? = some r → ds[i]? = some d → Is W r d) ∧ Cb W b o (rs.map cells).flatten ∧ (rs.map cells).flatten.length = n * k
  | 0, _ => ⟨[], [], rfl, rfl, fun r h => (by cases h), fun i r d h => (by simp at h), fun j v h => (by simp at h), by simp⟩
  | n + 1, h => by
    obtain ⟨rs, ds, h1, h2, h3, h4, h5, h6⟩ := elems_of b o n fun i hi => h i oM
    obtain ⟨r, d, g1, g2, g3⟩ := h n oM
    refine ⟨rs ++ [r], ds ++ [d], by simp [h1], by simp [h2], fun x hx => ?_, fun i x y hx hy => ?_, fun j v hj => ?_, ?_⟩
    · rcases List.mem_append.1 hx with hx | hx
      · exact h3 x hx
      · rw [List.mem_singleton.1 hx]; exact g2
    · by_cases hn : i < n
      · rw [List.getElem?_append_left oM] at hx hy
        exact h4 i x y hx hy
      · rw [List.getElem?_append_right oM, h1] at hx
        rw [List.getElem?_append_right oM, h2] at hy
        have e : i - n = 0 := by
          have := (List.getElem?_eq_some_iff.1 hx).1
          simp at this; omega
        rw [e] at hx hy
        simp only [List.getElem?_cons_zero, Option.some.injEq] at hx hy
        subst hx; subst hy
        exact g1
    · rw [List.map_append, List.flatten_append] at hj
      rcases Nat.lt_or_ge j (n * k) with h7 | h7
      · rw [List.getElem?_append_left oM] at hj
        exact h5 j v hj
      · rw [List.getElem?_append_right oM, h6] at hj
        have := g3 (j - n * k) v (by simpa using hj)
        rw [show o + n * k + (j - n * k) = o + j by omega] at this
        exact this
    · rw [List.map_append, List.flatten_append, List.length_append, h6, Nat.add_mul]
      simp [g2]
theorem open_seqS {R D : Type} {cells : R → List Value} {k : Nat} {Is : World → R → D → Prop} {t e : TypeId} (hu : P.underlying t = some (.slice e)) (hc : P.cellsOf e = k) (hk : 0 < k) (hel : ∀ {n : Nat} {cs : List Value} {y : DataW H × List MemPlace}, DataW.trod enc P W base sp held n e cs = some y → ∃ r d, cs = cells r ∧ Is W r d ∧ (cells r).length = k)
    {fuel : Nat} {cs : List Value} {y : DataW H × List MemPlace} (h : DataW.trod enc P W base sp held fuel t cs = some y) : ∃ s rs ds, cs = [Sl.v s] ∧ SeqIs cells k Is W s rs ds := by
  obtain ⟨s, rfl, h1, h2, h3, hx⟩ := open_sliceT hu h
  by_cases h0 : s.n = 0
  · exact ⟨s, [], [], rfl, by simp [h0], by simp [h0], fun i r d h => (by simp at h), fun r h => (by cases h), h1, SeesP.nil, Nat.le_trans h1 h2, h3⟩
  · obtain ⟨⟨b, o, sp'⟩, hp, _⟩ := hx 0 oM
    have hx' : ∀ i, i < s.n → ∃ r d, Is W r d ∧ (cells r).length = k ∧ ∀ (j : Nat) (v : Value), (cells r)[j]? = some v → W.cell? (((⟨b, o, sp'⟩ : Addr).add (i * k)).add j) = some v := fun i hi => by
      obtain ⟨a', hp', cs', n, y', hcs, ht⟩ := hx i hi
      rw [hp] at hp'
      obtain rfl : a' = ⟨b, o, sp'⟩ := by injection hp'.symm
      rw [hc] at hcs
      obtain ⟨r, d, rfl, hr, hlen⟩ := hel ht
      exact ⟨r, d, hr, hlen, (cells_at hcs).2⟩
    obtain rfl : sp' = none := by
      obtain ⟨r, d, _, hl, hv⟩ := hx' 0 oM
      obtain ⟨v, hv0⟩ : ∃ v, (cells r)[0]? = some v := ⟨_, List.getElem?_eq_getElem oM⟩
      have := hv 0 v hv0
      simpa [Addr.add] using World.cell?_spot this
    obtain ⟨rs, ds, e1, e2, e3, e4, e5, _⟩ := elems_of (W := W) (Is := Is) (cells := cells) (k := k) b o s.n fun i hi => by
      obtain ⟨r, d, hr, hl, hv⟩ := hx' i hi
      refine ⟨r, d, hr, hl, fun j v hj => ?_⟩
      have := hv j v hj
      rwa [B0, B0] at this
    exact ⟨s, rs, ds, rfl, e1, e2, e4, e3, h1, by rw [hp]; exact SeesP.of e5, Nat.le_trans h1 h2, h3⟩
end
end Hw
end

section
namespace Go.Proofs.YtdifpjmfabhpiaaGreat
open Go Hw
theorem Sz3 : Sz Tryz.prog 3 1 := by unfold Sz; kernel_rfl
theorem Sz4 : Sz Tryz.prog 4 1 := by unfold Sz; kernel_rfl
theorem Sz5 : Sz Tryz.prog 5 1 := by unfold Sz; kernel_rfl
theorem Zr5 : Zr Tryz.prog 5 (u8 0) := by unfold Zr; kernel_rfl
theorem Sz22 : Sz Tryz.prog 22 1 := by unfold Sz; kernel_rfl
theorem Sz23 : Sz Tryz.prog 23 1 := by unfold Sz; kernel_rfl
theorem Sz24 : Sz Tryz.prog 24 1 := by unfold Sz; kernel_rfl
theorem Sz25 : Sz Tryz.prog 25 1 := by unfold Sz; kernel_rfl
theorem Sz32 : Sz Tryz.prog 32 1 := by unfold Sz; kernel_rfl
theorem Zr32 : Zr Tryz.prog 32 (i64 0) := by unfold Zr; kernel_rfl
theorem B1 : Sz Tryz.prog 48 1 := by unfold Sz; kernel_rfl
theorem Bb : Sz Tryz.prog 50 32 := by unfold Sz; kernel_rfl
theorem Zr50 : Zr Tryz.prog 50 (agg (Ab (List.replicate 32 0))) := by unfold Zr; kernel_rfl
theorem Sz51 : Sz Tryz.prog 51 1 := by unfold Sz; kernel_rfl
theorem Ca : Sz Tryz.prog 53 34 := by unfold Sz; kernel_rfl
theorem Zr53 : Zr Tryz.prog 53 (agg ([u64 0] ++ (Ab (List.replicate 32 0)) ++ [.slice none 0 0])) := by unfold Zr; kernel_rfl
theorem Sz55 : Sz Tryz.prog 55 35 := by unfold Sz; kernel_rfl
theorem Zr55 : Zr Tryz.prog 55 (agg (([u64 0] ++ (Ab (List.replicate 32 0)) ++ [.slice none 0 0]) ++ [.slice none 0 0])) := by unfold Zr; kernel_rfl
theorem Sz57 : Sz Tryz.prog 57 8 := by unfold Sz; kernel_rfl
theorem Sz58 : Sz Tryz.prog 58 1 := by unfold Sz; kernel_rfl
theorem Zr58 : Zr Tryz.prog 58 (.slice none 0 0) := by unfold Zr; kernel_rfl
theorem Sz75 : Sz Tryz.prog 75 32 := by unfold Sz; kernel_rfl
theorem Sz76 : Sz Tryz.prog 76 64 := by unfold Sz; kernel_rfl
theorem Zr76 : Zr Tryz.prog 76 (agg (Ab (List.replicate 64 0))) := by unfold Zr; kernel_rfl
theorem Sz77 : Sz Tryz.prog 77 64 := by unfold Sz; kernel_rfl
theorem Sz79 : Sz Tryz.prog 79 131 := by unfold Sz; kernel_rfl
theorem Zr79 : Zr Tryz.prog 79 (agg ((Ab (List.replicate 32 0)) ++ [u64 0] ++ (Ab (List.replicate 32 0)) ++ [.slice none 0 0] ++ [.slice none 0 0] ++ (Ab (List.replicate 64 0)))) := by unfold Zr; kernel_rfl
theorem Sz81 : Sz Tryz.prog 81 132 := by unfold Sz; kernel_rfl
theorem Zr81 : Zr Tryz.prog 81 (agg ([u64 0] ++ [u64 0] ++ [i64 0] ++ (Ab (List.replicate 32 0)) ++ [u64 0] ++ (Ab (List.replicate 32 0)) ++ (Ab (List.replicate 64 0)))) := by unfold Zr; kernel_rfl
theorem Sz129 : Sz Tryz.prog 129 1 := by unfold Sz; kernel_rfl
theorem Sz204 : Sz Tryz.prog 204 1 := by unfold Sz; kernel_rfl
theorem Zr204 : Zr Tryz.prog 204 (.nilFunc) := by unfold Zr; kernel_rfl
theorem Sz219 : Sz Tryz.prog 219 4 := by unfold Sz; kernel_rfl
theorem Sz222 : Sz Tryz.prog 222 7 := by unfold Sz; kernel_rfl
theorem Zr222 : Zr Tryz.prog 222 (agg (intsV (List.replicate 7 0))) := by unfold Zr; kernel_rfl
theorem Sz252 : Sz Tryz.prog 252 8 := by unfold Sz; kernel_rfl
theorem Zr252 : Zr Tryz.prog 252 (agg (Bd (List.replicate 8 0))) := by unfold Zr; kernel_rfl
theorem Sz262 : Sz Tryz.prog 262 128 := by unfold Sz; kernel_rfl
theorem Sz267 : Sz Tryz.prog 267 80 := by unfold Sz; kernel_rfl
theorem Zr267 : Zr Tryz.prog 267 (agg (Bd (List.replicate 80 0))) := by unfold Zr; kernel_rfl
theorem Body19 : A4 Tryz.prog 19 := fun _ _ => zK
theorem Body20 : A4 Tryz.prog 20 := fun _ _ => zK
theorem Body21 : A4 Tryz.prog 21 := fun _ _ => zK
theorem Body22 : A4 Tryz.prog 22 := fun _ _ => zK
theorem Body23 : A4 Tryz.prog 23 := fun _ _ => zK
theorem Body24 : A4 Tryz.prog 24 := fun _ _ => zK
theorem Body26 : A4 Tryz.prog 26 := fun _ _ => zK
theorem Body27 : A4 Tryz.prog 27 := fun _ _ => zK
theorem Body28 : A4 Tryz.prog 28 := fun _ _ => zK
theorem Body29 : A4 Tryz.prog 29 := fun _ _ => zK
theorem Body30 : A4 Tryz.prog 30 := fun _ _ => zK
theorem Body31 : A4 Tryz.prog 31 := fun _ _ => zK
theorem Body32 : A4 Tryz.prog 32 := fun _ _ => zK
theorem Body33 : A4 Tryz.prog 33 := fun _ _ => zK
theorem Body34 : A4 Tryz.prog 34 := fun _ _ => zK
theorem Body35 : A4 Tryz.prog 35 := fun _ _ => zK
theorem Body36 : A4 Tryz.prog 36 := fun _ _ => zK
theorem Body37 : A4 Tryz.prog 37 := fun _ _ => zK
theorem Body38 : A4 Tryz.prog 38 := fun _ _ => zK
theorem Body39 : A4 Tryz.prog 39 := fun _ _ => zK
theorem Body72 : A4 Tryz.prog 72 := fun _ _ => zK
theorem Body74 : A4 Tryz.prog 74 := fun _ _ => zK
theorem Body77 : A4 Tryz.prog 77 := fun _ _ => zK
theorem Body79 : A4 Tryz.prog 79 := fun _ _ => zK
theorem Body82 : A4 Tryz.prog 82 := fun _ _ => zK
theorem Body85 : A4 Tryz.prog 85 := fun _ _ => zK
theorem Body87 : A4 Tryz.prog 87 := fun _ _ => zK
theorem Body89 : A4 Tryz.prog 89 := fun _ _ => zK
theorem Body90 : A4 Tryz.prog 90 := fun _ _ => zK
theorem Body91 : A4 Tryz.prog 91 := fun _ _ => zK
theorem Body92 : A4 Tryz.prog 92 := fun _ _ => zK
theorem Body93 : A4 Tryz.prog 93 := fun _ _ => zK
theorem Body94 : A4 Tryz.prog 94 := fun _ _ => zK
theorem Body95 : A4 Tryz.prog 95 := fun _ _ => zK
theorem Body96 : A4 Tryz.prog 96 := fun _ _ => zK
theorem Body97 : A4 Tryz.prog 97 := fun _ _ => zK
theorem Body98 : A4 Tryz.prog 98 := fun _ _ => zK
theorem Body99 : A4 Tryz.prog 99 := fun _ _ => zK
theorem Body100 : A4 Tryz.prog 100 := fun _ _ => zK
theorem Body101 : A4 Tryz.prog 101 := fun _ _ => zK
theorem Body102 : A4 Tryz.prog 102 := fun _ _ => zK
theorem Body103 : A4 Tryz.prog 103 := fun _ _ => zK
theorem Body104 : A4 Tryz.prog 104 := fun _ _ => zK
theorem Body105 : A4 Tryz.prog 105 := fun _ _ => zK
theorem Body106 : A4 Tryz.prog 106 := fun _ _ => zK
theorem Body107 : A4 Tryz.prog 107 := fun _ _ => zK
theorem Body108 : A4 Tryz.prog 108 := fun _ _ => zK
theorem Body109 : A4 Tryz.prog 109 := fun _ _ => zK
theorem Body110 : A4 Tryz.prog 110 := fun _ _ => zK
theorem Body111 : A4 Tryz.prog 111 := fun _ _ => zK
theorem Body112 : A4 Tryz.prog 112 := fun _ _ => zK
theorem Body113 : A4 Tryz.prog 113 := fun _ _ => zK
theorem Body114 : A4 Tryz.prog 114 := fun _ _ => zK
theorem Body115 : A4 Tryz.prog 115 := fun _ _ => zK
theorem Body116 : A4 Tryz.prog 116 := fun _ _ => zK
theorem Body117 : A4 Tryz.prog 117 := fun _ _ => zK
theorem Body118 : A4 Tryz.prog 118 := fun _ _ => zK
theorem Body119 : A4 Tryz.prog 119 := fun _ _ => zK
theorem Body120 : A4 Tryz.prog 120 := fun _ _ => zK
theorem Body121 : A4 Tryz.prog 121 := fun _ _ => zK
theorem Body122 : A4 Tryz.prog 122 := fun _ _ => zK
theorem Body123 : A4 Tryz.prog 123 := fun _ _ => zK
theorem Body124 : A4 Tryz.prog 124 := fun _ _ => zK
theorem Body125 : A4 Tryz.prog 125 := fun _ _ => zK
theorem Body126 : A4 Tryz.prog 126 := fun _ _ => zK
theorem Body127 : A4 Tryz.prog 127 := fun _ _ => zK
theorem Body128 : A4 Tryz.prog 128 := fun _ _ => zK
theorem Body129 : A4 Tryz.prog 129 := fun _ _ => zK
theorem Body130 : A4 Tryz.prog 130 := fun _ _ => zK
theorem Body169 : A4 Tryz.prog 169 := fun _ _ => zK
theorem Body170 : A4 Tryz.prog 170 := fun _ _ => zK
theorem Body171 : A4 Tryz.prog 171 := fun _ _ => zK
theorem Body172 : A4 Tryz.prog 172 := fun _ _ => zK
theorem Body173 : A4 Tryz.prog 173 := fun _ _ => zK
theorem Body174 : A4 Tryz.prog 174 := fun _ _ => zK
theorem Body175 : A4 Tryz.prog 175 := fun _ _ => zK
theorem Body176 : A4 Tryz.prog 176 := fun _ _ => zK
theorem Body178 : A4 Tryz.prog 178 := fun _ _ => zK
theorem Body179 : A4 Tryz.prog 179 := fun _ _ => zK
theorem Body181 : A4 Tryz.prog 181 := fun _ _ => zK
theorem Body183 : A4 Tryz.prog 183 := fun _ _ => zK
theorem Body186 : A4 Tryz.prog 186 := fun _ _ => zK
theorem Body187 : A4 Tryz.prog 187 := fun _ _ => zK
theorem Body188 : A4 Tryz.prog 188 := fun _ _ => zK
theorem Body189 : A4 Tryz.prog 189 := fun _ _ => zK
theorem Body190 : A4 Tryz.prog 190 := fun _ _ => zK
theorem Body191 : A4 Tryz.prog 191 := fun _ _ => zK
theorem Body192 : A4 Tryz.prog 192 := fun _ _ => zK
theorem Body193 : A4 Tryz.prog 193 := fun _ _ => zK
theorem Body194 : A4 Tryz.prog 194 := fun _ _ => zK
theorem Body195 : A4 Tryz.prog 195 := fun _ _ => zK
theorem Body196 : A4 Tryz.prog 196 := fun _ _ => zK
theorem Body197 : A4 Tryz.prog 197 := fun _ _ => zK
theorem Body198 : A4 Tryz.prog 198 := fun _ _ => zK
theorem Body199 : A4 Tryz.prog 199 := fun _ _ => zK
theorem Body200 : A4 Tryz.prog 200 := fun _ _ => zK
theorem Body201 : A4 Tryz.prog 201 := fun _ _ => zK
theorem Body202 : A4 Tryz.prog 202 := fun _ _ => zK
theorem Body203 : A4 Tryz.prog 203 := fun _ _ => zK
theorem Body204 : A4 Tryz.prog 204 := fun _ _ => zK
theorem Body205 : A4 Tryz.prog 205 := fun _ _ => zK
theorem Body206 : A4 Tryz.prog 206 := fun _ _ => zK
theorem Body207 : A4 Tryz.prog 207 := fun _ _ => zK
theorem Body209 : A4 Tryz.prog 209 := fun _ _ => zK
theorem Body210 : A4 Tryz.prog 210 := fun _ _ => zK
theorem Body211 : A4 Tryz.prog 211 := fun _ _ => zK
theorem Body212 : A4 Tryz.prog 212 := fun _ _ => zK
theorem Body223 : A4 Tryz.prog 223 := fun _ _ => zK
theorem Body225 : A4 Tryz.prog 225 := fun _ _ => zK
theorem Body226 : A4 Tryz.prog 226 := fun _ _ => zK
theorem Body227 : A4 Tryz.prog 227 := fun _ _ => zK
theorem Body228 : A4 Tryz.prog 228 := fun _ _ => zK
theorem Body229 : A4 Tryz.prog 229 := fun _ _ => zK
theorem Body230 : A4 Tryz.prog 230 := fun _ _ => zK
theorem Body231 : A4 Tryz.prog 231 := fun _ _ => zK
theorem Body232 : A4 Tryz.prog 232 := fun _ _ => zK
theorem Body233 : A4 Tryz.prog 233 := fun _ _ => zK
theorem Body234 : A4 Tryz.prog 234 := fun _ _ => zK
theorem Body235 : A4 Tryz.prog 235 := fun _ _ => zK
theorem Body236 : A4 Tryz.prog 236 := fun _ _ => zK
theorem Body237 : A4 Tryz.prog 237 := fun _ _ => zK
theorem Body243 : A4 Tryz.prog 243 := fun _ _ => zK
theorem Body244 : A4 Tryz.prog 244 := fun _ _ => zK
theorem Body245 : A4 Tryz.prog 245 := fun _ _ => zK
theorem Body246 : A4 Tryz.prog 246 := fun _ _ => zK
theorem Body250 : A4 Tryz.prog 250 := fun _ _ => zK
theorem Body251 : A4 Tryz.prog 251 := fun _ _ => zK
theorem Body252 : A4 Tryz.prog 252 := fun _ _ => zK
theorem Body253 : A4 Tryz.prog 253 := fun _ _ => zK
theorem Body254 : A4 Tryz.prog 254 := fun _ _ => zK
theorem Bv : Tryz.prog.follows .mixedOrders = true := by kernel_rfl
end Go.Proofs.YtdifpjmfabhpiaaGreat
end

section
namespace Go.Proofs.YtdifpjmfabhpiaaGreat
open Go Hw
set_option maxRecDepth 100000
structure Vote where
  fHeight : UInt64
  fRound : UInt64
  fPhase : Int
  fValue : List UInt8
  fProof : UInt64
  fVoter : List UInt8
  fSig : List UInt8
def Vote.cells (x : Vote) : List Value := [u64 x.fHeight] ++ ([u64 x.fRound] ++ ([i64 x.fPhase] ++ (Ab x.fValue ++ ([u64 x.fProof] ++ (Ab x.fVoter ++ (Ab x.fSig))))))
structure Vote.ok (x : Vote) : Prop where
  l_fValue : x.fValue.length = 32
  l_fVoter : x.fVoter.length = 32
  l_fSig : x.fSig.length = 64
theorem Vote.length {x : Vote} (h : x.ok) : x.cells.length = 132 := by simp [Vote.cells, Ab, h.l_fValue, h.l_fVoter, h.l_fSig]
theorem Vote.isCell {x : Vote} (h : x.ok) : ∀ u ∈ x.cells, isCell u = true := by
  intro u hu
  simp only [Vote.cells, List.mem_append, List.mem_singleton, Ab, List.mem_map] at hu
  rcases hu with rfl | rfl | rfl | ⟨_, _, rfl⟩ | rfl | ⟨_, _, rfl⟩ | ⟨_, _, rfl⟩ <;> first | rfl
theorem Vote.get_fHeight {x : Vote} (h : x.ok) : x.cells[0]? = some (u64 x.fHeight) := by simp [Vote.cells, Ab, h.l_fValue, h.l_fVoter, h.l_fSig, List.getElem?_append]
theorem Vote.set_fHeight {x : Vote} (h : x.ok) (v : UInt64) : x.cells.set 0 (u64 v) = ({ x with fHeight := v }).cells := by simp [Vote.cells, Ab, h.l_fValue, h.l_fVoter, h.l_fSig, List.set_append]
theorem Vote.get_fRound {x : Vote} (h : x.ok) : x.cells[1]? = some (u64 x.fRound) := by simp [Vote.cells, Ab, h.l_fValue, h.l_fVoter, h.l_fSig, List.getElem?_append]
theorem Vote.get_fPhase {x : Vote} (h : x.ok) : x.cells[2]? = some (i64 x.fPhase) := by simp [Vote.cells, Ab, h.l_fValue, h.l_fVoter, h.l_fSig, List.getElem?_append]
theorem Vote.set_fPhase {x : Vote} (h : x.ok) (v : Int) : x.cells.set 2 (i64 v) = ({ x with fPhase := v }).cells := by simp [Vote.cells, Ab, h.l_fValue, h.l_fVoter, h.l_fSig, List.set_append]
theorem Vote.row_fValue {x : Vote} (h : x.ok) : (x.cells.drop 3).take 32 = Ab x.fValue := by simp [Vote.cells, Ab, h.l_fValue, h.l_fVoter, h.l_fSig, List.drop_append, List.take_append, List.drop_of_length_le, List.take_of_length_le]
theorem Vote.rl_fValue {x : Vote} (h : x.ok) : (Ab x.fValue).length = 32 := by simp [Ab, h.l_fValue]
theorem Vote.upd_fValue {x : Vote} (h : x.ok) (l : List UInt8) (hl : l.length = 32) : upd x.cells 3 (Ab l) = ({ x with fValue := l }).cells := by
  simp [upd, Vote.cells, Ab, h.l_fValue, h.l_fVoter, h.l_fSig, hl, List.drop_append, List.take_append, List.drop_of_length_le, List.take_of_length_le]
theorem Vote.see_fValue {x : Vote} (h : x.ok) : ∀ (j : Nat) (v : Value), (Ab x.fValue)[j]? = some v → x.cells[3 + j]? = some v := fun j v hj => by
  rw [← Vote.row_fValue h, List.getElem?_take] at hj
  split at hj
  · rwa [List.getElem?_drop] at hj
  · cases hj
theorem Vote.get_fProof {x : Vote} (h : x.ok) : x.cells[35]? = some (u64 x.fProof) := by simp [Vote.cells, Ab, h.l_fValue, h.l_fVoter, h.l_fSig, List.getElem?_append]
theorem Vote.set_fProof {x : Vote} (h : x.ok) (v : UInt64) : x.cells.set 35 (u64 v) = ({ x with fProof := v }).cells := by simp [Vote.cells, Ab, h.l_fValue, h.l_fVoter, h.l_fSig, List.set_append]
theorem Vote.row_fVoter {x : Vote} (h : x.ok) : (x.cells.drop 36).take 32 = Ab x.fVoter := by simp [Vote.cells, Ab, h.l_fValue, h.l_fVoter, h.l_fSig, List.drop_append, List.take_append, List.drop_of_length_le, List.take_of_length_le]
theorem Vote.upd_fVoter {x : Vote} (h : x.ok) (l : List UInt8) (hl : l.length = 32) : upd x.cells 36 (Ab l) = ({ x with fVoter := l }).cells := by
  simp [upd, Vote.cells, Ab, h.l_fValue, h.l_fVoter, h.l_fSig, hl, List.drop_append, List.take_append, List.drop_of_length_le, List.take_of_length_le]
theorem Vote.see_fVoter {x : Vote} (h : x.ok) : ∀ (j : Nat) (v : Value), (Ab x.fVoter)[j]? = some v → x.cells[36 + j]? = some v := fun j v hj => by
  rw [← Vote.row_fVoter h, List.getElem?_take] at hj
  split at hj
  · rwa [List.getElem?_drop] at hj
  · cases hj
theorem Vote.row_fSig {x : Vote} (h : x.ok) : (x.cells.drop 68).take 64 = Ab x.fSig := by simp [Vote.cells, Ab, h.l_fValue, h.l_fVoter, h.l_fSig, List.drop_append, List.take_append, List.drop_of_length_le, List.take_of_length_le]
theorem Vote.rl_fSig {x : Vote} (h : x.ok) : (Ab x.fSig).length = 64 := by simp [Ab, h.l_fSig]
theorem Vote.upd_fSig {x : Vote} (h : x.ok) (l : List UInt8) (hl : l.length = 64) : upd x.cells 68 (Ab l) = ({ x with fSig := l }).cells := by
  simp [upd, Vote.cells, Ab, h.l_fValue, h.l_fVoter, h.l_fSig, hl, List.drop_append, List.take_append, List.drop_of_length_le, List.take_of_length_le]
theorem Vote.see_fSig {x : Vote} (h : x.ok) : ∀ (j : Nat) (v : Value), (Ab x.fSig)[j]? = some v → x.cells[68 + j]? = some v := fun j v hj => by
  rw [← Vote.row_fSig h, List.getElem?_take] at hj
  split at hj
  · rwa [List.getElem?_drop] at hj
  · cases hj
def Vote.zero : Vote := ⟨0, 0, 0, List.replicate 32 0, 0, List.replicate 32 0, List.replicate 64 0⟩
theorem Vote.zero_ok : Vote.zero.ok := by constructor <;> first | exact trivial | simp [Vote.zero]
theorem Vote.zr : Zr Tryz.prog 81 (agg Vote.zero.cells) := by unfold Zr; kernel_rfl
theorem Vote.eqq {x y : Vote} (hx : x.ok) (hy : y.ok) (w : World) : (Op.equalIn 10000 81 (agg x.cells) (agg y.cells)).run Tryz.prog w = .ok (decide ((x.fHeight.toNat : Int) = (y.fHeight.toNat : Int)) && (decide ((x.fRound.toNat : Int) = (y.fRound.toNat : Int)) && (decide (x.fPhase = y.fPhase) && (decide (x.fValue = y.fValue) && (decide ((x.fProof.toNat : Int) = (y.fProof.toNat : Int)) && (decide (x.fVoter = y.fVoter) && (decide (x.fSig = y.fSig) && (true)))))))) w := by
  rw [show (10000 : Nat) = 9999 + 1 from rfl, run_equalIn_struct w 9999 81 x.cells.toArray y.cells.toArray zK zK]
  exact (eqFields_step dE (run_part1 Y48 rfl (Vote.get_fHeight hx)) (run_part1 Y48 rfl (Vote.get_fHeight hy)) (eq_int Y48) (eqFields_step dE (run_part1 Y48 rfl (Vote.get_fRound hx)) (run_part1 Y48 rfl (Vote.get_fRound hy)) (eq_int Y48) (eqFields_step dE (run_part1 Y3 rfl (Vote.get_fPhase hx)) (run_part1 Y3 rfl (Vote.get_fPhase hy)) (eq_int Y3) (eqFields_step dE (run_partN Y50 rfl Bb (Vote.row_fValue hx)) (run_partN Y50 rfl Bb (Vote.row_fValue hy)) (eq_bytesA Y50 Y5 Sz5 hx.l_fValue hy.l_fValue) (eqFields_step dE (run_part1 Y48 rfl (Vote.get_fProof hx)) (run_part1 Y48 rfl (Vote.get_fProof hy)) (eq_int Y48) (eqFields_step dE (run_partN Y75 rfl Sz75 (Vote.row_fVoter hx)) (run_partN Y75 rfl Sz75 (Vote.row_fVoter hy)) (eq_bytesA Y75 Y5 Sz5 hx.l_fVoter hy.l_fVoter) (eqFields_step dE (run_partN Y77 rfl Sz77 (Vote.row_fSig hx)) (run_partN Y77 rfl Sz77 (Vote.row_fSig hy)) (eq_bytesA Y77 Y5 Sz5 hx.l_fSig hy.l_fSig) eqFields_nil)))))))
theorem Vote.eq_run {x y : Vote} (hx : x.ok) (hy : y.ok) (w : World) [Decidable (x = y)] : (Op.equalIn 10000 81 (agg x.cells) (agg y.cells)).run Tryz.prog w = .ok (decide (x = y)) w := by
  rw [Vote.eqq hx hy]
  congr 1
  obtain ⟨x0, x1, x2, x3, x4, x5, x6⟩ := x
  obtain ⟨y0, y1, y2, y3, y4, y5, y6⟩ := y
  rw [Bool.eq_iff_iff]
  simp only [Bool.and_eq_true, decide_eq_true_eq, Vote.mk.injEq, and_true]
  have eu : ∀ a b : UInt64, ((a.toNat : Int) = (b.toNat : Int)) ↔ a = b := fun a b => ⟨fun h => UInt64.toNat_inj.1 oM, fun h => by rw [h]⟩
  simp only [eu]
theorem Vote.eq_runC {x y : Vote} (hx : x.ok) (hy : y.ok) (w : World) : (Op.equalIn 10000 81 (agg x.cells) (agg y.cells)).run Tryz.prog w = .ok (@decide (x = y) (Classical.propDecidable (x = y))) w := @Vote.eq_run x y hx hy w (Classical.propDecidable (x = y))
theorem Vote.eg : Tryz.prog.eqGuardType Tryz.prog.depth 81 = false := by kernel_rfl
structure Block where
  fWriter : List UInt8
  fSeq : UInt64
  fPrev : List UInt8
  fLinks : Sl
  fData : Sl
  fSig : List UInt8
def Block.cells (x : Block) : List Value := Ab x.fWriter ++ ([u64 x.fSeq] ++ (Ab x.fPrev ++ ([x.fLinks.v] ++ ([x.fData.v] ++ (Ab x.fSig)))))
structure Block.ok (x : Block) : Prop where
  l_fWriter : x.fWriter.length = 32
  l_fPrev : x.fPrev.length = 32
  l_fSig : x.fSig.length = 64
theorem Block.length {x : Block} (h : x.ok) : x.cells.length = 131 := by simp [Block.cells, Ab, h.l_fWriter, h.l_fPrev, h.l_fSig]
theorem Block.isCell {x : Block} (h : x.ok) : ∀ u ∈ x.cells, isCell u = true := by
  intro u hu
  simp only [Block.cells, List.mem_append, List.mem_singleton, Ab, List.mem_map] at hu
  rcases hu with ⟨_, _, rfl⟩ | rfl | ⟨_, _, rfl⟩ | rfl | rfl | ⟨_, _, rfl⟩ <;> first | rfl
theorem Block.row_fWriter {x : Block} (h : x.ok) : (x.cells.drop 0).take 32 = Ab x.fWriter := by simp [Block.cells, Ab, h.l_fWriter, h.l_fPrev, h.l_fSig, List.drop_append, List.take_append, List.drop_of_length_le, List.take_of_length_le]
theorem Block.rl_fWriter {x : Block} (h : x.ok) : (Ab x.fWriter).length = 32 := by simp [Ab, h.l_fWriter]
theorem Block.upd_fWriter {x : Block} (h : x.ok) (l : List UInt8) (hl : l.length = 32) : upd x.cells 0 (Ab l) = ({ x with fWriter := l }).cells := by
  simp [upd, Block.cells, Ab, h.l_fWriter, h.l_fPrev, h.l_fSig, hl, List.drop_append, List.take_append, List.drop_of_length_le, List.take_of_length_le]
theorem Block.see_fWriter {x : Block} (h : x.ok) : ∀ (j : Nat) (v : Value), (Ab x.fWriter)[j]? = some v → x.cells[0 + j]? = some v := fun j v hj => by
  rw [← Block.row_fWriter h, List.getElem?_take] at hj
  split at hj
  · rwa [List.getElem?_drop] at hj
  · cases hj
theorem Block.get_fSeq {x : Block} (h : x.ok) : x.cells[32]? = some (u64 x.fSeq) := by simp [Block.cells, Ab, h.l_fWriter, h.l_fPrev, h.l_fSig, List.getElem?_append]
theorem Block.set_fSeq {x : Block} (h : x.ok) (v : UInt64) : x.cells.set 32 (u64 v) = ({ x with fSeq := v }).cells := by simp [Block.cells, Ab, h.l_fWriter, h.l_fPrev, h.l_fSig, List.set_append]
theorem Block.row_fPrev {x : Block} (h : x.ok) : (x.cells.drop 33).take 32 = Ab x.fPrev := by simp [Block.cells, Ab, h.l_fWriter, h.l_fPrev, h.l_fSig, List.drop_append, List.take_append, List.drop_of_length_le, List.take_of_length_le]
theorem Block.rl_fPrev {x : Block} (h : x.ok) : (Ab x.fPrev).length = 32 := by simp [Ab, h.l_fPrev]
theorem Block.upd_fPrev {x : Block} (h : x.ok) (l : List UInt8) (hl : l.length = 32) : upd x.cells 33 (Ab l) = ({ x with fPrev := l }).cells := by
  simp [upd, Block.cells, Ab, h.l_fWriter, h.l_fPrev, h.l_fSig, hl, List.drop_append, List.take_append, List.drop_of_length_le, List.take_of_length_le]
theorem Block.see_fPrev {x : Block} (h : x.ok) : ∀ (j : Nat) (v : Value), (Ab x.fPrev)[j]? = some v → x.cells[33 + j]? = some v := fun j v hj => by
  rw [← Block.row_fPrev h, List.getElem?_take] at hj
  split at hj
  · rwa [List.getElem?_drop] at hj
  · cases hj
theorem Block.get_fLinks {x : Block} (h : x.ok) : x.cells[65]? = some (x.fLinks.v) := by simp [Block.cells, Ab, h.l_fWriter, h.l_fPrev, h.l_fSig, List.getElem?_append]
theorem Block.set_fLinks {x : Block} (h : x.ok) (v : Sl) : x.cells.set 65 (v.v) = ({ x with fLinks := v }).cells := by simp [Block.cells, Ab, h.l_fWriter, h.l_fPrev, h.l_fSig, List.set_append]
theorem Block.setS_fLinks {x : Block} (h : x.ok) (p : Option Addr) (n c : Nat) : x.cells.set 65 (.slice p n c) = ({ x with fLinks := ⟨p, n, c⟩ }).cells := Block.set_fLinks h ⟨p, n, c⟩
theorem Block.get_fData {x : Block} (h : x.ok) : x.cells[66]? = some (x.fData.v) := by simp [Block.cells, Ab, h.l_fWriter, h.l_fPrev, h.l_fSig, List.getElem?_append]
theorem Block.set_fData {x : Block} (h : x.ok) (v : Sl) : x.cells.set 66 (v.v) = ({ x with fData := v }).cells := by simp [Block.cells, Ab, h.l_fWriter, h.l_fPrev, h.l_fSig, List.set_append]
theorem Block.setS_fData {x : Block} (h : x.ok) (p : Option Addr) (n c : Nat) : x.cells.set 66 (.slice p n c) = ({ x with fData := ⟨p, n, c⟩ }).cells := Block.set_fData h ⟨p, n, c⟩
theorem Block.row_fSig {x : Block} (h : x.ok) : (x.cells.drop 67).take 64 = Ab x.fSig := by simp [Block.cells, Ab, h.l_fWriter, h.l_fPrev, h.l_fSig, List.drop_append, List.take_append, List.drop_of_length_le, List.take_of_length_le]
theorem Block.rl_fSig {x : Block} (h : x.ok) : (Ab x.fSig).length = 64 := by simp [Ab, h.l_fSig]
theorem Block.upd_fSig {x : Block} (h : x.ok) (l : List UInt8) (hl : l.length = 64) : upd x.cells 67 (Ab l) = ({ x with fSig := l }).cells := by
  simp [upd, Block.cells, Ab, h.l_fWriter, h.l_fPrev, h.l_fSig, hl, List.drop_append, List.take_append, List.drop_of_length_le, List.take_of_length_le]
theorem Block.see_fSig {x : Block} (h : x.ok) : ∀ (j : Nat) (v : Value), (Ab x.fSig)[j]? = some v → x.cells[67 + j]? = some v := fun j v hj => by
  rw [← Block.row_fSig h, List.getElem?_take] at hj
  split at hj
  · rwa [List.getElem?_drop] at hj
  · cases hj
def Block.zero : Block := ⟨List.replicate 32 0, 0, List.replicate 32 0, Sl.nil, Sl.nil, List.replicate 64 0⟩
theorem Block.zero_ok : Block.zero.ok := by constructor <;> first | exact trivial | simp [Block.zero]
theorem Block.zr : Zr Tryz.prog 79 (agg Block.zero.cells) := by unfold Zr; kernel_rfl
structure Reader where
  fSelf : Value
  fB : Sl
  fAt : Int
  fErr : Int
def Reader.cells (x : Reader) : List Value := [x.fSelf] ++ ([x.fB.v] ++ ([i64 x.fAt] ++ ([i64 x.fErr])))
structure Reader.ok (x : Reader) : Prop where
  c_fSelf : isCell x.fSelf = true
theorem Reader.length {x : Reader} (h : x.ok) : x.cells.length = 4 := by simp [Reader.cells, Ab]
theorem Reader.isCell {x : Reader} (h : x.ok) : ∀ u ∈ x.cells, isCell u = true := by
  intro u hu
  simp only [Reader.cells, List.mem_append, List.mem_singleton, Ab, List.mem_map] at hu
  rcases hu with rfl | rfl | rfl | rfl <;> first | rfl | exact h.c_fSelf
theorem Reader.set_fSelf {x : Reader} (h : x.ok) (v : Value) : x.cells.set 0 (v) = ({ x with fSelf := v }).cells := by simp [Reader.cells, Ab, List.set_append]
theorem Reader.get_fB {x : Reader} (h : x.ok) : x.cells[1]? = some (x.fB.v) := by simp [Reader.cells, Ab, List.getElem?_append]
theorem Reader.get_fAt {x : Reader} (h : x.ok) : x.cells[2]? = some (i64 x.fAt) := by simp [Reader.cells, Ab, List.getElem?_append]
theorem Reader.set_fAt {x : Reader} (h : x.ok) (v : Int) : x.cells.set 2 (i64 v) = ({ x with fAt := v }).cells := by simp [Reader.cells, Ab, List.set_append]
theorem Reader.get_fErr {x : Reader} (h : x.ok) : x.cells[3]? = some (i64 x.fErr) := by simp [Reader.cells, Ab, List.getElem?_append]
theorem Reader.set_fErr {x : Reader} (h : x.ok) (v : Int) : x.cells.set 3 (i64 v) = ({ x with fErr := v }).cells := by simp [Reader.cells, Ab, List.set_append]
def Reader.zero : Reader := ⟨(.pointer none), Sl.nil, 0, 0⟩
theorem Reader.zero_ok : Reader.zero.ok := by constructor <;> first | exact trivial | simp [Reader.zero, Hw.isCell]
theorem Reader.zr : Zr Tryz.prog 219 (agg Reader.zero.cells) := by unfold Zr; kernel_rfl
structure Cut where
  fHeight : UInt64
  fPrev : List UInt8
  fHeads : Sl
def Cut.cells (x : Cut) : List Value := [u64 x.fHeight] ++ (Ab x.fPrev ++ ([x.fHeads.v]))
structure Cut.ok (x : Cut) : Prop where
  l_fPrev : x.fPrev.length = 32
theorem Cut.length {x : Cut} (h : x.ok) : x.cells.length = 34 := by simp [Cut.cells, Ab, h.l_fPrev]
theorem Cut.isCell {x : Cut} (h : x.ok) : ∀ u ∈ x.cells, isCell u = true := by
  intro u hu
  simp only [Cut.cells, List.mem_append, List.mem_singleton, Ab, List.mem_map] at hu
  rcases hu with rfl | ⟨_, _, rfl⟩ | rfl <;> first | rfl
theorem Cut.get_fHeight {x : Cut} (h : x.ok) : x.cells[0]? = some (u64 x.fHeight) := by simp [Cut.cells, Ab, h.l_fPrev, List.getElem?_append]
theorem Cut.set_fHeight {x : Cut} (h : x.ok) (v : UInt64) : x.cells.set 0 (u64 v) = ({ x with fHeight := v }).cells := by simp [Cut.cells, Ab, h.l_fPrev, List.set_append]
theorem Cut.row_fPrev {x : Cut} (h : x.ok) : (x.cells.drop 1).take 32 = Ab x.fPrev := by simp [Cut.cells, Ab, h.l_fPrev, List.drop_append, List.take_append, List.drop_of_length_le, List.take_of_length_le]
theorem Cut.rl_fPrev {x : Cut} (h : x.ok) : (Ab x.fPrev).length = 32 := by simp [Ab, h.l_fPrev]
theorem Cut.upd_fPrev {x : Cut} (h : x.ok) (l : List UInt8) (hl : l.length = 32) : upd x.cells 1 (Ab l) = ({ x with fPrev := l }).cells := by
  simp [upd, Cut.cells, Ab, h.l_fPrev, hl, List.drop_append, List.take_append, List.drop_of_length_le, List.take_of_length_le]
theorem Cut.see_fPrev {x : Cut} (h : x.ok) : ∀ (j : Nat) (v : Value), (Ab x.fPrev)[j]? = some v → x.cells[1 + j]? = some v := fun j v hj => by
  rw [← Cut.row_fPrev h, List.getElem?_take] at hj
  split at hj
  · rwa [List.getElem?_drop] at hj
  · cases hj
theorem Cut.get_fHeads {x : Cut} (h : x.ok) : x.cells[33]? = some (x.fHeads.v) := by simp [Cut.cells, Ab, h.l_fPrev, List.getElem?_append]
theorem Cut.set_fHeads {x : Cut} (h : x.ok) (v : Sl) : x.cells.set 33 (v.v) = ({ x with fHeads := v }).cells := by simp [Cut.cells, Ab, h.l_fPrev, List.set_append]
theorem Cut.setS_fHeads {x : Cut} (h : x.ok) (p : Option Addr) (n c : Nat) : x.cells.set 33 (.slice p n c) = ({ x with fHeads := ⟨p, n, c⟩ }).cells := Cut.set_fHeads h ⟨p, n, c⟩
def Cut.zero : Cut := ⟨0, List.replicate 32 0, Sl.nil⟩
theorem Cut.zero_ok : Cut.zero.ok := by constructor <;> first | exact trivial | simp [Cut.zero]
theorem Cut.zr : Zr Tryz.prog 53 (agg Cut.zero.cells) := by unfold Zr; kernel_rfl
structure Cert where
  fCut : Cut
  fVotes : Sl
def Cert.cells (x : Cert) : List Value := x.fCut.cells ++ ([x.fVotes.v])
structure Cert.ok (x : Cert) : Prop where
  o_fCut : x.fCut.ok
theorem Cert.length {x : Cert} (h : x.ok) : x.cells.length = 35 := by simp [Cert.cells, Ab, Cut.length h.o_fCut]
theorem Cert.isCell {x : Cert} (h : x.ok) : ∀ u ∈ x.cells, isCell u = true := by
  intro u hu
  simp only [Cert.cells, List.mem_append, List.mem_singleton, Ab, List.mem_map] at hu
  rcases hu with hu | rfl <;> first | rfl | exact Cut.isCell h.o_fCut u hu
theorem Cert.row_fCut {x : Cert} (h : x.ok) : (x.cells.drop 0).take 34 = x.fCut.cells := by simp [Cert.cells, Ab, Cut.length h.o_fCut, List.drop_append, List.take_append, List.drop_of_length_le, List.take_of_length_le]
theorem Cert.rl_fCut {x : Cert} (h : x.ok) : (x.fCut.cells).length = 34 := by simp [Ab, Cut.length h.o_fCut]
theorem Cert.see_fCut {x : Cert} (h : x.ok) : ∀ (j : Nat) (v : Value), (x.fCut.cells)[j]? = some v → x.cells[0 + j]? = some v := fun j v hj => by
  rw [← Cert.row_fCut h, List.getElem?_take] at hj
  split at hj
  · rwa [List.getElem?_drop] at hj
  · cases hj
theorem Cert.get_fVotes {x : Cert} (h : x.ok) : x.cells[34]? = some (x.fVotes.v) := by simp [Cert.cells, Ab, Cut.length h.o_fCut, List.getElem?_append]
theorem Cert.set_fVotes {x : Cert} (h : x.ok) (v : Sl) : x.cells.set 34 (v.v) = ({ x with fVotes := v }).cells := by simp [Cert.cells, Ab, Cut.length h.o_fCut, List.set_append]
theorem Cert.setS_fVotes {x : Cert} (h : x.ok) (p : Option Addr) (n c : Nat) : x.cells.set 34 (.slice p n c) = ({ x with fVotes := ⟨p, n, c⟩ }).cells := Cert.set_fVotes h ⟨p, n, c⟩
def Cert.zero : Cert := ⟨Cut.zero, Sl.nil⟩
theorem Cert.zero_ok : Cert.zero.ok := by constructor <;> first | exact Cut.zero_ok | simp [Cert.zero]
theorem Cert.zr : Zr Tryz.prog 55 (agg Cert.zero.cells) := by unfold Zr; kernel_rfl
structure Msg where
  fKind : Int
  fHeight : UInt64
  fHeads : Sl
  fWant : Sl
  fBlocks : Sl
  fVotes : Sl
  fCuts : Sl
  fCerts : Sl
def Msg.cells (x : Msg) : List Value := [i64 x.fKind] ++ ([u64 x.fHeight] ++ ([x.fHeads.v] ++ ([x.fWant.v] ++ ([x.fBlocks.v] ++ ([x.fVotes.v] ++ ([x.fCuts.v] ++ ([x.fCerts.v])))))))
structure Msg.ok (x : Msg) : Prop where
  t : True
theorem Msg.length {x : Msg} (h : x.ok) : x.cells.length = 8 := by simp [Msg.cells, Ab]
theorem Msg.isCell {x : Msg} (h : x.ok) : ∀ u ∈ x.cells, isCell u = true := by
  intro u hu
  simp only [Msg.cells, List.mem_append, List.mem_singleton, Ab, List.mem_map] at hu
  rcases hu with rfl | rfl | rfl | rfl | rfl | rfl | rfl | rfl <;> first | rfl
theorem Msg.get_fKind {x : Msg} (h : x.ok) : x.cells[0]? = some (i64 x.fKind) := by simp [Msg.cells, Ab, List.getElem?_append]
theorem Msg.get_fHeight {x : Msg} (h : x.ok) : x.cells[1]? = some (u64 x.fHeight) := by simp [Msg.cells, Ab, List.getElem?_append]
theorem Msg.set_fHeight {x : Msg} (h : x.ok) (v : UInt64) : x.cells.set 1 (u64 v) = ({ x with fHeight := v }).cells := by simp [Msg.cells, Ab, List.set_append]
theorem Msg.get_fHeads {x : Msg} (h : x.ok) : x.cells[2]? = some (x.fHeads.v) := by simp [Msg.cells, Ab, List.getElem?_append]
theorem Msg.set_fHeads {x : Msg} (h : x.ok) (v : Sl) : x.cells.set 2 (v.v) = ({ x with fHeads := v }).cells := by simp [Msg.cells, Ab, List.set_append]
theorem Msg.setS_fHeads {x : Msg} (h : x.ok) (p : Option Addr) (n c : Nat) : x.cells.set 2 (.slice p n c) = ({ x with fHeads := ⟨p, n, c⟩ }).cells := Msg.set_fHeads h ⟨p, n, c⟩
theorem Msg.get_fWant {x : Msg} (h : x.ok) : x.cells[3]? = some (x.fWant.v) := by simp [Msg.cells, Ab, List.getElem?_append]
theorem Msg.set_fWant {x : Msg} (h : x.ok) (v : Sl) : x.cells.set 3 (v.v) = ({ x with fWant := v }).cells := by simp [Msg.cells, Ab, List.set_append]
theorem Msg.setS_fWant {x : Msg} (h : x.ok) (p : Option Addr) (n c : Nat) : x.cells.set 3 (.slice p n c) = ({ x with fWant := ⟨p, n, c⟩ }).cells := Msg.set_fWant h ⟨p, n, c⟩
theorem Msg.get_fBlocks {x : Msg} (h : x.ok) : x.cells[4]? = some (x.fBlocks.v) := by simp [Msg.cells, Ab, List.getElem?_append]
theorem Msg.set_fBlocks {x : Msg} (h : x.ok) (v : Sl) : x.cells.set 4 (v.v) = ({ x with fBlocks := v }).cells := by simp [Msg.cells, Ab, List.set_append]
theorem Msg.setS_fBlocks {x : Msg} (h : x.ok) (p : Option Addr) (n c : Nat) : x.cells.set 4 (.slice p n c) = ({ x with fBlocks := ⟨p, n, c⟩ }).cells := Msg.set_fBlocks h ⟨p, n, c⟩
theorem Msg.get_fVotes {x : Msg} (h : x.ok) : x.cells[5]? = some (x.fVotes.v) := by simp [Msg.cells, Ab, List.getElem?_append]
theorem Msg.set_fVotes {x : Msg} (h : x.ok) (v : Sl) : x.cells.set 5 (v.v) = ({ x with fVotes := v }).cells := by simp [Msg.cells, Ab, List.set_append]
theorem Msg.setS_fVotes {x : Msg} (h : x.ok) (p : Option Addr) (n c : Nat) : x.cells.set 5 (.slice p n c) = ({ x with fVotes := ⟨p, n, c⟩ }).cells := Msg.set_fVotes h ⟨p, n, c⟩
theorem Msg.get_fCuts {x : Msg} (h : x.ok) : x.cells[6]? = some (x.fCuts.v) := by simp [Msg.cells, Ab, List.getElem?_append]
theorem Msg.set_fCuts {x : Msg} (h : x.ok) (v : Sl) : x.cells.set 6 (v.v) = ({ x with fCuts := v }).cells := by simp [Msg.cells, Ab, List.set_append]
theorem Msg.setS_fCuts {x : Msg} (h : x.ok) (p : Option Addr) (n c : Nat) : x.cells.set 6 (.slice p n c) = ({ x with fCuts := ⟨p, n, c⟩ }).cells := Msg.set_fCuts h ⟨p, n, c⟩
theorem Msg.get_fCerts {x : Msg} (h : x.ok) : x.cells[7]? = some (x.fCerts.v) := by simp [Msg.cells, Ab, List.getElem?_append]
theorem Msg.set_fCerts {x : Msg} (h : x.ok) (v : Sl) : x.cells.set 7 (v.v) = ({ x with fCerts := v }).cells := by simp [Msg.cells, Ab, List.set_append]
theorem Msg.setS_fCerts {x : Msg} (h : x.ok) (p : Option Addr) (n c : Nat) : x.cells.set 7 (.slice p n c) = ({ x with fCerts := ⟨p, n, c⟩ }).cells := Msg.set_fCerts h ⟨p, n, c⟩
def Msg.zero : Msg := ⟨0, 0, Sl.nil, Sl.nil, Sl.nil, Sl.nil, Sl.nil, Sl.nil⟩
theorem Msg.zero_ok : Msg.zero.ok := by constructor <;> first | exact trivial | simp [Msg.zero]
theorem Msg.zr : Zr Tryz.prog 57 (agg Msg.zero.cells) := by unfold Zr; kernel_rfl
structure Record where
  fKind : UInt8
  fData : Sl
def Record.cells (x : Record) : List Value := [u8 x.fKind] ++ ([x.fData.v])
structure Record.ok (x : Record) : Prop where
  t : True
theorem Record.length {x : Record} (h : x.ok) : x.cells.length = 2 := by simp [Record.cells, Ab]
theorem Record.isCell {x : Record} (h : x.ok) : ∀ u ∈ x.cells, isCell u = true := by
  intro u hu
  simp only [Record.cells, List.mem_append, List.mem_singleton, Ab, List.mem_map] at hu
  rcases hu with rfl | rfl <;> first | rfl
theorem Record.get_fKind {x : Record} (h : x.ok) : x.cells[0]? = some (u8 x.fKind) := by simp [Record.cells, Ab, List.getElem?_append]
theorem Record.get_fData {x : Record} (h : x.ok) : x.cells[1]? = some (x.fData.v) := by simp [Record.cells, Ab, List.getElem?_append]
theorem Record.set_fData {x : Record} (h : x.ok) (v : Sl) : x.cells.set 1 (v.v) = ({ x with fData := v }).cells := by simp [Record.cells, Ab, List.set_append]
theorem Record.setS_fData {x : Record} (h : x.ok) (p : Option Addr) (n c : Nat) : x.cells.set 1 (.slice p n c) = ({ x with fData := ⟨p, n, c⟩ }).cells := Record.set_fData h ⟨p, n, c⟩
def Record.zero : Record := ⟨0, Sl.nil⟩
theorem Record.zero_ok : Record.zero.ok := by constructor <;> first | exact trivial | simp [Record.zero]
theorem Record.zr : Zr Tryz.prog 91 (agg Record.zero.cells) := by unfold Zr; kernel_rfl
structure Kept where
  fBlocks : Sl
  fCerts : Sl
  fVotes : Sl
  fCuts : Sl
def Kept.cells (x : Kept) : List Value := [x.fBlocks.v] ++ ([x.fCerts.v] ++ ([x.fVotes.v] ++ ([x.fCuts.v])))
structure Kept.ok (x : Kept) : Prop where
  t : True
theorem Kept.length {x : Kept} (h : x.ok) : x.cells.length = 4 := by simp [Kept.cells, Ab]
theorem Kept.isCell {x : Kept} (h : x.ok) : ∀ u ∈ x.cells, isCell u = true := by
  intro u hu
  simp only [Kept.cells, List.mem_append, List.mem_singleton, Ab, List.mem_map] at hu
  rcases hu with rfl | rfl | rfl | rfl <;> first | rfl
theorem Kept.get_fBlocks {x : Kept} (h : x.ok) : x.cells[0]? = some (x.fBlocks.v) := by simp [Kept.cells, Ab, List.getElem?_append]
theorem Kept.set_fBlocks {x : Kept} (h : x.ok) (v : Sl) : x.cells.set 0 (v.v) = ({ x with fBlocks := v }).cells := by simp [Kept.cells, Ab, List.set_append]
theorem Kept.setS_fBlocks {x : Kept} (h : x.ok) (p : Option Addr) (n c : Nat) : x.cells.set 0 (.slice p n c) = ({ x with fBlocks := ⟨p, n, c⟩ }).cells := Kept.set_fBlocks h ⟨p, n, c⟩
theorem Kept.get_fCerts {x : Kept} (h : x.ok) : x.cells[1]? = some (x.fCerts.v) := by simp [Kept.cells, Ab, List.getElem?_append]
theorem Kept.set_fCerts {x : Kept} (h : x.ok) (v : Sl) : x.cells.set 1 (v.v) = ({ x with fCerts := v }).cells := by simp [Kept.cells, Ab, List.set_append]
theorem Kept.setS_fCerts {x : Kept} (h : x.ok) (p : Option Addr) (n c : Nat) : x.cells.set 1 (.slice p n c) = ({ x with fCerts := ⟨p, n, c⟩ }).cells := Kept.set_fCerts h ⟨p, n, c⟩
theorem Kept.get_fVotes {x : Kept} (h : x.ok) : x.cells[2]? = some (x.fVotes.v) := by simp [Kept.cells, Ab, List.getElem?_append]
theorem Kept.set_fVotes {x : Kept} (h : x.ok) (v : Sl) : x.cells.set 2 (v.v) = ({ x with fVotes := v }).cells := by simp [Kept.cells, Ab, List.set_append]
theorem Kept.setS_fVotes {x : Kept} (h : x.ok) (p : Option Addr) (n c : Nat) : x.cells.set 2 (.slice p n c) = ({ x with fVotes := ⟨p, n, c⟩ }).cells := Kept.set_fVotes h ⟨p, n, c⟩
theorem Kept.get_fCuts {x : Kept} (h : x.ok) : x.cells[3]? = some (x.fCuts.v) := by simp [Kept.cells, Ab, List.getElem?_append]
theorem Kept.set_fCuts {x : Kept} (h : x.ok) (v : Sl) : x.cells.set 3 (v.v) = ({ x with fCuts := v }).cells := by simp [Kept.cells, Ab, List.set_append]
theorem Kept.setS_fCuts {x : Kept} (h : x.ok) (p : Option Addr) (n c : Nat) : x.cells.set 3 (.slice p n c) = ({ x with fCuts := ⟨p, n, c⟩ }).cells := Kept.set_fCuts h ⟨p, n, c⟩
def Kept.zero : Kept := ⟨Sl.nil, Sl.nil, Sl.nil, Sl.nil⟩
theorem Kept.zero_ok : Kept.zero.ok := by constructor <;> first | exact trivial | simp [Kept.zero]
theorem Kept.zr : Zr Tryz.prog 27 (agg Kept.zero.cells) := by unfold Zr; kernel_rfl
end Go.Proofs.YtdifpjmfabhpiaaGreat
end

section
namespace Go.Proofs.YtdifpjmfabhpiaaGreat
open Go Hw

def orI : List Int → Int
  | [] => 0
  | x :: l => if x = 0 then orI l else x
theorem bytealg_run {w : World} {p q : Option Addr} {n m c1 c2 : Nat} {a b : List UInt8} (ha : a.length = n) (hb : b.length = m) (h1 : SeesP w p (Ab a)) (h2 : SeesP w q (Ab b)) :
    (callFunc 208 [.slice p n c1, .slice q m c2].toArray).run Tryz.prog w = .ok (.value (i64 (cmpB a b))) w := by
  rw [run_callFunc_extern Tryz.func208 zK zK zK (e := Extern.BytealgCompare.compare) zK]
  rw [show [Value.slice p n c1, Value.slice q m c2].toArray = #[.slice p n c1, .slice q m c2] from rfl, run_compareB ha hb h1 h2]
  rfl

theorem bytes_cmp (p q : Option Addr) (c1 c2 n m : Nat) (a b : List UInt8) (ha : a.length = n) (hb : b.length = m) : Meets Tryz.prog 123 [.slice p n c1, .slice q m c2] [] (fun W => SeesP W p (Ab a) ∧ SeesP W q (Ab b)) (fun v out => v = i64 (cmpB a b) ∧ out = []) := by
 intro W hW
 refine An Tryz.func123 rfl 8 Tryz.ntmps123 rfl ?_
 refine Sat.seq (Sat.region ?_)
 refine Tr.a rfl rfl rfl ?_
 refine Tr.nil (Aa (Sat.seq (Sat.region ?_)))
 refine Tr.m rfl rfl rfl ?_
 refine Tr.m rfl rfl rfl ?_
 refine Tr.extL rfl rfl rfl rfl (fun w h => bytealg_run ha hb (Aw h rfl hW.1) (Aw h rfl hW.2)) ?_
 refine Tr.a rfl rfl rfl ?_
 refine Tr.nil (Aa (Sat.ret (Am ?_)))
 refine ⟨_, [], Ae rfl rfl, sP, sP, ?_, rfl⟩
 rfl

end Go.Proofs.YtdifpjmfabhpiaaGreat
end

section
namespace Go.Proofs.YtdifpjmfabhpiaaGreat
open Go Hw
set_option maxRecDepth 100000
section
variable {H : Type} {enc : TypeId × Value → H} {W : World} {base : Nat} {sp : Nat → Bool} {held : Bool}
theorem Vote.openT {fuel : Nat} {cs : List Value} {y : DataW H × List MemPlace} (h : DataW.trod enc Tryz.prog W base sp held fuel 81 cs = some y) : ∃ x : Vote, x.ok ∧ cs = x.cells ∧ ((Lit.int .i64 x.fPhase).wf = true) := by
  obtain ⟨xs, n, _, _, h4, h5, h6⟩ := DataW.trod_struct Y81 h
  rw [show Tryz.prog.cellsOf 81 = 132 by kernel_rfl] at h4
  have c0 : Tryz.prog.cellsOf 48 = 1 := by kernel_rfl
  have c1 : Tryz.prog.cellsOf 48 = 1 := by kernel_rfl
  have c2 : Tryz.prog.cellsOf 3 = 1 := by kernel_rfl
  have c3 : Tryz.prog.cellsOf 50 = 32 := by kernel_rfl
  have c4 : Tryz.prog.cellsOf 48 = 1 := by kernel_rfl
  have c5 : Tryz.prog.cellsOf 75 = 32 := by kernel_rfl
  have c6 : Tryz.prog.cellsOf 77 = 64 := by kernel_rfl
  have g0 : DataW.trod enc Tryz.prog W base sp held n 48 ((cs.drop 0).take (Tryz.prog.cellsOf 48)) = some (xs[0]'(by rw [h5]; decide)) := by rw [← List.getElem?_eq_getElem]; exact h6 0 _ rfl
  rw [c0] at g0
  obtain ⟨a0, e0, _, w0⟩ := DataW.trod_int Y48 g0
  obtain ⟨v0, rfl⟩ := Hw.u64_back w0
  have g1 : DataW.trod enc Tryz.prog W base sp held n 48 ((cs.drop 1).take (Tryz.prog.cellsOf 48)) = some (xs[1]'(by rw [h5]; decide)) := by rw [← List.getElem?_eq_getElem]; exact h6 1 _ rfl
  rw [c1] at g1
  obtain ⟨a1, e1, _, w1⟩ := DataW.trod_int Y48 g1
  obtain ⟨v1, rfl⟩ := Hw.u64_back w1
  have g2 : DataW.trod enc Tryz.prog W base sp held n 3 ((cs.drop 2).take (Tryz.prog.cellsOf 3)) = some (xs[2]'(by rw [h5]; decide)) := by rw [← List.getElem?_eq_getElem]; exact h6 2 _ rfl
  rw [c2] at g2
  obtain ⟨v2, e2, _, w2⟩ := DataW.trod_int Y3 g2
  have g3 : DataW.trod enc Tryz.prog W base sp held n 50 ((cs.drop 3).take (Tryz.prog.cellsOf 50)) = some (xs[3]'(by rw [h5]; decide)) := by rw [← List.getElem?_eq_getElem]; exact h6 3 _ rfl
  rw [c3] at g3
  obtain ⟨v3, e3, l3⟩ := Hw.open_bytesT Y50 Y5 zK zK g3
  have g4 : DataW.trod enc Tryz.prog W base sp held n 48 ((cs.drop 35).take (Tryz.prog.cellsOf 48)) = some (xs[4]'(by rw [h5]; decide)) := by rw [← List.getElem?_eq_getElem]; exact h6 4 _ rfl
  rw [c4] at g4
  obtain ⟨a4, e4, _, w4⟩ := DataW.trod_int Y48 g4
  obtain ⟨v4, rfl⟩ := Hw.u64_back w4
  have g5 : DataW.trod enc Tryz.prog W base sp held n 75 ((cs.drop 36).take (Tryz.prog.cellsOf 75)) = some (xs[5]'(by rw [h5]; decide)) := by rw [← List.getElem?_eq_getElem]; exact h6 5 _ rfl
  rw [c5] at g5
  obtain ⟨v5, e5, l5⟩ := Hw.open_bytesT Y75 Y5 zK zK g5
  have g6 : DataW.trod enc Tryz.prog W base sp held n 77 ((cs.drop 68).take (Tryz.prog.cellsOf 77)) = some (xs[6]'(by rw [h5]; decide)) := by rw [← List.getElem?_eq_getElem]; exact h6 6 _ rfl
  rw [c6] at g6
  obtain ⟨v6, e6, l6⟩ := Hw.open_bytesT Y77 Y5 zK zK g6
  refine ⟨⟨v0, v1, v2, v3, v4, v5, v6⟩, ⟨l3, l5, l6⟩, ?_, w2⟩
  rw [← List.drop_zero (l := cs)]
  exact (Hw.cat 1 e0 rfl (Hw.cat 2 e1 rfl (Hw.cat 3 e2 rfl (Hw.cat 35 e3 rfl (Hw.cat 36 e4 rfl (Hw.cat 68 e5 rfl (Hw.cat_last e6 h4)))))))
end
section
variable {H : Type} {enc : TypeId × Value → H} {W : World} {base : Nat} {sp : Nat → Bool} {held : Bool}
theorem Block.openT {fuel : Nat} {cs : List Value} {y : DataW H × List MemPlace} (h : DataW.trod enc Tryz.prog W base sp held fuel 79 cs = some y) : ∃ x : Block, x.ok ∧ cs = x.cells ∧ (∃ ls, Hw.RowsAt W x.fLinks 32 ls) ∧ (∃ l, Hw.BytesAt W x.fData l) := by
  obtain ⟨xs, n, _, _, h4, h5, h6⟩ := DataW.trod_struct Y79 h
  rw [show Tryz.prog.cellsOf 79 = 131 by kernel_rfl] at h4
  have c0 : Tryz.prog.cellsOf 75 = 32 := by kernel_rfl
  have c1 : Tryz.prog.cellsOf 48 = 1 := by kernel_rfl
  have c2 : Tryz.prog.cellsOf 50 = 32 := by kernel_rfl
  have c3 : Tryz.prog.cellsOf 51 = 1 := by kernel_rfl
  have c4 : Tryz.prog.cellsOf 58 = 1 := by kernel_rfl
  have c5 : Tryz.prog.cellsOf 77 = 64 := by kernel_rfl
  have g0 : DataW.trod enc Tryz.prog W base sp held n 75 ((cs.drop 0).take (Tryz.prog.cellsOf 75)) = some (xs[0]'(by rw [h5]; decide)) := by rw [← List.getElem?_eq_getElem]; exact h6 0 _ rfl
  rw [c0] at g0
  obtain ⟨v0, e0, l0⟩ := Hw.open_bytesT Y75 Y5 zK zK g0
  have g1 : DataW.trod enc Tryz.prog W base sp held n 48 ((cs.drop 32).take (Tryz.prog.cellsOf 48)) = some (xs[1]'(by rw [h5]; decide)) := by rw [← List.getElem?_eq_getElem]; exact h6 1 _ rfl
  rw [c1] at g1
  obtain ⟨a1, e1, _, w1⟩ := DataW.trod_int Y48 g1
  obtain ⟨v1, rfl⟩ := Hw.u64_back w1
  have g2 : DataW.trod enc Tryz.prog W base sp held n 50 ((cs.drop 33).take (Tryz.prog.cellsOf 50)) = some (xs[2]'(by rw [h5]; decide)) := by rw [← List.getElem?_eq_getElem]; exact h6 2 _ rfl
  rw [c2] at g2
  obtain ⟨v2, e2, l2⟩ := Hw.open_bytesT Y50 Y5 zK zK g2
  have g3 : DataW.trod enc Tryz.prog W base sp held n 51 ((cs.drop 65).take (Tryz.prog.cellsOf 51)) = some (xs[3]'(by rw [h5]; decide)) := by rw [← List.getElem?_eq_getElem]; exact h6 3 _ rfl
  rw [c3] at g3
  obtain ⟨v3, b3, e3, q3⟩ := Hw.open_rowsS Y51 Y50 Y5 zK zK dE g3
  have g4 : DataW.trod enc Tryz.prog W base sp held n 58 ((cs.drop 66).take (Tryz.prog.cellsOf 58)) = some (xs[4]'(by rw [h5]; decide)) := by rw [← List.getElem?_eq_getElem]; exact h6 4 _ rfl
  rw [c4] at g4
  obtain ⟨v4, b4, e4, q4⟩ := Hw.open_bytesS Y58 Y5 zK g4
  have g5 : DataW.trod enc Tryz.prog W base sp held n 77 ((cs.drop 67).take (Tryz.prog.cellsOf 77)) = some (xs[5]'(by rw [h5]; decide)) := by rw [← List.getElem?_eq_getElem]; exact h6 5 _ rfl
  rw [c5] at g5
  obtain ⟨v5, e5, l5⟩ := Hw.open_bytesT Y77 Y5 zK zK g5
  refine ⟨⟨v0, v1, v2, v3, v4, v5⟩, ⟨l0, l2, l5⟩, ?_, ⟨b3, q3⟩, ⟨b4, q4⟩⟩
  rw [← List.drop_zero (l := cs)]
  exact (Hw.cat 32 e0 rfl (Hw.cat 33 e1 rfl (Hw.cat 65 e2 rfl (Hw.cat 66 e3 rfl (Hw.cat 67 e4 rfl (Hw.cat_last e5 h4))))))
end
-- no opening of Reader (field fSelf)
section
variable {H : Type} {enc : TypeId × Value → H} {W : World} {base : Nat} {sp : Nat → Bool} {held : Bool}
theorem Cut.openT {fuel : Nat} {cs : List Value} {y : DataW H × List MemPlace} (h : DataW.trod enc Tryz.prog W base sp held fuel 53 cs = some y) : ∃ x : Cut, x.ok ∧ cs = x.cells ∧ (∃ ls, Hw.RowsAt W x.fHeads 32 ls) := by
  obtain ⟨xs, n, _, _, h4, h5, h6⟩ := DataW.trod_struct Y53 h
  rw [show Tryz.prog.cellsOf 53 = 34 by kernel_rfl] at h4
  have c0 : Tryz.prog.cellsOf 48 = 1 := by kernel_rfl
  have c1 : Tryz.prog.cellsOf 50 = 32 := by kernel_rfl
  have c2 : Tryz.prog.cellsOf 51 = 1 := by kernel_rfl
  have g0 : DataW.trod enc Tryz.prog W base sp held n 48 ((cs.drop 0).take (Tryz.prog.cellsOf 48)) = some (xs[0]'(by rw [h5]; decide)) := by rw [← List.getElem?_eq_getElem]; exact h6 0 _ rfl
  rw [c0] at g0
  obtain ⟨a0, e0, _, w0⟩ := DataW.trod_int Y48 g0
  obtain ⟨v0, rfl⟩ := Hw.u64_back w0
  have g1 : DataW.trod enc Tryz.prog W base sp held n 50 ((cs.drop 1).take (Tryz.prog.cellsOf 50)) = some (xs[1]'(by rw [h5]; decide)) := by rw [← List.getElem?_eq_getElem]; exact h6 1 _ rfl
  rw [c1] at g1
  obtain ⟨v1, e1, l1⟩ := Hw.open_bytesT Y50 Y5 zK zK g1
  have g2 : DataW.trod enc Tryz.prog W base sp held n 51 ((cs.drop 33).take (Tryz.prog.cellsOf 51)) = some (xs[2]'(by rw [h5]; decide)) := by rw [← List.getElem?_eq_getElem]; exact h6 2 _ rfl
  rw [c2] at g2
  obtain ⟨v2, b2, e2, q2⟩ := Hw.open_rowsS Y51 Y50 Y5 zK zK dE g2
  refine ⟨⟨v0, v1, v2⟩, ⟨l1⟩, ?_, ⟨b2, q2⟩⟩
  rw [← List.drop_zero (l := cs)]
  exact (Hw.cat 1 e0 rfl (Hw.cat 33 e1 rfl (Hw.cat_last e2 h4)))
end

-- no opening of Msg (field fBlocks)
section
variable {H : Type} {enc : TypeId × Value → H} {W : World} {base : Nat} {sp : Nat → Bool} {held : Bool}
theorem Record.openT {fuel : Nat} {cs : List Value} {y : DataW H × List MemPlace} (h : DataW.trod enc Tryz.prog W base sp held fuel 91 cs = some y) : ∃ x : Record, x.ok ∧ cs = x.cells ∧ (∃ l, Hw.BytesAt W x.fData l) := by
  obtain ⟨xs, n, _, _, h4, h5, h6⟩ := DataW.trod_struct Y91 h
  rw [show Tryz.prog.cellsOf 91 = 2 by kernel_rfl] at h4
  have c0 : Tryz.prog.cellsOf 5 = 1 := by kernel_rfl
  have c1 : Tryz.prog.cellsOf 58 = 1 := by kernel_rfl
  have g0 : DataW.trod enc Tryz.prog W base sp held n 5 ((cs.drop 0).take (Tryz.prog.cellsOf 5)) = some (xs[0]'(by rw [h5]; decide)) := by rw [← List.getElem?_eq_getElem]; exact h6 0 _ rfl
  rw [c0] at g0
  obtain ⟨a0, e0, _, w0⟩ := DataW.trod_int Y5 g0
  obtain ⟨v0, rfl⟩ := Hw.u8_back w0
  have g1 : DataW.trod enc Tryz.prog W base sp held n 58 ((cs.drop 1).take (Tryz.prog.cellsOf 58)) = some (xs[1]'(by rw [h5]; decide)) := by rw [← List.getElem?_eq_getElem]; exact h6 1 _ rfl
  rw [c1] at g1
  obtain ⟨v1, b1, e1, q1⟩ := Hw.open_bytesS Y58 Y5 zK g1
  refine ⟨⟨v0, v1⟩, ⟨trivial⟩, ?_, ⟨b1, q1⟩⟩
  rw [← List.drop_zero (l := cs)]
  exact (Hw.cat 1 e0 rfl (Hw.cat_last e1 h4))
end
-- no opening of Kept (field fBlocks)
end Go.Proofs.YtdifpjmfabhpiaaGreat
end

section
namespace Go.Proofs.YtdifpjmfabhpiaaGreat
open Go Hw

def badAt (prev : List UInt8) (ls : List (List UInt8)) (i : Nat) : Bool := decide (ls.getD i [] = List.replicate 32 0) || (decide (ls.getD i [] = prev) || (decide ((0 : Int) < (i : Int)) && decide ((0 : Int) ≤ cmpB (ls.getD (i - 1) []) (ls.getD i []))))
def linksBad (prev : List UInt8) (ls : List (List UInt8)) : Bool := (List.range ls.length).any (badAt prev ls)
def bheadB (B : Block) : Bool := decide ((4294967295 : Int) < (B.fSeq.toNat : Int)) || (!decide (decide (B.fPrev = List.replicate 32 0) = decide ((B.fSeq.toNat : Int) = 0)) || (decide ((16 : Int) < (B.fLinks.n : Int)) || decide ((512 : Int) < (B.fData.n : Int))))
def bhead (B : Block) : Prop := bheadB B = true
theorem linksBad_at {prev : List UInt8} {ls : List (List UInt8)} {k : Nat} (hk : k < ls.length) (h : badAt prev ls k = true) : linksBad prev ls = true := by
  rw [linksBad, List.any_eq_true]; exact ⟨k, List.mem_range.2 hk, h⟩
theorem linksBad_not {prev : List UInt8} {ls : List (List UInt8)} (h : ∀ j, j < ls.length → badAt prev ls j = false) : linksBad prev ls = false := by
  rw [linksBad, List.any_eq_false]; intro x hx; rw [h x (List.mem_range.1 hx)]; simp
def bcheck (B : Block) (ls : List (List UInt8)) : Int := if bheadB B = true then 2 else (if linksBad B.fPrev ls = true then 2 else 0)
theorem bcheck_head {B : Block} {ls : List (List UInt8)} (h : bhead B) : bcheck B ls = 2 := by unfold bcheck; unfold bhead at h; rw [if_pos h]
theorem bcheck_bad {B : Block} {ls : List (List UInt8)} (h : ¬ bhead B) (hb : linksBad B.fPrev ls = true) : bcheck B ls = 2 := by unfold bcheck; unfold bhead at h; rw [if_neg h, if_pos hb]
theorem bcheck_ok {B : Block} {ls : List (List UInt8)} (h : ¬ bhead B) (hb : linksBad B.fPrev ls = false) : bcheck B ls = 0 := by unfold bcheck; unfold bhead at h; rw [if_neg h, if_neg (by rw [hb]; simp)]

theorem block_cmp (a b : List UInt8) (ha : a.length = 32) (hb : b.length = 32) : Meets Tryz.prog 178 [agg (Ab a), agg (Ab b)] [] (fun _ => True) (fun v out => v = i64 (cmpB a b) ∧ out = []) := by
 intro W hW
 refine An Tryz.func178 rfl 8 Tryz.ntmps178 rfl ?_
 refine Sat.seq (Sat.region ?_)
 refine Tr.boxA rfl rfl ?_
 intro n2 hn2 hf2
 refine Tr.boxA rfl rfl ?_
 intro n3 hn3 hf3
 refine Tr.a rfl rfl rfl ?_
 refine Tr.nil (Aa (Sat.seq ?_))
 refine Sat.draw [(0, 0), (0, 1), (3, 2), (0, 3)] Bv zK ?_
 refine Tr.sliceArr rfl rfl rfl Y50 Sz5 ?_
 refine Tr.sliceArr rfl rfl rfl Y50 Sz5 ?_
 refine Tr.cV rfl rfl rfl rfl Body123 (bytes_cmp _ _ _ _ _ _ a b ha hb) (fun W2 h => ⟨SeesP.of (Ap h Z1), SeesP.of (Ap h Z0)⟩) ?_
 refine Tr.a rfl rfl rfl ?_
 refine Tr.nil (Aa (Sat.ret (Am ?_)))
 refine ⟨_, [], Ae rfl rfl, sP, sP, ?_, rfl⟩
 rfl

theorem block_check (B : Block) (hB : B.ok) (ls : List (List UInt8)) : Meets Tryz.prog 82 [agg B.cells] [] (fun W => RowsAt W B.fLinks 32 ls) (fun v out => v = i64 (bcheck B ls) ∧ out = []) := by
 intro W hW
 have hcx : B.fLinks.n ≤ maxLen := hW.max
 simp only [maxLen] at hcx
 have hcn := hW.cap
 refine An Tryz.func82 rfl 65 Tryz.ntmps82 rfl ?_
 refine Sat.seq (Sat.region ?_)
 refine Tr.boxA rfl rfl ?_
 intro n1 hn1 hf1
 refine Tr.a rfl rfl rfl ?_
 refine Tr.nil (Aa (Sat.seq (Sat.region ?_)))
 refine Tr.build (cs := Ab (List.replicate 32 0)) rfl rfl rfl (fun w => by kernel_rfl) ?_
 refine Tr.alloc (cs := (Ab (List.replicate 32 0))) rfl Zr50 rfl ?_
 intro n3 hn3 hf3
 refine Tr.sA rfl rfl rfl rfl zB Bb sP Z0 sP zU ?_
 refine Tr.nil (Aa (Sat.seq (Sat.seq ?_)))
 refine Sat.draw [(0, 0), (1, 1), (0, 2), (0, 3), (0, 4), (1, 5), (1, 6), (0, 7), (0, 8), (1, 9), (0, 10), (0, 11), (0, 12), (0, 13), (0, 14), (1, 15), (0, 16), (0, 17), (0, 18), (0, 19), (0, 20), (1, 21), (0, 22), (0, 23), (0, 24)] Bv zK ?_
 refine Tr.fld rfl rfl rfl Y79 rfl B1 dE _ rfl ?_
 refine Tr.load1 rfl rfl rfl Y48 rfl Z1 (by exact Block.get_fSeq zA) ?_
 refine two (fun r hr k => Tr.gtr rfl rfl rfl rfl hr k) (fun hs2_20 => ?_) (fun hs2_20 => ?_)
 ·
  have hs2_2 := of_decide_eq_true hs2_20
  refine Tr.m rfl rfl rfl ?_
  refine Tr.skp rfl rfl ?_
  refine Tr.skp rfl rfl ?_
  refine Tr.skp rfl rfl ?_
  refine Tr.skp rfl rfl ?_
  refine Tr.skp rfl rfl ?_
  refine Tr.skp rfl rfl ?_
  refine Tr.skp rfl rfl ?_
  refine Tr.skp rfl rfl ?_
  refine Tr.pick rfl rfl rfl rfl rfl rfl ?_
  refine Tr.m rfl rfl rfl ?_
  refine Tr.skp rfl rfl ?_
  refine Tr.skp rfl rfl ?_
  refine Tr.skp rfl rfl ?_
  refine Tr.skp rfl rfl ?_
  refine Tr.pick rfl rfl rfl rfl rfl rfl ?_
  refine Tr.m rfl rfl rfl ?_
  refine Tr.skp rfl rfl ?_
  refine Tr.skp rfl rfl ?_
  refine Tr.skp rfl rfl ?_
  refine Tr.skp rfl rfl ?_
  refine Tr.pick rfl rfl rfl rfl rfl rfl ?_
  refine Tr.nil (Aa ?_)
  refine Sat.cond_t rfl rfl ?_
  refine Sat.seq (Sat.region ?_)
  refine Tr.a rfl rfl rfl ?_
  refine Tr.nil (Aa (Sat.ret (Ao (Am ?_))))
  refine ⟨_, [], Ae rfl rfl, sP, sP, ?_, rfl⟩
  exact congrArg i64 (bcheck_head (by unfold bhead bheadB; simp_all)).symm
 ·
  have hs2_2 := of_decide_eq_false hs2_20
  refine Tr.m rfl rfl rfl ?_
  refine Tr.fld rfl rfl rfl Y79 rfl Bb dE _ rfl ?_
  refine Tr.lN (Ab _) rfl rfl rfl Y50 rfl Bb Z1 (Block.row_fPrev zA) (Block.rl_fPrev zA) ?_
  refine Tr.lA rfl rfl rfl Y50 rfl Bb Z0 sP ?_
  refine Tr.eql_bytes rfl rfl rfl rfl Tryz.eqGuardType50 Y50 Y5 Sz5 (by (simp [hB.l_fPrev]; done)) sP rfl ?_
  refine Tr.fld rfl rfl rfl Y79 rfl B1 dE _ rfl ?_
  refine Tr.load1 rfl rfl rfl Y48 rfl Z1 (by exact Block.get_fSeq zA) ?_
  refine Tr.eqi rfl rfl rfl rfl rfl ?_
  refine two (fun r hr k => Tr.neb rfl rfl rfl rfl Tryz.underlying4 hr k) (fun hs2_110 => ?_) (fun hs2_110 => ?_)
  ·
   have hs2_11 := A2 hs2_110
   refine Tr.pick rfl rfl rfl rfl rfl rfl ?_
   refine Tr.m rfl rfl rfl ?_
   refine Tr.skp rfl rfl ?_
   refine Tr.skp rfl rfl ?_
   refine Tr.skp rfl rfl ?_
   refine Tr.skp rfl rfl ?_
   refine Tr.pick rfl rfl rfl rfl rfl rfl ?_
   refine Tr.m rfl rfl rfl ?_
   refine Tr.skp rfl rfl ?_
   refine Tr.skp rfl rfl ?_
   refine Tr.skp rfl rfl ?_
   refine Tr.skp rfl rfl ?_
   refine Tr.pick rfl rfl rfl rfl rfl rfl ?_
   refine Tr.nil (Aa ?_)
   refine Sat.cond_t rfl rfl ?_
   refine Sat.seq (Sat.region ?_)
   refine Tr.a rfl rfl rfl ?_
   refine Tr.nil (Aa (Sat.ret (Ao (Am ?_))))
   refine ⟨_, [], Ae rfl rfl, sP, sP, ?_, rfl⟩
   exact congrArg i64 (bcheck_head (by unfold bhead bheadB; simp_all)).symm
  ·
   have hs2_11 := A3 hs2_110
   refine Tr.pick rfl rfl rfl rfl rfl rfl ?_
   refine Tr.m rfl rfl rfl ?_
   refine Tr.fld rfl rfl rfl Y79 rfl Sz51 dE _ rfl ?_
   refine Tr.load1 rfl rfl rfl Y51 rfl Z1 (by exact Block.get_fLinks zA) ?_
   refine Tr.lenSl rfl rfl rfl Y51 ?_
   refine two (fun r hr k => Tr.gtr rfl rfl rfl rfl hr k) (fun hs2_170 => ?_) (fun hs2_170 => ?_)
   ·
    have hs2_17 := of_decide_eq_true hs2_170
    refine Tr.pick rfl rfl rfl rfl rfl rfl ?_
    refine Tr.m rfl rfl rfl ?_
    refine Tr.skp rfl rfl ?_
    refine Tr.skp rfl rfl ?_
    refine Tr.skp rfl rfl ?_
    refine Tr.skp rfl rfl ?_
    refine Tr.pick rfl rfl rfl rfl rfl rfl ?_
    refine Tr.nil (Aa ?_)
    refine Sat.cond_t rfl rfl ?_
    refine Sat.seq (Sat.region ?_)
    refine Tr.a rfl rfl rfl ?_
    refine Tr.nil (Aa (Sat.ret (Ao (Am ?_))))
    refine ⟨_, [], Ae rfl rfl, sP, sP, ?_, rfl⟩
    exact congrArg i64 (bcheck_head (by unfold bhead bheadB; simp_all)).symm
   ·
    have hs2_17 := of_decide_eq_false hs2_170
    refine Tr.pick rfl rfl rfl rfl rfl rfl ?_
    refine Tr.m rfl rfl rfl ?_
    refine Tr.fld rfl rfl rfl Y79 rfl Sz58 dE _ rfl ?_
    refine Tr.load1 rfl rfl rfl Y58 rfl Z1 (by exact Block.get_fData zA) ?_
    refine Tr.lenSl rfl rfl rfl Y58 ?_
    refine Tr.gtr rfl rfl rfl rfl rfl ?_
    refine Tr.pick rfl rfl rfl rfl rfl rfl ?_
    refine Tr.nil (Aa ?_)
    refine Sat.condP rfl (fun hc0 => ?_) (fun hc0 => ?_)
    ·
     refine Sat.seq (Sat.region ?_)
     refine Tr.a rfl rfl rfl ?_
     refine Tr.nil (Aa (Sat.ret (Ao (Am ?_))))
     refine ⟨_, [], Ae rfl rfl, sP, sP, ?_, rfl⟩
     exact congrArg i64 (bcheck_head (by unfold bhead bheadB; simp_all)).symm
    ·
     have hnb : ¬ bhead B := by unfold bhead bheadB; simp_all
     refine Sat.skip (Aa (Sat.seq (Sat.seq (Sat.region ?_))))
     refine Tr.fld rfl rfl rfl Y79 rfl Sz51 dE _ rfl ?_
     refine Tr.load1 rfl rfl rfl Y51 rfl Z1 (by exact Block.get_fLinks zA) ?_
     refine Tr.lenSl rfl rfl rfl Y51 ?_
     refine Tr.m rfl rfl rfl ?_
     refine Tr.nil (Aa (Sat.block ?_))
     refine Sat.loop (ι := Nat) (fun k => ⟨[(1, ptr n1 0), (3, ptr n3 0), (33, B.fLinks.v), (34, i64 (B.fLinks.n : Int)), (35, i64 (k : Int))], [⟨n3, Ab (List.replicate 32 0), 50, 32⟩, ⟨n1, B.cells, 79, B.cells.length⟩]⟩) (fun k => k ≤ B.fLinks.n ∧ ∀ j, j < k → badAt B.fPrev ls j = false) (fun k => B.fLinks.n - k) (0) ?_ ?_ ?_
     · exact ⟨by omega, fun j hj => by omega⟩
     · exact Ar (wk1 rfl (wk1 rfl (wk1 rfl (wk1 rfl (wk1 rfl wk0))))) (wh1 Z0 (wh1 Z1 wh0)) nD
     ·
      rintro k ⟨hk, hg⟩
      refine Sat.seq (Sat.region ?_)
      refine Tr.lss rfl rfl rfl rfl rfl ?_
      refine Tr.nil (Aa (Sat.seq ?_))
      refine Sat.condP rfl (fun hc1 => ?_) (fun hc1 => ?_)
      ·
       have hk2 : k < B.fLinks.n := by omega
       have hll := hW.len
       obtain ⟨b, o, hbp, hbs⟩ := hW.see.at (by rw [B7 hW.row]; omega)
       have hr0 : (ls.getD k []).length = 32 := getD_len hW.row oM
       have hr1 : (ls.getD (k - 1) []).length = 32 := getD_len hW.row oM
       refine Sat.skip (Aa ?_)
       refine Sat.join (ι := Unit) (fun _u => ⟨[(1, ptr n1 0), (3, ptr n3 0), (33, B.fLinks.v), (34, i64 (B.fLinks.n : Int)), (35, i64 (k : Int))], [⟨n3, Ab (List.replicate 32 0), 50, 32⟩, ⟨n1, B.cells, 79, B.cells.length⟩]⟩) (fun _u => badAt B.fPrev ls k = false) ?_ ?_
       ·
        refine Sat.block (Sat.seq ?_)
        refine Sat.region ?_
        refine Tr.m rfl rfl rfl ?_
        refine Tr.idxSlP 32 rfl rfl rfl hbp rfl Y51 Bb k rfl oM ?_
        refine Tr.loadEN (Ab (ls.getD (k) [])) rfl rfl rfl Y50 rfl Bb sP (by rw [Ab, List.length_map]; exact getD_len hW.row (by rw [hW.len]; omega)) (sees_row hW.row hbs (by rw [hW.len]; omega)) ?_
        refine Tr.alloc (cs := (Ab (List.replicate 32 0))) rfl Zr50 rfl ?_
        intro n5 hn5 hf5
        refine Tr.a rfl rfl rfl ?_
        refine Tr.sA rfl rfl rfl rfl zB Bb (by (rw [Ab, List.length_map]; assumption)) Z0 sP zU ?_
        refine Tr.nil (Aa (Sat.seq ?_))
        refine Sat.draw [(1, 0), (1, 1), (0, 2), (0, 3), (1, 4), (0, 5), (1, 6), (0, 7), (0, 8), (0, 9), (0, 10), (0, 11), (0, 12), (0, 13), (1, 14), (0, 15), (0, 16), (0, 17), (1, 18), (1, 19), (3, 20), (0, 21), (0, 22), (0, 23)] Bv zK ?_
        refine Tr.lA rfl rfl rfl Y50 rfl Bb Z0 (by (rw [Ab, List.length_map]; assumption)) ?_
        refine Tr.lA rfl rfl rfl Y50 rfl Bb Z1 sP ?_
        refine two (fun r hr k => Tr.eql_bytes rfl rfl rfl rfl Tryz.eqGuardType50 Y50 Y5 Sz5 zA sP hr k) (fun hs7_20 => ?_) (fun hs7_20 => ?_)
        ·
         have hs7_2 := of_decide_eq_true hs7_20
         refine Tr.m rfl rfl rfl ?_
         refine Tr.skp rfl rfl ?_
         refine Tr.skp rfl rfl ?_
         refine Tr.skp rfl rfl ?_
         refine Tr.skp rfl rfl ?_
         refine Tr.pick rfl rfl rfl rfl rfl rfl ?_
         refine Tr.m rfl rfl rfl ?_
         refine Tr.skp rfl rfl ?_
         refine Tr.skp rfl rfl ?_
         refine Tr.skp rfl rfl ?_
         refine Tr.skp rfl rfl ?_
         refine Tr.skp rfl rfl ?_
         refine Tr.skp rfl rfl ?_
         refine Tr.skp rfl rfl ?_
         refine Tr.skp rfl rfl ?_
         refine Tr.skp rfl rfl ?_
         refine Tr.skp rfl rfl ?_
         refine Tr.skp rfl rfl ?_
         refine Tr.skp rfl rfl ?_
         refine Tr.skp rfl rfl ?_
         refine Tr.pick rfl rfl rfl rfl rfl rfl ?_
         refine Tr.nil (Aa ?_)
         refine Sat.cond_t rfl rfl ?_
         refine Sat.seq (Sat.region ?_)
         refine Tr.a rfl rfl rfl ?_
         refine Tr.nil (Aa (Sat.ret (B8 (Ao (Ao (B8 (Ao (Am ?_))))))))
         refine ⟨_, [], Ae rfl rfl, sP, sP, ?_, rfl⟩
         exact congrArg i64 (bcheck_bad hnb (linksBad_at (k := k) oM (by unfold badAt; simp_all))).symm
        ·
         have hs7_2 := of_decide_eq_false hs7_20
         refine Tr.m rfl rfl rfl ?_
         refine Tr.lA rfl rfl rfl Y50 rfl Bb Z0 (by (rw [Ab, List.length_map]; assumption)) ?_
         refine Tr.fld rfl rfl rfl Y79 rfl Bb dE _ rfl ?_
         refine Tr.lN (Ab _) rfl rfl rfl Y50 rfl Bb Z2 (Block.row_fPrev zA) (Block.rl_fPrev zA) ?_
         refine two (fun r hr k => Tr.eql_bytes rfl rfl rfl rfl Tryz.eqGuardType50 Y50 Y5 Sz5 zA (by (simp [hB.l_fPrev]; done)) hr k) (fun hs7_70 => ?_) (fun hs7_70 => ?_)
         ·
          have hs7_7 := of_decide_eq_true hs7_70
          refine Tr.pick rfl rfl rfl rfl rfl rfl ?_
          refine Tr.m rfl rfl rfl ?_
          refine Tr.skp rfl rfl ?_
          refine Tr.skp rfl rfl ?_
          refine Tr.skp rfl rfl ?_
          refine Tr.skp rfl rfl ?_
          refine Tr.skp rfl rfl ?_
          refine Tr.skp rfl rfl ?_
          refine Tr.skp rfl rfl ?_
          refine Tr.skp rfl rfl ?_
          refine Tr.skp rfl rfl ?_
          refine Tr.skp rfl rfl ?_
          refine Tr.skp rfl rfl ?_
          refine Tr.skp rfl rfl ?_
          refine Tr.skp rfl rfl ?_
          refine Tr.pick rfl rfl rfl rfl rfl rfl ?_
          refine Tr.nil (Aa ?_)
          refine Sat.cond_t rfl rfl ?_
          refine Sat.seq (Sat.region ?_)
          refine Tr.a rfl rfl rfl ?_
          refine Tr.nil (Aa (Sat.ret (B8 (Ao (Ao (B8 (Ao (Am ?_))))))))
          refine ⟨_, [], Ae rfl rfl, sP, sP, ?_, rfl⟩
          exact congrArg i64 (bcheck_bad hnb (linksBad_at (k := k) oM (by unfold badAt; simp_all))).symm
         ·
          have hs7_7 := of_decide_eq_false hs7_70
          refine Tr.pick rfl rfl rfl rfl rfl rfl ?_
          refine Tr.m rfl rfl rfl ?_
          refine Tr.m rfl rfl rfl ?_
          refine two (fun r hr k => Tr.gtr rfl rfl rfl rfl hr k) (fun hs7_110 => ?_) (fun hs7_110 => ?_)
          ·
           have hs7_11 := of_decide_eq_true hs7_110
           refine Tr.m rfl rfl rfl ?_
           refine Tr.fld rfl rfl rfl Y79 rfl Sz51 dE _ rfl ?_
           refine Tr.load1 rfl rfl rfl Y51 rfl Z2 (by exact Block.get_fLinks zA) ?_
           refine Tr.m rfl rfl rfl ?_
           refine Tr.sub_i64 rfl rfl rfl rfl oM ?_
           refine Tr.idxSlP 32 rfl rfl rfl hbp rfl Y51 Bb (k - 1) oM oM ?_
           refine Tr.loadEN (Ab (ls.getD (k - 1) [])) rfl rfl rfl Y50 rfl Bb sP (by rw [Ab, List.length_map]; exact getD_len hW.row (by rw [hW.len]; omega)) (sees_row hW.row hbs (by rw [hW.len]; omega)) ?_
           refine Tr.lA rfl rfl rfl Y50 rfl Bb Z0 (by (rw [Ab, List.length_map]; assumption)) ?_
           refine Tr.cV rfl rfl rfl rfl Body178 (block_cmp _ _ hr1 hr0) tV ?_
           refine Tr.geq rfl rfl rfl rfl rfl ?_
           refine Tr.pick rfl rfl rfl rfl rfl rfl ?_
           refine Tr.pick rfl rfl rfl rfl rfl rfl ?_
           refine Tr.nil (Aa ?_)
           refine Sat.condP rfl (fun hc2 => ?_) (fun hc2 => ?_)
           ·
            refine Sat.seq (Sat.region ?_)
            refine Tr.a rfl rfl rfl ?_
            refine Tr.nil (Aa (Sat.ret (B8 (Ao (Ao (B8 (Ao (Am ?_))))))))
            refine ⟨_, [], Ae rfl rfl, sP, sP, ?_, rfl⟩
            exact congrArg i64 (bcheck_bad hnb (linksBad_at (k := k) oM (by unfold badAt; simp_all))).symm
           ·
            refine Sat.skip (B2 (Aa ?_))
            refine ⟨(), by unfold badAt; simp_all, Ar (wk1 rfl (wk1 rfl (wk1 rfl (wk1 rfl (wk1 rfl wk0))))) (wh1 Z1 (wh1 Z2 wh0)) nD⟩
          ·
           have hs7_11 := of_decide_eq_false hs7_110
           refine Tr.m rfl rfl rfl ?_
           refine Tr.skp rfl rfl ?_
           refine Tr.skp rfl rfl ?_
           refine Tr.skp rfl rfl ?_
           refine Tr.skp rfl rfl ?_
           refine Tr.skp rfl rfl ?_
           refine Tr.skp rfl rfl ?_
           refine Tr.skp rfl rfl ?_
           refine Tr.skp rfl rfl ?_
           refine Tr.skp rfl rfl ?_
           refine Tr.pick rfl rfl rfl rfl rfl rfl ?_
           refine Tr.pick rfl rfl rfl rfl rfl rfl ?_
           refine Tr.nil (Aa ?_)
           refine Sat.cond_f rfl rfl ?_
           refine Sat.skip (B2 (Aa ?_))
           refine ⟨(), by unfold badAt; simp_all, Ar (wk1 rfl (wk1 rfl (wk1 rfl (wk1 rfl (wk1 rfl wk0))))) (wh1 Z1 (wh1 Z2 wh0)) nD⟩
       ·
        intro _u hj
        have hgk := hj
        refine Sat.region ?_
        refine Tr.aI rfl rfl rfl rfl oM ?_
        refine Tr.m rfl rfl rfl ?_
        refine Tr.nil (Aa ?_)
        exact ⟨k + 1, ⟨by omega, fun j hj => by rcases Nat.lt_succ_iff_lt_or_eq.1 hj with h | rfl; exact hg j h; exact hgk⟩, by omega, Ar (wk1 rfl (wk1 rfl (wk1 rfl (wk1 rfl (wk1 rfl wk0))))) (wh1 Z0 (wh1 Z1 wh0)) nD⟩
      ·
       obtain rfl : k = B.fLinks.n := by omega
       refine Sat.exit (Bf (Bf (bl_h (Aa (Sat.seq (Sat.region ?_))))))
       refine Tr.a rfl rfl rfl ?_
       refine Tr.nil (Aa (Sat.ret (Am ?_)))
       refine ⟨_, [], Ae rfl rfl, sP, sP, ?_, rfl⟩
       exact congrArg i64 (bcheck_ok hnb (linksBad_not (by rw [hW.len]; exact hg))).symm

theorem kit_names (s : Sl) (ls : List (List UInt8)) (hn : s.n ≤ 500000) : Meets Tryz.prog 124 [s.v] [] (fun W => RowsAt W s 32 ls) (fun v out => FreshRow v out (B5 ls) 50 s.n 32) := by
 intro W hW
 refine An Tryz.func124 rfl 6 Tryz.ntmps124 rfl ?_
 refine Sat.seq (Sat.region ?_)
 refine Tr.a rfl rfl rfl ?_
 refine Tr.nil (Aa (Sat.seq (Sat.region ?_)))
 refine Tr.mkRow (z := agg (Ab (List.replicate 32 0))) [] ([]) rfl rfl rfl Y51 Bb Zr50 rfl rfl (by intro v hv; cases hv) dE (rfl) ?_
 intro q0
 refine Tr.m rfl rfl rfl ?_
 refine Tr.appendSl (z := agg (Ab (List.replicate 32 0))) (by' := 32) (B5 ls) rfl rfl rfl rfl rfl Y51 Y51 Bb Zr50 (by unfold By; kernel_rfl) rfl (fun w h => Aw h rfl hW.see) (fun e => by have := hW.nil e; have := hW.cap; omega) (flatB_cell ls) Ay rfl rfl oM oM oM (by rw [B7 hW.row, hW.len]) ?_
 intro q1 c1 hq1
 refine Tr.a rfl rfl rfl ?_
 refine Tr.nil (Aa (Sat.ret (Am ?_)))
 refine ⟨_, [⟨q1, [] ++ B5 ls, 50, c1 * 32⟩], Ae rfl rfl, (by intro b hb; rw [List.mem_singleton.1 hb]; exact mem0), Bz, ⟨q1, c1, by rw [Nat.zero_add], by omega, rfl⟩⟩

theorem kit_own (s : Sl) (l : List UInt8) (hn : s.n ≤ 500000) : Meets Tryz.prog 27 [s.v] [] (fun W => BytesAt W s l) (fun v out => FreshRow v out (Ab l) 5 s.n 1) := by
 intro W hW
 refine An Tryz.func27 rfl 6 Tryz.ntmps27 rfl ?_
 refine Sat.seq (Sat.region ?_)
 refine Tr.a rfl rfl rfl ?_
 refine Tr.nil (Aa (Sat.seq (Sat.region ?_)))
 refine Tr.mkRow (z := u8 0) [] ([]) rfl rfl rfl Y58 Sz5 Zr5 rfl rfl (by intro v hv; cases hv) dE (rfl) ?_
 intro q0
 refine Tr.m rfl rfl rfl ?_
 refine Tr.appendSl (z := u8 0) (by' := 1) (Ab l) rfl rfl rfl rfl rfl Y58 Y58 Sz5 Zr5 (by unfold By; kernel_rfl) rfl (fun w h => Aw h rfl hW.see) (fun e => by have := hW.nil e; have := hW.cap; omega) (by simp [Ab, isCell, u8]) Ay rfl rfl oM oM oM (by rw [Ab, List.length_map, hW.len, Nat.mul_one]) ?_
 intro q1 c1 hq1
 refine Tr.a rfl rfl rfl ?_
 refine Tr.nil (Aa (Sat.ret (Am ?_)))
 refine ⟨_, [⟨q1, [] ++ Ab l, 5, c1 * 1⟩], Ae rfl rfl, (by intro b hb; rw [List.mem_singleton.1 hb]; exact mem0), Bz, ⟨q1, c1, by rw [Nat.zero_add], by omega, rfl⟩⟩

def ownB (B : Block) (q1 c1 q2 c2 : Nat) : Block := { B with fLinks := ⟨some ⟨q1, 0, none⟩, B.fLinks.n, c1⟩, fData := ⟨some ⟨q2, 0, none⟩, B.fData.n, c2⟩ }
theorem ownB_ok {B : Block} (h : B.ok) (q1 c1 q2 c2 : Nat) : (ownB B q1 c1 q2 c2).ok := ⟨h.l_fWriter, h.l_fPrev, h.l_fSig⟩
def OwnedBlock (B : Block) (ls : List (List UInt8)) (l : List UInt8) (v : Value) (out : List Blk) : Prop := ∃ q1 c1 q2 c2, v = agg (ownB B q1 c1 q2 c2).cells ∧ B.fLinks.n ≤ c1 ∧ B.fData.n ≤ c2 ∧ out = [⟨q2, Ab l, 5, c2 * 1⟩, ⟨q1, B5 ls, 50, c1 * 32⟩]
theorem OwnedBlock.loose (B : Block) (ls : List (List UInt8)) (l : List UInt8) : Loose (OwnedBlock B ls l) := fun k hk => by
  obtain ⟨q1, _, h1⟩ := fresh_is 0 k
  obtain ⟨q2, h2', h2⟩ := fresh_is (q1 + 1) k
  refine ⟨_, _, ⟨q1, B.fLinks.n, q2, B.fData.n, rfl, Nat.le_refl _, Nat.le_refl _, rfl⟩, ?_⟩
  simp only [List.cons_append, List.nil_append, List.map_cons, List.nodup_cons, List.mem_cons]
  refine ⟨?_, fun h => ?_, hk⟩
  · rintro (h | h)
    · omega
    · obtain ⟨b, hb, e⟩ := List.mem_map.1 h; exact h2 b hb e
  · obtain ⟨b, hb, e⟩ := List.mem_map.1 h; exact h1 b hb e
theorem rows_ext {C : Cx} {hp : List Blk} {w : World} {s : Sl} {m : Nat} {ls : List (List UInt8)} (h : HRep C hp w) (hl : C.lent = []) (hr : RowsAt C.W0 s m ls) : RowsAt w s m ls := ⟨hr.len, hr.row, hr.cap, Aw h hl hr.see, hr.max, hr.nil⟩
theorem bytes_ext {C : Cx} {hp : List Blk} {w : World} {s : Sl} {l : List UInt8} (h : HRep C hp w) (hl : C.lent = []) (hr : BytesAt C.W0 s l) : BytesAt w s l := ⟨hr.len, hr.cap, Aw h hl hr.see, hr.max, hr.nil⟩

theorem kit_own_block (B : Block) (hB : B.ok) (ls : List (List UInt8)) (l : List UInt8) (hn : B.fLinks.n ≤ 500000) (hd : B.fData.n ≤ 500000) : Meets Tryz.prog 37 [agg B.cells] [] (fun W => RowsAt W B.fLinks 32 ls ∧ BytesAt W B.fData l) (OwnedBlock B ls l) := by
 intro W hW
 refine An Tryz.func37 rfl 12 Tryz.ntmps37 rfl ?_
 refine Sat.seq (Sat.region ?_)
 refine Tr.boxA rfl rfl ?_
 intro n1 hn1 hf1
 refine Tr.alloc (cs := Block.zero.cells) rfl Block.zr rfl ?_
 intro n2 hn2 hf2
 refine Tr.nil (Aa (Sat.seq ?_))
 refine Sat.draw [(0, 0), (1, 1), (0, 3), (1, 4), (3, 2), (0, 6), (3, 5), (4, 7), (0, 8), (4, 9)] Bv zK ?_
 refine Tr.fld rfl rfl rfl Y79 rfl Sz51 dE _ rfl ?_
 refine Tr.load1 rfl rfl rfl Y51 rfl Z1 (by exact Block.get_fLinks zA) ?_
 refine Tr.fld rfl rfl rfl Y79 rfl Sz58 dE _ rfl ?_
 refine Tr.load1 rfl rfl rfl Y58 rfl Z1 (by exact Block.get_fData zA) ?_
 refine Tr.call rfl rfl rfl rfl Body124 (kit_names _ ls hn) (FreshRow.loose _ _ _ _) (fun w h => rows_ext h rfl hW.1) ?_
 rintro v1 out1 ⟨q1, c1, rfl, hc1, rfl⟩
 refine Tr.fld rfl rfl rfl Y79 rfl Sz51 dE _ rfl ?_
 refine Tr.call rfl rfl rfl rfl Body27 (kit_own _ l hd) (FreshRow.loose _ _ _ _) (fun w h => bytes_ext h rfl hW.2) ?_
 rintro v2 out2 ⟨q2, c2, rfl, hc2, rfl⟩
 refine Tr.s1 rfl rfl rfl rfl rfl Sz51 Z3 (by rw [Block.length zA]; decide) (by exact Block.setS_fLinks zA _ _ _) (by exact upd3) ?_
 refine Tr.fld rfl rfl rfl Y79 rfl Sz58 dE _ rfl ?_
 refine Tr.s1 rfl rfl rfl rfl rfl Sz58 Z3 (by rw [Block.length (by exact ⟨hB.l_fWriter, hB.l_fPrev, hB.l_fSig⟩)]; decide) (by exact Block.setS_fData (by exact ⟨hB.l_fWriter, hB.l_fPrev, hB.l_fSig⟩) _ _ _) (by exact upd3) ?_
 refine Tr.nil (Aa (Sat.seq (Sat.region ?_)))
 refine Tr.lA rfl rfl rfl Y79 rfl Sz79 Z3 (Block.length (by exact ⟨hB.l_fWriter, hB.l_fPrev, hB.l_fSig⟩)) ?_
 refine Tr.sA rfl rfl rfl rfl (Block.isCell (by exact ⟨hB.l_fWriter, hB.l_fPrev, hB.l_fSig⟩)) Sz79 (Block.length (by exact ⟨hB.l_fWriter, hB.l_fPrev, hB.l_fSig⟩)) Z2 (Block.length (by exact Block.zero_ok)) (by exact upd2) ?_
 refine Tr.nil (Aa (Sat.ret (Am ?_)))
 refine ⟨_, [⟨q2, Ab l, 5, c2 * 1⟩, ⟨q1, B5 ls, 50, c1 * 32⟩], res_cell rfl rfl Y79 rfl Sz79 Z2 (Block.length (ownB_ok hB q1 c1 q2 c2)), (by intro b hb; rcases List.mem_cons.1 hb with rfl | hb; exact mem0; rw [List.mem_singleton.1 hb]; exact mem1), (fun h => h.sublist sP), ⟨q1, c1, q2, c2, rfl, hc1, hc2, rfl⟩⟩

theorem take_step {α : Type} {xs bs : List α} {k : Nat} (d : α) (ha : k < xs.length) (hb : k < bs.length) (h : xs.take k = bs.take k) (he : xs.getD k d = bs.getD k d) : xs.take (k + 1) = bs.take (k + 1) := by
  rw [List.take_succ_eq_append_getElem ha, List.take_succ_eq_append_getElem hb, h]
  have e1 : xs.getD k d = xs[k] := by simp [List.getD, ha]
  have e2 : bs.getD k d = bs[k] := by simp [List.getD, hb]
  rw [← e1, ← e2, he]

theorem digests_eq (p q : Option Addr) (n c1 c2 : Nat) (xs bs : List (List UInt8)) (hra : ∀ l ∈ xs, l.length = 32) (hrb : ∀ l ∈ bs, l.length = 32) (ha : xs.length = n) (hb : bs.length = n) (hn : n ≤ 1000000) : Meets Tryz.prog 130 [.slice p n c1, .slice q n c2] [] (fun W => SeesP W p (B5 xs) ∧ SeesP W q (B5 bs)) (fun v out => v = .bool (decide (xs = bs)) ∧ out = []) := by
 intro W hW
 refine An Tryz.func130 rfl 26 Tryz.ntmps130 rfl ?_
 refine Sat.seq (Sat.region ?_)
 refine Tr.a rfl rfl rfl ?_
 refine Tr.nil (Aa (Sat.seq (Sat.seq (Sat.region ?_))))
 refine Tr.m rfl rfl rfl ?_
 refine Tr.lenSl rfl rfl rfl Y51 ?_
 refine Tr.m rfl rfl rfl ?_
 refine Tr.lenSl rfl rfl rfl Y51 ?_
 refine Tr.nei rfl rfl rfl rfl (show (!decide _) = false from congrArg not (decide_eq_true (rfl))) ?_
 refine Tr.nil (Aa ?_)
 refine Sat.cond_f rfl (rfl) ?_
 refine Sat.skip (Aa (Sat.seq (Sat.seq (Sat.region ?_))))
 refine Tr.a rfl rfl rfl ?_
 refine Tr.nil (Aa (Sat.block ?_))
 refine Sat.loop (ι := Nat) (fun k => ⟨[(0, .slice p n c1), (1, .slice q n c2), (5, i64 (k : Int))], []⟩) (fun k => k ≤ n ∧ xs.take k = bs.take k) (fun k => n - k) (0) ?_ ?_ ?_
 · exact ⟨by omega, rfl⟩
 · exact Ar (wk1 rfl (wk1 rfl (wk1 rfl wk0))) wh0 nD
 ·
  rintro k ⟨hk, hg⟩
  refine Sat.seq (Sat.seq (Sat.region ?_))
  refine Tr.m rfl rfl rfl ?_
  refine Tr.m rfl rfl rfl ?_
  refine Tr.lenSl rfl rfl rfl Y51 ?_
  refine Tr.lss rfl rfl rfl rfl rfl ?_
  refine Tr.nil (Aa ?_)
  refine Sat.condP rfl (fun hc1 => ?_) (fun hc1 => ?_)
  ·
   have hk2 : k < n := by omega
   obtain ⟨b1, o1, hp1, hs1⟩ := hW.1.at (by rw [B7 hra]; omega)
   obtain ⟨b2, o2, hp2, hs2⟩ := hW.2.at (by rw [B7 hrb]; omega)
   have r1 : (xs.getD k []).length = 32 := getD_len hra oM
   have r2 : (bs.getD k []).length = 32 := getD_len hrb oM
   refine Sat.skip (Aa (Sat.seq (Sat.block (Sat.seq ?_))))
   refine Sat.draw [(0, 0), (0, 1), (0, 2), (1, 3), (0, 4), (0, 5), (0, 6), (1, 7), (0, 8)] Bv zK ?_
   refine Tr.m rfl rfl rfl ?_
   refine Tr.m rfl rfl rfl ?_
   refine Tr.idxSlP 32 rfl rfl rfl hp1 rfl Y51 Bb k rfl oM ?_
   refine Tr.loadEN (Ab (xs.getD k [])) rfl rfl rfl Y50 rfl Bb sP (by rw [Ab, List.length_map]; exact getD_len hra oM) (sees_row hra hs1 oM) ?_
   refine Tr.m rfl rfl rfl ?_
   refine Tr.m rfl rfl rfl ?_
   refine Tr.idxSlP 32 rfl rfl rfl hp2 rfl Y51 Bb k rfl oM ?_
   refine Tr.loadEN (Ab (bs.getD k [])) rfl rfl rfl Y50 rfl Bb sP (by rw [Ab, List.length_map]; exact getD_len hrb oM) (sees_row hrb hs2 oM) ?_
   refine Tr.neq_bytes rfl rfl rfl rfl Tryz.eqGuardType50 Y50 Y5 Sz5 zA zA rfl ?_
   refine Tr.nil (Aa ?_)
   refine Sat.condNP rfl (fun hc2 => ?_) (fun hc2 => ?_)
   ·
    refine Sat.seq (Sat.region ?_)
    refine Tr.a rfl rfl rfl ?_
    refine Tr.nil (Aa (Sat.ret (B8 (Ao (Ao (B8 (Ao (Am ?_))))))))
    refine ⟨_, [], Ae rfl rfl, sP, sP, ?_, rfl⟩
    (rw [decide_eq_false (fun e => hc2 (by rw [e]))]; done)
   ·
    refine Sat.skip (B2 (Aa (Sat.region ?_)))
    refine Tr.m rfl rfl rfl ?_
    refine Tr.aI rfl rfl rfl rfl oM ?_
    refine Tr.a rfl rfl rfl ?_
    refine Tr.nil (Aa ?_)
    exact ⟨k + 1, ⟨by omega, take_step [] oM oM hg hc2⟩, by omega, Ar (wk1 rfl (wk1 rfl (wk1 rfl wk0))) wh0 nD⟩
  ·
   obtain rfl : k = n := by omega
   refine Sat.exit (Bf (Bf (bl_h (Aa (Sat.seq (Sat.region ?_))))))
   refine Tr.a rfl rfl rfl ?_
   refine Tr.nil (Aa (Sat.ret (Am ?_)))
   refine ⟨_, [], Ae rfl rfl, sP, sP, ?_, rfl⟩
   (rw [List.take_of_length_le oM, List.take_of_length_le oM] at hg; rw [decide_eq_true hg]; done)

theorem digests_ne (p q : Option Addr) (n m c1 c2 : Nat) (xs bs : List (List UInt8)) (hra : ∀ l ∈ xs, l.length = 32) (hrb : ∀ l ∈ bs, l.length = 32) (ha : xs.length = n) (hb : bs.length = m) (hn : n ≤ 1000000) (hnm : n ≠ m) : Meets Tryz.prog 130 [.slice p n c1, .slice q m c2] [] (fun W => SeesP W p (B5 xs) ∧ SeesP W q (B5 bs)) (fun v out => v = .bool (decide (xs = bs)) ∧ out = []) := by
 intro W hW
 refine An Tryz.func130 rfl 26 Tryz.ntmps130 rfl ?_
 refine Sat.seq (Sat.region ?_)
 refine Tr.a rfl rfl rfl ?_
 refine Tr.nil (Aa (Sat.seq (Sat.seq (Sat.region ?_))))
 refine Tr.m rfl rfl rfl ?_
 refine Tr.lenSl rfl rfl rfl Y51 ?_
 refine Tr.m rfl rfl rfl ?_
 refine Tr.lenSl rfl rfl rfl Y51 ?_
 refine Tr.nei rfl rfl rfl rfl (show (!decide _) = true from congrArg not (decide_eq_false oM)) ?_
 refine Tr.nil (Aa ?_)
 refine Sat.cond_t rfl (rfl) ?_
 refine Sat.seq (Sat.region ?_)
 refine Tr.a rfl rfl rfl ?_
 refine Tr.nil (Aa (Sat.ret (Ao (Am ?_))))
 refine ⟨_, [], Ae rfl rfl, sP, sP, ?_, rfl⟩
 rw [decide_eq_false (fun e => hnm (by rw [← ha, ← hb, e]))]

end Go.Proofs.YtdifpjmfabhpiaaGreat
end

section
namespace Hw
open Go

theorem Bc (l : List UInt8) : ∀ u ∈ Ab l, isCell u = true := fun u hu => by
  simp only [Ab, List.mem_map] at hu
  obtain ⟨_, _, rfl⟩ := hu
  rfl
def B3 (n : Nat) : Nat := if n = 0 then 0 else Nat.log2 n + 1
theorem bLen_le {n k : Nat} : B3 n ≤ k ↔ n < 2 ^ k := by
  unfold B3
  by_cases h : n = 0
  · subst h; simp; exact Nat.pow_pos dE
  · rw [if_neg h, Nat.succ_le_iff, Nat.log2_lt h]
theorem bLen_shr {n k : Nat} (h : 2 ^ k ≤ n) : B3 n = k + B3 (n / 2 ^ k) := by
  have key : ∀ j, B3 n ≤ k + j ↔ B3 (n / 2 ^ k) ≤ j := fun j => by
    rw [bLen_le, bLen_le, Nat.pow_add, Nat.div_lt_iff_lt_mul (Nat.pow_pos dE), Nat.mul_comm]
  have h1 := (key (B3 (n / 2 ^ k))).2 (Nat.le_refl _)
  have h2 : k < B3 n := by
    rcases Nat.lt_or_ge k (B3 n) with h | h
    · exact h
    · rw [ge_iff_le, bLen_le] at h; omega
  have h3 := (key (B3 n - k)).1 oM
  omega
def szN (n : Nat) : Nat := min ((B3 (n ||| 1) + 6) / 7) 9
theorem A8 (n : Nat) : 1 ≤ szN n ∧ szN n ≤ 9 := by
  have : 1 ≤ B3 (n ||| 1) := by
    rcases Nat.lt_or_ge 0 (B3 (n ||| 1)) with h | h
    · exact h
    · rw [ge_iff_le, bLen_le] at h
      have h1 : 1 ≤ n ||| 1 := Nat.right_le_or
      simp at h
  unfold szN
  omega
def tailB (x : UInt64) : Nat → List UInt8
  | 0 => []
  | k + 1 => (shr64 x (8 * k)).toUInt8 :: tailB x k
theorem tailB_length (x : UInt64) : ∀ k, (tailB x k).length = k
  | 0 => rfl
  | k + 1 => by simp [tailB, tailB_length x k]
theorem tailB_get (x : UInt64) : ∀ k j, j < k → (tailB x k)[j]? = some (shr64 x (8 * (k - 1 - j))).toUInt8
  | 0, j, h => by omega
  | k + 1, 0, h => by simp [tailB]
  | k + 1, j + 1, h => by
    rw [tailB, List.getElem?_cons_succ, tailB_get x k j oM]
    congr 4
    omega
def headB (x : UInt64) : UInt8 := shl8 255 (9 - szN x.toNat) ||| (shr64 x (8 * (szN x.toNat - 1))).toUInt8
def Au (x : UInt64) : List UInt8 := headB x :: tailB x (szN x.toNat - 1)
theorem Aq (x : UInt64) : (Au x).length = szN x.toNat := by
  have := A8 x.toNat
  simp [Au, tailB_length]; omega
def numUp (x : UInt64) (j : Nat) : List UInt8 := headB x :: (tailB x (szN x.toNat - 1)).take j
theorem numUp_length (x : UInt64) (j : Nat) (h : j ≤ szN x.toNat - 1) : (numUp x j).length = 1 + j := by
  simp [numUp, tailB_length]; omega
theorem numUp_step (x : UInt64) (j : Nat) (h : j < szN x.toNat - 1) : numUp x (j + 1) = numUp x j ++ [(shr64 x (8 * (szN x.toNat - 2 - j))).toUInt8] := by
  have hl : j < (tailB x (szN x.toNat - 1)).length := by rw [tailB_length]; exact h
  have hg := tailB_get x (szN x.toNat - 1) j h
  rw [List.getElem?_eq_getElem hl, Option.some.injEq] at hg
  rw [numUp, numUp, List.take_succ_eq_append_getElem hl, hg, show szN x.toNat - 1 - 1 - j = szN x.toNat - 2 - j by omega]
  rfl
theorem numUp_all (x : UInt64) : numUp x (szN x.toNat - 1) = Au x := by
  rw [numUp, List.take_of_length_le (by rw [tailB_length]; omega), Au]
theorem numUp_zero (x : UInt64) : numUp x 0 = [headB x] := by simp [numUp]
def cntB (f : UInt8) : Nat := 9 - B3 (255 ^^^ f).toNat
theorem b8_le (f : UInt8) : B3 (255 ^^^ f).toNat ≤ 8 := bLen_le.2 (255 ^^^ f).toNat_lt
def foldB (a : UInt64) : List UInt8 → UInt64
  | [] => a
  | b :: l => foldB (shl64 a 8 ||| b.toUInt64) l
theorem foldB_snoc (b : UInt8) : ∀ (l : List UInt8) (a : UInt64), foldB a (l ++ [b]) = shl64 (foldB a l) 8 ||| b.toUInt64
  | [], a => rfl
  | x :: l, a => by rw [List.cons_append, foldB, foldB_snoc b l, foldB]
def headV (f : UInt8) : UInt64 := (f &&& shr8 255 (cntB f)).toUInt64
def numV (xs : List UInt8) (a : Nat) : UInt64 := foldB (headV (xs.getD a 0)) ((xs.drop (a + 1)).take (cntB (xs.getD a 0) - 1))
theorem foldB_step (xs : List UInt8) (s a : Nat) (v : UInt64) (h : s + a < xs.length) : foldB v ((xs.drop s).take (a + 1)) = shl64 (foldB v ((xs.drop s).take a)) 8 ||| (xs.getD (s + a) 0).toUInt64 := by
  have hl : a < (xs.drop s).length := by simp; omega
  rw [List.take_succ_eq_append_getElem hl, foldB_snoc]
  congr 2
  simp [List.getD, List.getElem?_eq_getElem h]
theorem cnt_word (f : UInt8) : (Bi (8 - ((B3 (255 ^^^ f).toNat : Nat) : Int) + 1 - 1)).toNat = cntB f - 1 := by
  have := b8_le f
  rw [show (8 - ((B3 (255 ^^^ f).toNat : Nat) : Int) + 1 - 1) = ((8 - B3 (255 ^^^ f).toNat : Nat) : Int) by omega, cntB]
  simp only [Bi, UInt64.toNat_ofNat']
  omega
end Hw
end

section
namespace Go.Proofs.YtdifpjmfabhpiaaGreat
open Go Hw

def len8S : ByteArray := ⟨#[0, 1, 2, 2, 3, 3, 3, 3, 4, 4, 4, 4, 4, 4, 4, 4, 5, 5, 5, 5, 5, 5, 5, 5, 5, 5, 5, 5, 5, 5, 5, 5, 6, 6, 6, 6, 6, 6, 6, 6, 6, 6, 6, 6, 6, 6, 6, 6, 6, 6, 6, 6, 6, 6, 6, 6, 6, 6, 6, 6, 6, 6, 6, 6, 7, 7, 7, 7, 7, 7, 7, 7, 7, 7, 7, 7, 7, 7, 7, 7, 7, 7, 7, 7, 7, 7, 7, 7, 7, 7, 7, 7, 7, 7, 7, 7, 7, 7, 7, 7, 7, 7, 7, 7, 7, 7, 7, 7, 7, 7, 7, 7, 7, 7, 7, 7, 7, 7, 7, 7, 7, 7, 7, 7, 7, 7, 7, 7, 8, 8, 8, 8, 8, 8, 8, 8, 8, 8, 8, 8, 8, 8, 8, 8, 8, 8, 8, 8, 8, 8, 8, 8, 8, 8, 8, 8, 8, 8, 8, 8, 8, 8, 8, 8, 8, 8, 8, 8, 8, 8, 8, 8, 8, 8, 8, 8, 8, 8, 8, 8, 8, 8, 8, 8, 8, 8, 8, 8, 8, 8, 8, 8, 8, 8, 8, 8, 8, 8, 8, 8, 8, 8, 8, 8, 8, 8, 8, 8, 8, 8, 8, 8, 8, 8, 8, 8, 8, 8, 8, 8, 8, 8, 8, 8, 8, 8, 8, 8, 8, 8, 8, 8, 8, 8, 8, 8, 8, 8, 8, 8, 8, 8, 8, 8, 8, 8, 8, 8, 8, 8, 8, 8, 8, 8, 8, 8]⟩
theorem len8_all : ∀ n, n < 256 → len8S.data.toList[n]? = some (UInt8.ofNat (B3 n)) := by decide
theorem len8_get (x : UInt8) : len8S[x.toNat]? = some (UInt8.ofNat (B3 x.toNat)) := by
  have h := len8_all x.toNat x.toNat_lt
  have h2 : x.toNat < len8S.size := x.toNat_lt
  have e : len8S[x.toNat]? = len8S.data.toList[x.toNat]? := by
    rw [getElem?_pos len8S x.toNat h2, List.getElem?_eq_getElem (by exact x.toNat_lt)]
    rfl
  rw [e]; exact h
theorem len8_nat (x : UInt8) : (UInt8.ofNat (B3 x.toNat)).toNat = B3 x.toNat := by
  have : B3 x.toNat ≤ 8 := bLen_le.2 x.toNat_lt
  rw [UInt8.toNat_ofNat', Nat.mod_eq_of_lt oM]

theorem bits_len8 (x : UInt8) : Meets Tryz.prog 232 [u8 x] [] (fun _ => True) (fun v out => v = i64 ((B3 x.toNat : Nat) : Int) ∧ out = []) := by
 intro W hW
 refine An Tryz.func232 rfl 6 Tryz.ntmps232 rfl ?_
 refine Sat.seq (Sat.region ?_)
 refine Tr.a rfl rfl rfl ?_
 refine Tr.nil (Aa (Sat.seq (Sat.region ?_)))
 refine Tr.m rfl rfl rfl ?_
 refine Tr.idxStr (s := len8S) rfl rfl rfl rfl Y9 _ rfl (len8_get x) ?_
 refine Tr.conv rfl rfl rfl Y5 Y3 (cv_u8_i64 _) ?_
 refine Tr.a rfl rfl rfl ?_
 refine Tr.nil (Aa (Sat.ret (Am ?_)))
 refine ⟨_, [], Ae rfl rfl, sP, sP, ?_, rfl⟩
 rw [len8_nat]

theorem bits_lz8 (x : UInt8) : Meets Tryz.prog 189 [u8 x] [] (fun _ => True) (fun v out => v = i64 (8 - ((B3 x.toNat : Nat) : Int)) ∧ out = []) := by
 intro W hW
 have hb : B3 x.toNat ≤ 8 := bLen_le.2 x.toNat_lt
 refine An Tryz.func189 rfl 6 Tryz.ntmps189 rfl ?_
 refine Sat.seq (Sat.region ?_)
 refine Tr.a rfl rfl rfl ?_
 refine Tr.nil (Aa (Sat.seq (Sat.region ?_)))
 refine Tr.m rfl rfl rfl ?_
 refine Tr.cV rfl rfl rfl rfl Body232 (bits_len8 _) tV ?_
 refine Tr.sub_i64 rfl rfl rfl rfl oM ?_
 refine Tr.a rfl rfl rfl ?_
 refine Tr.nil (Aa (Sat.ret (Am ?_)))
 refine ⟨_, [], Ae rfl rfl, sP, sP, ?_, rfl⟩
 rfl

theorem shr64_nat (x : UInt64) (n : Nat) : (shr64 x n).toNat = x.toNat / 2 ^ n := by
  have h : x.toNat / 2 ^ n ≤ x.toNat := Nat.div_le_self _ _
  have := x.toNat_lt
  rw [shr64, UInt64.toNat_ofNat', Nat.mod_eq_of_lt oM]

theorem bits_len64 (x : UInt64) : Meets Tryz.prog 233 [u64 x] [] (fun _ => True) (fun v out => v = i64 ((B3 x.toNat : Nat) : Int) ∧ out = []) := by
 intro W hW
 have hx := x.toNat_lt
 refine An Tryz.func233 rfl 25 Tryz.ntmps233 rfl ?_
 refine Sat.seq (Sat.region ?_)
 refine Tr.a rfl rfl rfl ?_
 refine Tr.nil (Aa ?_)
 refine Sat.join (ι := UInt64 × Nat) (fun p => ⟨[(0, u64 p.1), (2, i64 (p.2 : Int))], []⟩) (fun p => B3 x.toNat = p.2 + B3 p.1.toNat ∧ p.1.toNat < 2 ^ 32 ∧ p.2 ≤ 32) ?_ ?_
 ·
  refine Sat.seq (Sat.region ?_)
  refine Tr.m rfl rfl rfl ?_
  refine Tr.geq rfl rfl rfl rfl rfl ?_
  refine Tr.nil (Aa ?_)
  refine Sat.condP rfl (fun hc0 => ?_) (fun hc0 => ?_)
  ·
   refine Sat.seq (Sat.region ?_)
   refine Tr.m rfl rfl rfl ?_
   refine Tr.shr_u64 rfl rfl rfl rfl 32 rfl dE ?_
   refine Tr.a rfl rfl rfl ?_
   refine Tr.nil (Aa (Sat.region ?_))
   refine Tr.a rfl rfl rfl ?_
   refine Tr.nil (Aa ?_)
   exact ⟨(shr64 x 32, 0 + 32), ⟨by simp only [shr64_nat]; have := bLen_shr (n := x.toNat) (k := 32) oM; omega, by simp only [shr64_nat]; omega, by simp only []; omega⟩, Ar (wk1 rfl (wk1 (by rfl) wk0)) wh0 nD⟩
  ·
   refine Sat.skip (Aa ?_)
   exact ⟨(x, 0), ⟨by simp only []; omega, by simp only []; omega, by simp only []; omega⟩, Ar (wk1 rfl (wk1 (by rfl) wk0)) wh0 nD⟩
 ·
  intro p hj
  obtain ⟨y, n⟩ := p
  obtain ⟨hb, hy, hn⟩ := hj
  simp only at hb hy hn ⊢
  refine Sat.join (ι := UInt64 × Nat) (fun p => ⟨[(0, u64 p.1), (2, i64 (p.2 : Int))], []⟩) (fun p => B3 x.toNat = p.2 + B3 p.1.toNat ∧ p.1.toNat < 2 ^ 16 ∧ p.2 ≤ 48) ?_ ?_
  ·
   refine Sat.seq (Sat.region ?_)
   refine Tr.m rfl rfl rfl ?_
   refine Tr.geq rfl rfl rfl rfl rfl ?_
   refine Tr.nil (Aa ?_)
   refine Sat.condP rfl (fun hc1 => ?_) (fun hc1 => ?_)
   ·
    refine Sat.seq (Sat.region ?_)
    refine Tr.m rfl rfl rfl ?_
    refine Tr.shr_u64 rfl rfl rfl rfl 16 rfl dE ?_
    refine Tr.a rfl rfl rfl ?_
    refine Tr.nil (Aa (Sat.region ?_))
    refine Tr.m rfl rfl rfl ?_
    refine Tr.aI rfl rfl rfl rfl oM ?_
    refine Tr.a rfl rfl rfl ?_
    refine Tr.nil (Aa ?_)
    exact ⟨(shr64 y 16, n + 16), ⟨by simp only [shr64_nat]; have := bLen_shr (n := y.toNat) (k := 16) oM; omega, by simp only [shr64_nat]; omega, by simp only []; omega⟩, Ar (wk1 rfl (wk1 (by rfl) wk0)) wh0 nD⟩
   ·
    refine Sat.skip (Aa ?_)
    exact ⟨(y, n), ⟨by simp only []; omega, by simp only []; omega, by simp only []; omega⟩, Ar (wk1 rfl (wk1 (by rfl) wk0)) wh0 nD⟩
  ·
   intro p hj
   obtain ⟨y, n⟩ := p
   obtain ⟨hb, hy, hn⟩ := hj
   simp only at hb hy hn ⊢
   refine Sat.join (ι := UInt64 × Nat) (fun p => ⟨[(0, u64 p.1), (2, i64 (p.2 : Int))], []⟩) (fun p => B3 x.toNat = p.2 + B3 p.1.toNat ∧ p.1.toNat < 2 ^ 8 ∧ p.2 ≤ 56) ?_ ?_
   ·
    refine Sat.seq (Sat.region ?_)
    refine Tr.m rfl rfl rfl ?_
    refine Tr.geq rfl rfl rfl rfl rfl ?_
    refine Tr.nil (Aa ?_)
    refine Sat.condP rfl (fun hc2 => ?_) (fun hc2 => ?_)
    ·
     refine Sat.seq (Sat.region ?_)
     refine Tr.m rfl rfl rfl ?_
     refine Tr.shr_u64 rfl rfl rfl rfl 8 rfl dE ?_
     refine Tr.a rfl rfl rfl ?_
     refine Tr.nil (Aa (Sat.region ?_))
     refine Tr.m rfl rfl rfl ?_
     refine Tr.aI rfl rfl rfl rfl oM ?_
     refine Tr.a rfl rfl rfl ?_
     refine Tr.nil (Aa ?_)
     exact ⟨(shr64 y 8, n + 8), ⟨by simp only [shr64_nat]; have := bLen_shr (n := y.toNat) (k := 8) oM; omega, by simp only [shr64_nat]; omega, by simp only []; omega⟩, Ar (wk1 rfl (wk1 (by rfl) wk0)) wh0 nD⟩
    ·
     refine Sat.skip (Aa ?_)
     exact ⟨(y, n), ⟨by simp only []; omega, by simp only []; omega, by simp only []; omega⟩, Ar (wk1 rfl (wk1 (by rfl) wk0)) wh0 nD⟩
   ·
    intro p hj
    obtain ⟨y, n⟩ := p
    obtain ⟨hb, hy, hn⟩ := hj
    simp only at hb hy hn ⊢
    refine Sat.seq (Sat.region ?_)
    refine Tr.m rfl rfl rfl ?_
    refine Tr.m rfl rfl rfl ?_
    refine Tr.conv rfl rfl rfl Y48 Y5 (cv_u64_u8 _) ?_
    refine Tr.idxStr (s := len8S) rfl rfl rfl rfl Y9 _ rfl (len8_get y.toUInt8) ?_
    have h8 : y.toUInt8.toNat = y.toNat := by simp; omega
    have h9 := len8_nat y.toUInt8
    have h10 : B3 y.toUInt8.toNat ≤ 8 := bLen_le.2 (by rw [h8]; omega)
    refine Tr.conv rfl rfl rfl Y5 Y3 (cv_u8_i64 _) ?_
    refine Tr.aI rfl rfl rfl rfl oM ?_
    refine Tr.a rfl rfl rfl ?_
    refine Tr.nil (Aa (Sat.ret (Am ?_)))
    refine ⟨_, [], Ae rfl rfl, sP, sP, ?_, rfl⟩
    rw [h9, h8, hb, Int.natCast_add]

theorem oct_size (x : UInt64) : Meets Tryz.prog 191 [u64 x] [] (fun _ => True) (fun v out => v = i64 ((szN x.toNat : Nat) : Int) ∧ out = []) := by
 intro W hW
 have hb : B3 (x ||| 1).toNat ≤ 64 := bLen_le.2 (x ||| 1).toNat_lt
 have ho : (x ||| 1).toNat = x.toNat ||| 1 := by rw [UInt64.toNat_or]; rfl
 refine An Tryz.func191 rfl 9 Tryz.ntmps191 rfl ?_
 refine Sat.seq (Sat.region ?_)
 refine Tr.a rfl rfl rfl ?_
 refine Tr.nil (Aa (Sat.seq (Sat.region ?_)))
 refine Tr.m rfl rfl rfl ?_
 refine Tr.or_u64 rfl rfl rfl (show Aj _ _ = some (u64 1) from rfl) ?_
 refine Tr.cV rfl rfl rfl rfl Body233 (bits_len64 _) tV ?_
 refine Tr.aI rfl rfl rfl rfl oM ?_
 refine Tr.quo_i64 rfl rfl rfl rfl oM ?_
 refine Tr.min2 rfl rfl rfl rfl (rfl) ?_
 refine Tr.a rfl rfl rfl ?_
 refine Tr.nil (Aa (Sat.ret (Am ?_)))
 refine ⟨_, [], Ae rfl rfl, sP, sP, ?_, rfl⟩
 rw [szN, ← ho]; congr 1; split <;> omega

theorem oct_grown (p : Option Addr) (n c m : Nat) (l : List UInt8) (hl : l.length = n) (hp : p = none → n = 0) (hn : n ≤ 100000) (hm : m ≤ 100000) : Meets Tryz.prog 186 [.slice p n c, i64 (m : Int)] [] (fun W => SeesP W p (Ab l)) (fun v out => FreshRow v out (Ab l) 5 n 1) := by
 intro W hW
 refine An Tryz.func186 rfl 12 Tryz.ntmps186 rfl ?_
 refine Sat.seq (Sat.region ?_)
 refine Tr.a rfl rfl rfl ?_
 refine Tr.nil (Aa (Sat.seq (Sat.region ?_)))
 refine Tr.m rfl rfl rfl ?_
 refine Tr.lenSl rfl rfl rfl Y58 ?_
 refine Tr.m rfl rfl rfl ?_
 refine Tr.aI rfl rfl rfl rfl oM ?_
 refine Tr.mkRoom (z := u8 0) (by' := 1) (n + m) rfl rfl rfl rfl oM Y58 Sz5 Zr5 (by unfold By; kernel_rfl) rfl oM oM ?_
 intro n9
 refine Tr.m rfl rfl rfl ?_
 refine Tr.appendSl (z := u8 0) (by' := 1) (Ab l) rfl rfl rfl rfl rfl Y58 Y58 Sz5 Zr5 (by unfold By; kernel_rfl) rfl (fun w h => Aw h rfl hW) hp (by simp [Ab, isCell, u8]) Ay oM rfl oM oM oM (by simp [Ab, hl]) ?_
 intro q1 c1 hq1
 refine Tr.a rfl rfl rfl ?_
 refine Tr.nil (Aa (Sat.ret (Am ?_)))
 refine ⟨_, [⟨q1, [] ++ Ab l, 5, c1 * 1⟩], Ae rfl rfl, (by intro b hb; rw [List.mem_singleton.1 hb]; exact mem0), Bz, ⟨q1, c1, by rw [Nat.zero_add], by omega, rfl⟩⟩

theorem oct_number (q n c : Nat) (l : List UInt8) (x : UInt64) (hl : l.length = n) (hnc : n ≤ c) (hn : n ≤ 200000) : Meets Tryz.prog 198 [.slice (some ⟨q, 0, none⟩) n c, u64 x] [q] (fun W => BlkOk W ⟨q, Ab (l), 5, c * 1⟩) (fun v out => FreshRow v out (Ab (l ++ Au x)) 5 (n + szN x.toNat) 1) := by
 intro W hW
 have hz := A8 x.toNat
 refine A7 (hp0 := [⟨q, Ab (l), 5, c * 1⟩]) Tryz.func198 rfl 37 Tryz.ntmps198 rfl (HRep.one hW) ?_
 refine Sat.seq (Sat.region ?_)
 refine Tr.a rfl rfl rfl ?_
 refine Tr.nil (Aa (Sat.seq (Sat.region ?_)))
 refine Tr.m rfl rfl rfl ?_
 refine Tr.cV rfl rfl rfl rfl Body191 (oct_size _) tV ?_
 refine Tr.a rfl rfl rfl ?_
 refine Tr.nil (Aa (Sat.seq ?_))
 refine Sat.draw [(0, 0), (0, 1), (0, 2), (0, 3), (0, 4), (0, 5), (0, 6), (0, 7), (0, 8), (0, 9), (0, 10), (4, 11), (4, 12), (0, 13)] Bv zK ?_
 refine Tr.m rfl rfl rfl ?_
 refine Tr.m rfl rfl rfl ?_
 refine Tr.sub_i64 rfl rfl rfl rfl oM ?_
 refine Tr.shl_u8 rfl rfl (show Aj _ _ = some (u8 255) from rfl) rfl (9 - szN x.toNat) oM oM ?_
 refine Tr.m rfl rfl rfl ?_
 refine Tr.m rfl rfl rfl ?_
 refine Tr.sub_i64 rfl rfl rfl rfl oM ?_
 refine Tr.mul_i64 rfl rfl rfl rfl oM ?_
 refine Tr.shr_u64 rfl rfl rfl rfl (8 * (szN x.toNat - 1)) oM oM ?_
 refine Tr.conv rfl rfl rfl Y48 Y5 (cv_u64_u8 _) ?_
 refine Tr.or_u8 rfl rfl rfl rfl ?_
 refine Tr.mkRow (z := u8 0) [u8 (headB x)] (Ab [headB x]) rfl rfl rfl Y58 Sz5 Zr5 rfl rfl (by intro v hv; rw [List.mem_singleton.1 hv]; rfl) dE rfl ?_
 intro q20
 refine Tr.appendSl (z := u8 0) (by' := 1) (Ab [headB x]) rfl rfl rfl rfl rfl Y58 Y58 Sz5 Zr5 (by unfold By; kernel_rfl) rfl (fun w h => SeesP.of (Ap h mem0)) (fun e => by cases e) (by simp [Ab, isCell, u8]) (rem_there Ay) rfl (by simp [Ab, hl]) oM oM oM (by rfl) ?_
 intro q1 c1 hq1
 refine Tr.a rfl rfl rfl ?_
 refine Tr.nil (Aa (Sat.seq (Sat.seq (Sat.region ?_))))
 refine Tr.m rfl rfl rfl ?_
 refine Tr.sub_i64 rfl rfl rfl rfl oM ?_
 refine Tr.a rfl rfl rfl ?_
 refine Tr.nil (Aa (Sat.block ?_))
 refine Sat.loop (ι := Nat × Nat × Nat) (fun p => ⟨[(0, .slice (some ⟨p.2.1, 0, none⟩) (n + 1 + p.1) p.2.2), (1, u64 x), (5, i64 ((szN x.toNat : Nat) : Int)), (6, i64 (((szN x.toNat : Nat) : Int) - 2 - (p.1 : Int)))], [⟨p.2.1, Ab (l ++ numUp x p.1), 5, p.2.2 * 1⟩]⟩) (fun p => p.1 ≤ szN x.toNat - 1 ∧ n + 1 + p.1 ≤ p.2.2) (fun p => szN x.toNat - 1 - p.1) ((0, q1, c1)) ?_ ?_ ?_
 · exact ⟨Nat.zero_le _, hq1⟩
 · exact Ar (wk1 rfl (wk1 rfl (wk1 rfl (wk1 (by rw [show (((szN x.toNat : Nat) : Int) - 2 - ((0 : Nat) : Int)) = ((szN x.toNat : Nat) : Int) - 2 by omega]; rfl) wk0)))) (wh1 (by rw [numUp_zero]; simp only [Ab, List.map_append]; exact mem0) wh0) nD
 ·
  rintro p ⟨hp1, hp2⟩
  refine Sat.seq (Sat.seq (Sat.region ?_))
  refine Tr.m rfl rfl rfl ?_
  refine Tr.geq rfl rfl rfl rfl rfl ?_
  refine Tr.nil (Aa ?_)
  refine Sat.condP rfl (fun hc0 => ?_) (fun hc0 => ?_)
  ·
   have hp3 : p.1 < szN x.toNat - 1 := by omega
   refine Sat.skip (Aa (Sat.seq (Sat.block (Sat.region ?_))))
   refine Tr.m rfl rfl rfl ?_
   refine Tr.m rfl rfl rfl ?_
   refine Tr.m rfl rfl rfl ?_
   refine Tr.mul_i64 rfl rfl rfl rfl oM ?_
   refine Tr.shr_u64 rfl rfl rfl rfl (8 * (szN x.toNat - 2 - p.1)) oM oM ?_
   refine Tr.conv rfl rfl rfl Y48 Y5 (cv_u64_u8 _) ?_
   refine Tr.mkRow (z := u8 0) [u8 ((shr64 x (8 * (szN x.toNat - 2 - p.1))).toUInt8)] (Ab [(shr64 x (8 * (szN x.toNat - 2 - p.1))).toUInt8]) rfl rfl rfl Y58 Sz5 Zr5 rfl rfl (by intro v hv; rw [List.mem_singleton.1 hv]; rfl) dE rfl ?_
   intro q34
   refine Tr.appendSl (z := u8 0) (by' := 1) (Ab [(shr64 x (8 * (szN x.toNat - 2 - p.1))).toUInt8]) rfl rfl rfl rfl rfl Y58 Y58 Sz5 Zr5 (by unfold By; kernel_rfl) rfl (fun w h => SeesP.of (Ap h mem0)) (fun e => by cases e) (by simp [Ab, isCell, u8]) (rem_there Ay) rfl (by rw [Ab, List.length_map, List.length_append, hl, numUp_length x p.1 oM]; omega) oM oM oM (by rfl) ?_
   intro q2 c2 hq2
   refine Tr.a rfl rfl rfl ?_
   refine Tr.nil (B2 (Aa (Sat.region ?_)))
   refine Tr.m rfl rfl rfl ?_
   refine Tr.sub_i64 rfl rfl rfl rfl oM ?_
   refine Tr.a rfl rfl rfl ?_
   refine Tr.nil (Aa ?_)
   exact ⟨(p.1 + 1, q2, c2), ⟨by simp only []; omega, by simp only []; omega⟩, by simp only []; omega, Ar (wk1 (by rw [show n + 1 + (p.1 + 1) = n + 1 + p.1 + 1 by omega]; rfl) (wk1 rfl (wk1 rfl (wk1 (by rw [show (((szN x.toNat : Nat) : Int) - 2 - ((p.1 + 1 : Nat) : Int)) = ((szN x.toNat : Nat) : Int) - 2 - (p.1 : Int) - 1 by omega]; rfl) wk0)))) (wh1 (by rw [numUp_step x p.1 oM, ← List.append_assoc]; simp only [Ab, List.map_append]; exact mem0) wh0) nD⟩
  ·
   have hp3 : p.1 = szN x.toNat - 1 := by omega
   refine Sat.exit (Bf (Bf (bl_h (Aa (Sat.seq (Sat.region ?_))))))
   refine Tr.m rfl rfl rfl ?_
   refine Tr.a rfl rfl rfl ?_
   refine Tr.nil (Aa (Sat.ret (Am ?_)))
   refine ⟨_, [⟨p.2.1, Ab (l ++ Au x), 5, p.2.2 * 1⟩], Ae rfl rfl, (by intro b hb; rw [List.mem_singleton.1 hb, ← numUp_all, ← hp3]; exact mem0), Bz, ⟨p.2.1, p.2.2, by rw [show n + 1 + p.1 = n + szN x.toNat by omega], by omega, rfl⟩⟩

theorem oct_Number (p : Option Addr) (n c : Nat) (l : List UInt8) (x : UInt64) (hl : l.length = n) (hp : p = none → n = 0) (hn : n ≤ 90000) : Meets Tryz.prog 106 [.slice p n c, u64 x] [] (fun W => SeesP W p (Ab l)) (fun v out => FreshRow v out (Ab (l ++ Au x)) 5 (n + szN x.toNat) 1) := by
 intro W hW
 have hz := A8 x.toNat
 refine An Tryz.func106 rfl 11 Tryz.ntmps106 rfl ?_
 refine Sat.seq (Sat.region ?_)
 refine Tr.a rfl rfl rfl ?_
 refine Tr.nil (Aa (Sat.seq (Sat.region ?_)))
 refine Tr.m rfl rfl rfl ?_
 refine Tr.m rfl rfl rfl ?_
 refine Tr.cV rfl rfl rfl rfl Body191 (oct_size _) tV ?_
 refine Tr.call rfl rfl rfl rfl Body186 (oct_grown p n c (szN x.toNat) l hl hp oM oM) (FreshRow.loose _ _ _ _) (fun w h => Aw h rfl hW) ?_
 rintro v1 out1 ⟨q1, c1, rfl, hc1, rfl⟩
 refine Tr.m rfl rfl rfl ?_
 refine Tr.callL (L := [⟨q1, Ab (l), 5, c1 * 1⟩]) rfl rfl rfl rfl rfl Body198 (oct_number q1 (n) c1 (l) x (by simp [hl]) hc1 oM) Ay lO (fun w h => Ai h Z0) ?_
 rintro v2 out2 ⟨q2, c2, rfl, hc2, rfl⟩
 refine Tr.a rfl rfl rfl ?_
 refine Tr.nil (Aa (Sat.ret (Am ?_)))
 refine ⟨_, [⟨q2, Ab (l ++ Au x), 5, c2 * 1⟩], Ae rfl rfl, (by intro b hb; rw [List.mem_singleton.1 hb]; exact mem0), Bz, ⟨q2, c2, rfl, hc2, rfl⟩⟩

theorem oct_Block (p r : Option Addr) (n c m d : Nat) (l ys : List UInt8) (hl : l.length = n) (hy : ys.length = m) (hp : p = none → n = 0) (hr : r = none → m = 0) (hn : n ≤ 40000) (hm : m ≤ 40000) : Meets Tryz.prog 121 [.slice p n c, .slice r m d] [] (fun W => SeesP W p (Ab l) ∧ SeesP W r (Ab ys)) (fun v out => FreshRow v out (Ab (l ++ Au (UInt64.ofNat m) ++ ys)) 5 (n + szN m + m) 1) := by
 intro W hW
 have hz := A8 m
 have hw : Bi (m : Int) = UInt64.ofNat m := by simp only [Bi]; congr 1; omega
 have hmn : (UInt64.ofNat m).toNat = m := by rw [UInt64.toNat_ofNat', Nat.mod_eq_of_lt oM]
 refine An Tryz.func121 rfl 20 Tryz.ntmps121 rfl ?_
 refine Sat.seq (Sat.region ?_)
 refine Tr.a rfl rfl rfl ?_
 refine Tr.nil (Aa (Sat.seq (Sat.region ?_)))
 refine Tr.m rfl rfl rfl ?_
 refine Tr.lenSl rfl rfl rfl Y58 ?_
 refine Tr.conv rfl rfl rfl Y3 Y48 (Bh _) ?_
 rw [hw]
 refine Tr.a rfl rfl rfl ?_
 refine Tr.nil (Aa (Sat.seq (Sat.region ?_)))
 refine Tr.m rfl rfl rfl ?_
 refine Tr.m rfl rfl rfl ?_
 refine Tr.cV rfl rfl rfl rfl Body191 (oct_size _) tV ?_
 rw [hmn]
 refine Tr.m rfl rfl rfl ?_
 refine Tr.lenSl rfl rfl rfl Y58 ?_
 refine Tr.aI rfl rfl rfl rfl oM ?_
 refine Tr.call rfl rfl rfl rfl Body186 (oct_grown p n c (szN m + m) l hl hp oM oM) (FreshRow.loose _ _ _ _) (fun w h => Aw h rfl hW.1) ?_
 rintro v1 out1 ⟨q1, c1, rfl, hc1, rfl⟩
 refine Tr.m rfl rfl rfl ?_
 refine Tr.callL (L := [⟨q1, Ab (l), 5, c1 * 1⟩]) rfl rfl rfl rfl rfl Body198 (oct_number q1 n c1 l (UInt64.ofNat m) hl hc1 oM) Ay lO (fun w h => Ai h Z0) ?_
 rintro v2 out2 ⟨q2, c2, rfl, hc2, rfl⟩
 rw [hmn] at hc2 ⊢
 refine Tr.m rfl rfl rfl ?_
 refine Tr.appendSl (z := u8 0) (by' := 1) (Ab ys) rfl rfl rfl rfl rfl Y58 Y58 Sz5 Zr5 (by unfold By; kernel_rfl) rfl (fun w h => Aw h rfl hW.2) hr (by simp [Ab, isCell, u8]) Ay rfl (by rw [Ab, List.length_map, List.length_append, Aq, hl, hmn, Nat.mul_one]) oM oM oM (by simp [Ab, hy]) ?_
 intro q3 c3 hq3
 refine Tr.a rfl rfl rfl ?_
 refine Tr.nil (Aa (Sat.ret (Am ?_)))
 refine ⟨_, [⟨q3, Ab (l ++ Au (UInt64.ofNat m) ++ ys), 5, c3 * 1⟩], Ae rfl rfl, (by intro b hb; rw [List.mem_singleton.1 hb]; simp only [Ab, List.map_append]; exact mem0), Bz, ⟨q3, c3, rfl, hq3, rfl⟩⟩

end Go.Proofs.YtdifpjmfabhpiaaGreat
end

section
namespace Go.Proofs.YtdifpjmfabhpiaaGreat
open Go Hw

theorem res_none {C : Cx} {fn : Func} {s : St} (hr : fn.results = #[]) : Res C fn s (.tuple #[]) := fun a w r => by
  simp [results, hr]
def rdr (n q N cp at' : Nat) (e : Int) : Reader := ⟨.pointer (some ⟨n, 0, none⟩), ⟨some ⟨q, 0, none⟩, N, cp⟩, (at' : Int), e⟩
theorem rdr_ok (n q N cp at' : Nat) (e : Int) : (rdr n q N cp at' e).ok := ⟨rfl⟩
def RB (n q N cp at' : Nat) (e : Int) : Blk := ⟨n, (rdr n q N cp at' e).cells, 219, 4⟩
theorem rdr_at (n q N cp a k : Nat) (e : Int) : rdr n q N cp (a + k) e = ⟨.pointer (some ⟨n, 0, none⟩), ⟨some ⟨q, 0, none⟩, N, cp⟩, (a : Int) + (k : Int), e⟩ := by simp [rdr]
theorem rb_self {w : World} {n q N cp at' : Nat} {e : Int} (h : BlkOk w (RB n q N cp at' e)) : w.cell? ⟨n, 0, none⟩ = some (ptr n 0) := BlkOk.cell0 h rfl

theorem rd_made (n : Nat) : Meets Tryz.prog 206 [ptr n 0] [] (fun W => W.cell? ⟨n, 0, none⟩ = some (ptr n 0)) (fun v out => v = .bool true ∧ out = []) := by
 intro W hW
 refine An Tryz.func206 rfl 13 Tryz.ntmps206 rfl ?_
 refine Sat.seq (Sat.region ?_)
 refine Tr.a rfl rfl rfl ?_
 refine Tr.nil (Aa (Sat.seq (Sat.region ?_)))
 refine Tr.m rfl rfl rfl ?_
 refine Tr.neqNilP rfl rfl rfl rfl Y129 ?_
 refine Tr.m rfl rfl rfl ?_
 refine Tr.m rfl rfl rfl ?_
 refine Tr.nC rfl rfl rfl ?_
 refine Tr.fld rfl rfl rfl Tryz.underlying219 rfl Sz129 dE _ rfl ?_
 refine Tr.loadE rfl rfl rfl Y129 rfl sP (hW) ?_
 refine Tr.m rfl rfl rfl ?_
 refine Tr.eqSameP rfl rfl rfl rfl Y129 Sz219 ?_
 refine Tr.pick rfl rfl rfl rfl rfl rfl ?_
 refine Tr.a rfl rfl rfl ?_
 refine Tr.nil (Aa (Sat.ret (Am ?_)))
 refine ⟨_, [], Ae rfl rfl, sP, sP, ?_, rfl⟩
 rfl

theorem rd_take_err (n q N cp at' : Nat) (e : Int) (k : UInt64) (hat : at' ≤ N) (hN : N ≤ cp) (hbig : N ≤ 1000000) (he : ¬ e = 0) : Meets Tryz.prog 187 [ptr n 0, u64 k] [n] (fun W => BlkOk W (RB n q N cp (at') (e))) (fun v out => v = .tuple #[.slice none 0 0, .bool false] ∧ out = [RB n q N cp (at') (e)]) := by
 intro W hW
 have hfB : (rdr n q N cp at' (e)).fB.n = N := rfl
 have hfA : (rdr n q N cp at' (e)).fAt = (at' : Int) := rfl
 have hfE : (rdr n q N cp at' (e)).fErr = (e) := rfl
 have hwd : (Bi (((rdr n q N cp at' (e)).fB.n : Int) - (rdr n q N cp at' (e)).fAt)).toNat = N - at' := by
  rw [hfB, hfA, show ((N : Int) - (at' : Int)) = ((N - at' : Nat) : Int) by omega]; simp only [Bi, UInt64.toNat_ofNat']; omega
 refine A7 (hp0 := [RB n q N cp (at') (e)]) Tryz.func187 rfl 56 Tryz.ntmps187 rfl (HRep.one hW) ?_
 refine Sat.seq (Sat.region ?_)
 refine Tr.a rfl rfl rfl ?_
 refine Tr.a rfl rfl rfl ?_
 refine Tr.nil (Aa (Sat.seq (Sat.seq (Sat.region ?_))))
 refine Tr.m rfl rfl rfl ?_
 refine Tr.cV rfl rfl rfl rfl Body206 (rd_made n) (fun w h => rb_self (Ai h Z0)) ?_
 refine Tr.not rfl rfl rfl ?_
 refine Tr.m rfl rfl rfl ?_
 refine Tr.m rfl rfl rfl ?_
 refine Tr.nC rfl rfl rfl ?_
 refine Tr.fld rfl rfl rfl Tryz.underlying219 rfl Sz32 dE _ rfl ?_
 refine Tr.load1 rfl rfl rfl Y32 rfl Z0 (by exact Reader.get_fErr (by exact rdr_ok _ _ _ _ _ _)) ?_
 refine Tr.nei rfl rfl rfl rfl (show (!decide _) = true from congrArg not (decide_eq_false (he))) ?_
 refine Tr.pick rfl rfl rfl rfl rfl rfl ?_
 refine Tr.nil (Aa ?_)
 refine Sat.cond_t rfl (rfl) ?_
 refine Sat.seq (Sat.region ?_)
 refine Tr.a rfl rfl rfl ?_
 refine Tr.a rfl rfl rfl ?_
 refine Tr.nil (Aa (Sat.ret (Ao (Am ?_))))
 refine ⟨_, [RB n q N cp (at') (e)], Ba rfl rfl rfl, (by intro b hb; rw [List.mem_singleton.1 hb]; exact mem0), Bz, ?_⟩
 exact ⟨rfl, rfl⟩

theorem rd_take_more (n q N cp at' : Nat) (k : UInt64) (hat : at' ≤ N) (hN : N ≤ cp) (hbig : N ≤ 1000000) (hk : N < at' + k.toNat) : Meets Tryz.prog 187 [ptr n 0, u64 k] [n] (fun W => BlkOk W (RB n q N cp (at') (0))) (fun v out => v = .tuple #[.slice none 0 0, .bool false] ∧ out = [RB n q N cp (at') (5)]) := by
 intro W hW
 have hfB : (rdr n q N cp at' (0)).fB.n = N := rfl
 have hfA : (rdr n q N cp at' (0)).fAt = (at' : Int) := rfl
 have hfE : (rdr n q N cp at' (0)).fErr = (0) := rfl
 have hwd : (Bi (((rdr n q N cp at' (0)).fB.n : Int) - (rdr n q N cp at' (0)).fAt)).toNat = N - at' := by
  rw [hfB, hfA, show ((N : Int) - (at' : Int)) = ((N - at' : Nat) : Int) by omega]; simp only [Bi, UInt64.toNat_ofNat']; omega
 refine A7 (hp0 := [RB n q N cp (at') (0)]) Tryz.func187 rfl 56 Tryz.ntmps187 rfl (HRep.one hW) ?_
 refine Sat.seq (Sat.region ?_)
 refine Tr.a rfl rfl rfl ?_
 refine Tr.a rfl rfl rfl ?_
 refine Tr.nil (Aa (Sat.seq (Sat.seq (Sat.region ?_))))
 refine Tr.m rfl rfl rfl ?_
 refine Tr.cV rfl rfl rfl rfl Body206 (rd_made n) (fun w h => rb_self (Ai h Z0)) ?_
 refine Tr.not rfl rfl rfl ?_
 refine Tr.m rfl rfl rfl ?_
 refine Tr.m rfl rfl rfl ?_
 refine Tr.nC rfl rfl rfl ?_
 refine Tr.fld rfl rfl rfl Tryz.underlying219 rfl Sz32 dE _ rfl ?_
 refine Tr.load1 rfl rfl rfl Y32 rfl Z0 (by exact Reader.get_fErr (by exact rdr_ok _ _ _ _ _ _)) ?_
 refine Tr.nei rfl rfl rfl rfl (show (!decide _) = false from congrArg not (decide_eq_true (rfl))) ?_
 refine Tr.pick rfl rfl rfl rfl rfl rfl ?_
 refine Tr.nil (Aa ?_)
 refine Sat.cond_f rfl (rfl) ?_
 refine Sat.skip (Aa (Sat.seq (Sat.seq ?_)))
 refine Sat.draw [(0, 0), (0, 1), (0, 2), (0, 3), (1, 4), (0, 5), (0, 6), (0, 7), (0, 8), (1, 9), (0, 10), (0, 11), (0, 12)] Bv zK ?_
 refine Tr.m rfl rfl rfl ?_
 refine Tr.m rfl rfl rfl ?_
 refine Tr.nC rfl rfl rfl ?_
 refine Tr.fld rfl rfl rfl Tryz.underlying219 rfl Sz58 dE _ rfl ?_
 refine Tr.load1 rfl rfl rfl Y58 rfl Z0 (by exact Reader.get_fB (by exact rdr_ok _ _ _ _ _ _)) ?_
 refine Tr.lenSl rfl rfl rfl Y58 ?_
 refine Tr.m rfl rfl rfl ?_
 refine Tr.nC rfl rfl rfl ?_
 refine Tr.fld rfl rfl rfl Tryz.underlying219 rfl Sz3 dE _ rfl ?_
 refine Tr.load1 rfl rfl rfl Y3 rfl Z0 (by exact Reader.get_fAt (by exact rdr_ok _ _ _ _ _ _)) ?_
 refine Tr.sub_i64 rfl rfl rfl rfl oM ?_
 refine Tr.conv rfl rfl rfl Y3 Y48 (Bh _) ?_
 refine Tr.gtr rfl rfl rfl rfl (decide_eq_true (by rw [hwd]; omega)) ?_
 refine Tr.nil (Aa ?_)
 refine Sat.cond_t rfl (rfl) ?_
 refine Sat.seq (Sat.region ?_)
 refine Tr.m rfl rfl rfl ?_
 refine Tr.nC rfl rfl rfl ?_
 refine Tr.fld rfl rfl rfl Tryz.underlying219 rfl Sz32 dE _ rfl ?_
 refine Tr.s1 rfl rfl rfl rfl rfl Sz32 Z0 (by rw [Reader.length (by exact rdr_ok _ _ _ _ _ _)]; decide) (Reader.set_fErr (by exact rdr_ok _ _ _ _ _ _) _) zU ?_
 refine Tr.nil (Aa (Sat.seq (Sat.region ?_)))
 refine Tr.a rfl rfl rfl ?_
 refine Tr.a rfl rfl rfl ?_
 refine Tr.nil (Aa (Sat.ret (Ao (Am ?_))))
 refine ⟨_, [RB n q N cp (at') (5)], Ba rfl rfl rfl, (by intro b hb; rw [List.mem_singleton.1 hb]; exact mem0), Bz, ?_⟩
 exact ⟨rfl, rfl⟩

theorem rd_take_ok (n q N cp at' : Nat) (k : UInt64) (hat : at' ≤ N) (hN : N ≤ cp) (hbig : N ≤ 1000000) (hk : at' + k.toNat ≤ N) : Meets Tryz.prog 187 [ptr n 0, u64 k] [n] (fun W => BlkOk W (RB n q N cp (at') (0))) (fun v out => v = .tuple #[.slice (some ⟨q, if cp = at' then 0 else 0 + at' * 1, none⟩) k.toNat (cp - at'), .bool true] ∧ out = [RB n q N cp (at' + k.toNat) (0)]) := by
 intro W hW
 have hfB : (rdr n q N cp at' (0)).fB.n = N := rfl
 have hfA : (rdr n q N cp at' (0)).fAt = (at' : Int) := rfl
 have hfE : (rdr n q N cp at' (0)).fErr = (0) := rfl
 have hwd : (Bi (((rdr n q N cp at' (0)).fB.n : Int) - (rdr n q N cp at' (0)).fAt)).toNat = N - at' := by
  rw [hfB, hfA, show ((N : Int) - (at' : Int)) = ((N - at' : Nat) : Int) by omega]; simp only [Bi, UInt64.toNat_ofNat']; omega
 refine A7 (hp0 := [RB n q N cp (at') (0)]) Tryz.func187 rfl 56 Tryz.ntmps187 rfl (HRep.one hW) ?_
 refine Sat.seq (Sat.region ?_)
 refine Tr.a rfl rfl rfl ?_
 refine Tr.a rfl rfl rfl ?_
 refine Tr.nil (Aa (Sat.seq (Sat.seq (Sat.region ?_))))
 refine Tr.m rfl rfl rfl ?_
 refine Tr.cV rfl rfl rfl rfl Body206 (rd_made n) (fun w h => rb_self (Ai h Z0)) ?_
 refine Tr.not rfl rfl rfl ?_
 refine Tr.m rfl rfl rfl ?_
 refine Tr.m rfl rfl rfl ?_
 refine Tr.nC rfl rfl rfl ?_
 refine Tr.fld rfl rfl rfl Tryz.underlying219 rfl Sz32 dE _ rfl ?_
 refine Tr.load1 rfl rfl rfl Y32 rfl Z0 (by exact Reader.get_fErr (by exact rdr_ok _ _ _ _ _ _)) ?_
 refine Tr.nei rfl rfl rfl rfl (show (!decide _) = false from congrArg not (decide_eq_true (rfl))) ?_
 refine Tr.pick rfl rfl rfl rfl rfl rfl ?_
 refine Tr.nil (Aa ?_)
 refine Sat.cond_f rfl (rfl) ?_
 refine Sat.skip (Aa (Sat.seq (Sat.seq ?_)))
 refine Sat.draw [(0, 0), (0, 1), (0, 2), (0, 3), (1, 4), (0, 5), (0, 6), (0, 7), (0, 8), (1, 9), (0, 10), (0, 11), (0, 12)] Bv zK ?_
 refine Tr.m rfl rfl rfl ?_
 refine Tr.m rfl rfl rfl ?_
 refine Tr.nC rfl rfl rfl ?_
 refine Tr.fld rfl rfl rfl Tryz.underlying219 rfl Sz58 dE _ rfl ?_
 refine Tr.load1 rfl rfl rfl Y58 rfl Z0 (by exact Reader.get_fB (by exact rdr_ok _ _ _ _ _ _)) ?_
 refine Tr.lenSl rfl rfl rfl Y58 ?_
 refine Tr.m rfl rfl rfl ?_
 refine Tr.nC rfl rfl rfl ?_
 refine Tr.fld rfl rfl rfl Tryz.underlying219 rfl Sz3 dE _ rfl ?_
 refine Tr.load1 rfl rfl rfl Y3 rfl Z0 (by exact Reader.get_fAt (by exact rdr_ok _ _ _ _ _ _)) ?_
 refine Tr.sub_i64 rfl rfl rfl rfl oM ?_
 refine Tr.conv rfl rfl rfl Y3 Y48 (Bh _) ?_
 refine Tr.gtr rfl rfl rfl rfl (decide_eq_false (by rw [hwd]; omega)) ?_
 refine Tr.nil (Aa ?_)
 refine Sat.cond_f rfl (rfl) ?_
 refine Sat.skip (Aa (Sat.seq (Sat.region ?_)))
 refine Tr.m rfl rfl rfl ?_
 refine Tr.nC rfl rfl rfl ?_
 refine Tr.fld rfl rfl rfl Tryz.underlying219 rfl Sz3 dE _ rfl ?_
 refine Tr.load1 rfl rfl rfl Y3 rfl Z0 (by exact Reader.get_fAt (by exact rdr_ok _ _ _ _ _ _)) ?_
 refine Tr.a rfl rfl rfl ?_
 refine Tr.nil (Aa ?_)
 refine Sat.join (ι := Unit) (fun _u => ⟨[(0, ptr n 0), (1, u64 k), (6, i64 (at' : Int))], [⟨n, (rdr n q N cp (at' + k.toNat) 0).cells, 219, 4⟩]⟩) (fun _u => True) ?_ ?_
 ·
  refine Sat.region ?_
  refine Tr.m rfl rfl rfl ?_
  refine Tr.nC rfl rfl rfl ?_
  refine Tr.fld rfl rfl rfl Tryz.underlying219 rfl Sz3 dE _ rfl ?_
  refine Tr.load1 rfl rfl rfl Y3 rfl Z0 (by exact Reader.get_fAt (by exact rdr_ok _ _ _ _ _ _)) ?_
  refine Tr.m rfl rfl rfl ?_
  refine Tr.conv rfl rfl rfl Y48 Y3 (cv_u64_i64 oM) ?_
  refine Tr.aI rfl rfl rfl rfl oM ?_
  refine Tr.nC rfl rfl rfl ?_
  refine Tr.fld rfl rfl rfl Tryz.underlying219 rfl Sz3 dE _ rfl ?_
  refine Tr.s1 rfl rfl rfl rfl rfl Sz3 Z0 (by rw [Reader.length (by exact rdr_ok _ _ _ _ _ _)]; decide) (Reader.set_fAt (by exact rdr_ok _ _ _ _ _ _) _) zU ?_
  refine Tr.nil (Aa ?_)
  refine ⟨(), trivial, Ar (wk1 rfl (wk1 rfl (wk1 rfl wk0))) (wh1 (by rw [rdr_at]; exact mem0) wh0) nD⟩
 ·
  intro _u hj
  have hfA2 : (rdr n q N cp (at' + k.toNat) 0).fAt = ((at' + k.toNat : Nat) : Int) := rfl
  have hfC2 : (rdr n q N cp (at' + k.toNat) 0).fB.c = cp := rfl
  refine Sat.seq ?_
  refine Sat.draw [(0, 0), (0, 1), (0, 2), (1, 3), (0, 4), (0, 5), (0, 6), (0, 7), (1, 8), (0, 9), (0, 10), (0, 11)] Bv zK ?_
  refine Tr.m rfl rfl rfl ?_
  refine Tr.nC rfl rfl rfl ?_
  refine Tr.fld rfl rfl rfl Tryz.underlying219 rfl Sz58 dE _ rfl ?_
  refine Tr.load1 rfl rfl rfl Y58 rfl Z0 (by exact Reader.get_fB (by exact rdr_ok _ _ _ _ _ _)) ?_
  refine Tr.m rfl rfl rfl ?_
  refine Tr.m rfl rfl rfl ?_
  refine Tr.nC rfl rfl rfl ?_
  refine Tr.fld rfl rfl rfl Tryz.underlying219 rfl Sz3 dE _ rfl ?_
  refine Tr.load1 rfl rfl rfl Y3 rfl Z0 (by exact Reader.get_fAt (by exact rdr_ok _ _ _ _ _ _)) ?_
  refine Tr.sliceLoHiN at' (at'+k.toNat) rfl rfl rfl rfl rfl rfl oM oM oM Y58 Sz5 ?_
  refine Tr.a rfl rfl rfl ?_
  refine Tr.a rfl rfl rfl ?_
  refine Tr.nil (Aa (Sat.ret (Am ?_)))
  refine ⟨_, [RB n q N cp (at' + k.toNat) (0)], Ba rfl rfl rfl, (by intro b hb; rw [List.mem_singleton.1 hb]; exact mem0), Bz, ?_⟩
  exact ⟨congrArg (fun z => Value.tuple #[.slice (some ⟨q, if cp = at' then 0 else 0 + at' * 1, none⟩) z (cp - at'), .bool true]) (Nat.add_sub_cancel_left ..), rfl⟩

theorem rd_fail (n q N cp at' : Nat) (e : Int) (a : Nat) (e2 : Int) : Meets Tryz.prog 190 [ptr n 0, i64 (a : Int), i64 e2] [n] (fun W => BlkOk W (RB n q N cp at' e)) (fun v out => v = .tuple #[] ∧ out = [RB n q N cp (a) (e2)]) := by
 intro W hW
 refine A7 (hp0 := [RB n q N cp at' e]) Tryz.func190 rfl 14 Tryz.ntmps190 rfl (HRep.one hW) ?_
 refine Sat.seq (Sat.region ?_)
 refine Tr.m rfl rfl rfl ?_
 refine Tr.m rfl rfl rfl ?_
 refine Tr.nC rfl rfl rfl ?_
 refine Tr.fld rfl rfl rfl Tryz.underlying219 rfl Sz3 dE _ rfl ?_
 refine Tr.s1 rfl rfl rfl rfl rfl Sz3 Z0 (by rw [Reader.length (by exact rdr_ok _ _ _ _ _ _)]; decide) (Reader.set_fAt (by exact rdr_ok _ _ _ _ _ _) _) zU ?_
 refine Tr.nil (Aa (Sat.region ?_))
 refine Tr.m rfl rfl rfl ?_
 refine Tr.m rfl rfl rfl ?_
 refine Tr.nC rfl rfl rfl ?_
 refine Tr.fld rfl rfl rfl Tryz.underlying219 rfl Sz32 dE _ rfl ?_
 refine Tr.s1 rfl rfl rfl rfl rfl Sz32 Z0 (by rw [Reader.length (by exact rdr_ok _ _ _ _ _ _)]; decide) (Reader.set_fErr (by exact rdr_ok _ _ _ _ _ _) _) zU ?_
 refine Tr.nil (en_n ?_)
 refine ⟨_, [RB n q N cp (a) (e2)], res_none rfl, (by intro b hb; rw [List.mem_singleton.1 hb]; exact mem0), Bz, ?_⟩
 exact ⟨rfl, rfl⟩

theorem rd_take_first (n q N cp at' : Nat) (hat : at' < N) (hN : N ≤ cp) (hbig : N ≤ 1000000) : Meets Tryz.prog 187 [ptr n 0, u64 1] [n] (fun W => BlkOk W (RB n q N cp at' 0)) (fun v out => v = .tuple #[.slice (some ⟨q, at', none⟩) 1 (cp - at'), .bool true] ∧ out = [RB n q N cp (at' + 1) 0]) := by
  have := rd_take_ok n q N cp at' 1 oM hN hbig (by show at' + 1 ≤ N; omega)
  rw [if_neg oM, Nat.zero_add, Nat.mul_one] at this
  exact this

theorem rd_num_err (n q N cp at' : Nat) (e : Int) (xs : List UInt8) (hx : xs.length = N) (hat : at' ≤ N) (hN : N ≤ cp) (hbig : N ≤ 1000000) (he : ¬ e = 0) : Meets Tryz.prog 94 [ptr n 0] [n] (fun W => BlkOk W (RB n q N cp (at') (e)) ∧ Cb W q 0 (Ab xs) ∧ q ≠ n) (fun v out => v = u64 0 ∧ out = [RB n q N cp (at') (e)]) := by
 intro W hW
 have hb8 := b8_le (xs.getD at' 0)
 have hcw := cnt_word (xs.getD at' 0)
 have hcn : (cntB (xs.getD at' 0)) = 9 - B3 (255 ^^^ (xs.getD at' 0)).toNat := rfl
 refine A7 (hp0 := [RB n q N cp (at') (e)]) Tryz.func94 rfl 73 Tryz.ntmps94 rfl (HRep.one hW.1) ?_
 refine Sat.seq (Sat.region ?_)
 refine Tr.a rfl rfl (show Aj _ _ = some (u64 0) from rfl) ?_
 refine Tr.nil (Aa (Sat.seq (Sat.region ?_)))
 refine Tr.m rfl rfl rfl ?_
 refine Tr.callL (L := [RB n q N cp (at') (e)]) rfl rfl rfl rfl rfl Body187 (rd_take_err n q N cp at' e 1 hat hN hbig he) Ay lO (fun w h => Ai h Z0) ?_
 rintro v2 out2 ⟨rfl, rfl⟩
 refine Tr.m rfl rfl rfl ?_
 refine Tr.eX rfl rfl rfl rfl ?_
 refine Tr.eX rfl rfl rfl rfl ?_
 refine Tr.a rfl rfl rfl ?_
 refine Tr.a rfl rfl rfl ?_
 refine Tr.nil (Aa (Sat.seq (Sat.seq (Sat.region ?_))))
 refine Tr.m rfl rfl rfl ?_
 refine Tr.not rfl rfl rfl ?_
 refine Tr.nil (Aa ?_)
 refine Sat.cond_t rfl (rfl) ?_
 refine Sat.seq (Sat.region ?_)
 refine Tr.a rfl rfl (show Aj _ _ = some (u64 0) from rfl) ?_
 refine Tr.nil (Aa (Sat.ret (Ao (Am ?_))))
 refine ⟨_, [RB n q N cp (at') (e)], Ae rfl rfl, (by intro b hb; rw [List.mem_singleton.1 hb]; exact mem0), Bz, ?_⟩
 exact ⟨rfl, rfl⟩

theorem rd_num_end (n q N cp at' : Nat) (xs : List UInt8) (hx : xs.length = N) (hat : at' ≤ N) (hN : N ≤ cp) (hbig : N ≤ 1000000) (hk : N ≤ at') : Meets Tryz.prog 94 [ptr n 0] [n] (fun W => BlkOk W (RB n q N cp (at') (0)) ∧ Cb W q 0 (Ab xs) ∧ q ≠ n) (fun v out => v = u64 0 ∧ out = [RB n q N cp (at') (5)]) := by
 intro W hW
 have hb8 := b8_le (xs.getD at' 0)
 have hcw := cnt_word (xs.getD at' 0)
 have hcn : (cntB (xs.getD at' 0)) = 9 - B3 (255 ^^^ (xs.getD at' 0)).toNat := rfl
 refine A7 (hp0 := [RB n q N cp (at') (0)]) Tryz.func94 rfl 73 Tryz.ntmps94 rfl (HRep.one hW.1) ?_
 refine Sat.seq (Sat.region ?_)
 refine Tr.a rfl rfl (show Aj _ _ = some (u64 0) from rfl) ?_
 refine Tr.nil (Aa (Sat.seq (Sat.region ?_)))
 refine Tr.m rfl rfl rfl ?_
 refine Tr.callL (L := [RB n q N cp (at') (0)]) rfl rfl rfl rfl rfl Body187 (rd_take_more n q N cp at' 1 hat hN hbig (by show N < at' + 1; omega)) Ay lO (fun w h => Ai h Z0) ?_
 rintro v2 out2 ⟨rfl, rfl⟩
 refine Tr.m rfl rfl rfl ?_
 refine Tr.eX rfl rfl rfl rfl ?_
 refine Tr.eX rfl rfl rfl rfl ?_
 refine Tr.a rfl rfl rfl ?_
 refine Tr.a rfl rfl rfl ?_
 refine Tr.nil (Aa (Sat.seq (Sat.seq (Sat.region ?_))))
 refine Tr.m rfl rfl rfl ?_
 refine Tr.not rfl rfl rfl ?_
 refine Tr.nil (Aa ?_)
 refine Sat.cond_t rfl (rfl) ?_
 refine Sat.seq (Sat.region ?_)
 refine Tr.a rfl rfl (show Aj _ _ = some (u64 0) from rfl) ?_
 refine Tr.nil (Aa (Sat.ret (Ao (Am ?_))))
 refine ⟨_, [RB n q N cp (at') (5)], Ae rfl rfl, (by intro b hb; rw [List.mem_singleton.1 hb]; exact mem0), Bz, ?_⟩
 exact ⟨rfl, rfl⟩

theorem rd_num_short (n q N cp at' : Nat) (xs : List UInt8) (hx : xs.length = N) (hat : at' ≤ N) (hN : N ≤ cp) (hbig : N ≤ 1000000) (hk : at' < N) (hk2 : N < at' + (cntB (xs.getD at' 0))) : Meets Tryz.prog 94 [ptr n 0] [n] (fun W => BlkOk W (RB n q N cp (at') (0)) ∧ Cb W q 0 (Ab xs) ∧ q ≠ n) (fun v out => v = u64 0 ∧ out = [RB n q N cp (at') (5)]) := by
 intro W hW
 have hb8 := b8_le (xs.getD at' 0)
 have hcw := cnt_word (xs.getD at' 0)
 have hcn : (cntB (xs.getD at' 0)) = 9 - B3 (255 ^^^ (xs.getD at' 0)).toNat := rfl
 refine A7 (hp0 := [RB n q N cp (at') (0)]) Tryz.func94 rfl 73 Tryz.ntmps94 rfl (HRep.one hW.1) ?_
 refine Sat.seq (Sat.region ?_)
 refine Tr.a rfl rfl (show Aj _ _ = some (u64 0) from rfl) ?_
 refine Tr.nil (Aa (Sat.seq (Sat.region ?_)))
 refine Tr.m rfl rfl rfl ?_
 refine Tr.callL (L := [RB n q N cp (at') (0)]) rfl rfl rfl rfl rfl Body187 (rd_take_first n q N cp at' oM hN hbig) Ay lO (fun w h => Ai h Z0) ?_
 rintro v2 out2 ⟨rfl, rfl⟩
 refine Tr.m rfl rfl rfl ?_
 refine Tr.eX rfl rfl rfl rfl ?_
 refine Tr.eX rfl rfl rfl rfl ?_
 refine Tr.a rfl rfl rfl ?_
 refine Tr.a rfl rfl rfl ?_
 refine Tr.nil (Aa (Sat.seq (Sat.seq (Sat.region ?_))))
 refine Tr.m rfl rfl rfl ?_
 refine Tr.not rfl rfl rfl ?_
 refine Tr.nil (Aa ?_)
 refine Sat.cond_f rfl (rfl) ?_
 refine Sat.skip (Aa ?_)
 refine Sat.join (ι := Unit) (fun _u => ⟨[(0, ptr n 0), (3, .slice (some ⟨q, at', none⟩) 1 (cp - at')), (5, i64 (at' : Int))], [⟨n, (rdr n q N cp (at' + 1) (0)).cells, 219, 4⟩]⟩) (fun _u => True) ?_ ?_
 ·
  refine Sat.region ?_
  refine Tr.m rfl rfl rfl ?_
  refine Tr.nC rfl rfl rfl ?_
  refine Tr.fld rfl rfl rfl Tryz.underlying219 rfl Sz3 dE _ rfl ?_
  refine Tr.load1 rfl rfl rfl Y3 rfl Z0 (by exact Reader.get_fAt (by exact rdr_ok _ _ _ _ _ _)) ?_
  have hfA4 : (rdr n q N cp (at' + 1) 0).fAt = ((at' + 1 : Nat) : Int) := rfl
  refine Tr.sub_i64 rfl rfl rfl rfl oM ?_
  refine Tr.a rfl rfl rfl ?_
  refine Tr.nil (Aa ?_)
  refine ⟨(), trivial, Ar (wk1 rfl (wk1 rfl (wk1 (congrArg (fun z => some (i64 z)) (show (rdr n q N cp (at' + 1) 0).fAt - 1 = (at' : Int) by simp [rdr])) wk0))) (wh1 Z0 wh0) nD⟩
 ·
  intro _u hj
  skip
  refine Sat.seq (Sat.region ?_)
  refine Tr.m rfl rfl rfl ?_
  refine Tr.idxSlO rfl rfl rfl rfl Y58 Sz5 0 rfl oM ?_
  refine Tr.loadE rfl rfl rfl Y5 rfl (by (simp; exact hW.2.2)) ((by have := hW.2.1 at' _ (A9 oM); rwa [Nat.zero_add] at this)) ?_
  refine Tr.not_u8 rfl rfl rfl ?_
  refine Tr.cV rfl rfl rfl rfl Body189 (bits_lz8 _) tV ?_
  refine Tr.aI rfl rfl rfl rfl oM ?_
  refine Tr.a rfl rfl rfl ?_
  refine Tr.nil (Aa (Sat.seq (Sat.region ?_)))
  refine Tr.m rfl rfl rfl ?_
  refine Tr.m rfl rfl rfl ?_
  refine Tr.sub_i64 rfl rfl rfl rfl oM ?_
  refine Tr.conv rfl rfl rfl Y3 Y48 (Bh _) ?_
  refine Tr.callL (L := [RB n q N cp (at' + 1) (0)]) rfl rfl rfl rfl rfl Body187 (rd_take_more n q N cp (at' + 1) (Bi (8 - ((B3 (255 ^^^ (xs.getD at' 0)).toNat : Nat) : Int) + 1 - 1)) oM hN hbig (by rw [hcw]; omega)) Ay lO (fun w h => Ai h Z0) ?_
  rintro v2 out2 ⟨rfl, rfl⟩
  refine Tr.m rfl rfl rfl ?_
  refine Tr.eX rfl rfl rfl rfl ?_
  refine Tr.eX rfl rfl rfl rfl ?_
  refine Tr.a rfl rfl rfl ?_
  refine Tr.a rfl rfl rfl ?_
  refine Tr.nil (Aa (Sat.seq (Sat.seq (Sat.region ?_))))
  refine Tr.m rfl rfl rfl ?_
  refine Tr.not rfl rfl rfl ?_
  refine Tr.nil (Aa ?_)
  refine Sat.cond_t rfl (rfl) ?_
  refine Sat.seq (Sat.region ?_)
  refine Tr.m rfl rfl rfl ?_
  refine Tr.m rfl rfl rfl ?_
  refine Tr.m rfl rfl rfl ?_
  refine Tr.nC rfl rfl rfl ?_
  refine Tr.fld rfl rfl rfl Tryz.underlying219 rfl Sz32 dE _ rfl ?_
  refine Tr.load1 rfl rfl rfl Y32 rfl Z0 (by exact Reader.get_fErr (by exact rdr_ok _ _ _ _ _ _)) ?_
  refine Tr.callL (L := [RB n q N cp (at' + 1) (5)]) rfl rfl rfl rfl rfl Body190 (rd_fail n q N cp (at' + 1) 5 at' 5) Ay lO (fun w h => Ai h Z0) ?_
  rintro v2 out2 ⟨rfl, rfl⟩
  refine Tr.nil (Aa (Sat.seq (Sat.region ?_)))
  refine Tr.a rfl rfl (show Aj _ _ = some (u64 0) from rfl) ?_
  refine Tr.nil (Aa (Sat.ret (Ao (Am ?_))))
  refine ⟨_, [RB n q N cp (at') (5)], Ae rfl rfl, (by intro b hb; rw [List.mem_singleton.1 hb]; exact mem0), Bz, ?_⟩
  exact ⟨rfl, rfl⟩

theorem rd_num_bad (n q N cp at' : Nat) (xs : List UInt8) (hx : xs.length = N) (hat : at' ≤ N) (hN : N ≤ cp) (hbig : N ≤ 1000000) (hk2 : at' + (cntB (xs.getD at' 0)) ≤ N) (hz : ¬ szN (numV xs at').toNat = (cntB (xs.getD at' 0))) : Meets Tryz.prog 94 [ptr n 0] [n] (fun W => BlkOk W (RB n q N cp (at') (0)) ∧ Cb W q 0 (Ab xs) ∧ q ≠ n) (fun v out => v = u64 0 ∧ out = [RB n q N cp (at') (4)]) := by
 intro W hW
 have hb8 := b8_le (xs.getD at' 0)
 have hcw := cnt_word (xs.getD at' 0)
 have hcn : (cntB (xs.getD at' 0)) = 9 - B3 (255 ^^^ (xs.getD at' 0)).toNat := rfl
 refine A7 (hp0 := [RB n q N cp (at') (0)]) Tryz.func94 rfl 73 Tryz.ntmps94 rfl (HRep.one hW.1) ?_
 refine Sat.seq (Sat.region ?_)
 refine Tr.a rfl rfl (show Aj _ _ = some (u64 0) from rfl) ?_
 refine Tr.nil (Aa (Sat.seq (Sat.region ?_)))
 refine Tr.m rfl rfl rfl ?_
 refine Tr.callL (L := [RB n q N cp (at') (0)]) rfl rfl rfl rfl rfl Body187 (rd_take_first n q N cp at' oM hN hbig) Ay lO (fun w h => Ai h Z0) ?_
 rintro v2 out2 ⟨rfl, rfl⟩
 refine Tr.m rfl rfl rfl ?_
 refine Tr.eX rfl rfl rfl rfl ?_
 refine Tr.eX rfl rfl rfl rfl ?_
 refine Tr.a rfl rfl rfl ?_
 refine Tr.a rfl rfl rfl ?_
 refine Tr.nil (Aa (Sat.seq (Sat.seq (Sat.region ?_))))
 refine Tr.m rfl rfl rfl ?_
 refine Tr.not rfl rfl rfl ?_
 refine Tr.nil (Aa ?_)
 refine Sat.cond_f rfl (rfl) ?_
 refine Sat.skip (Aa ?_)
 refine Sat.join (ι := Unit) (fun _u => ⟨[(0, ptr n 0), (3, .slice (some ⟨q, at', none⟩) 1 (cp - at')), (5, i64 (at' : Int))], [⟨n, (rdr n q N cp (at' + 1) (0)).cells, 219, 4⟩]⟩) (fun _u => True) ?_ ?_
 ·
  refine Sat.region ?_
  refine Tr.m rfl rfl rfl ?_
  refine Tr.nC rfl rfl rfl ?_
  refine Tr.fld rfl rfl rfl Tryz.underlying219 rfl Sz3 dE _ rfl ?_
  refine Tr.load1 rfl rfl rfl Y3 rfl Z0 (by exact Reader.get_fAt (by exact rdr_ok _ _ _ _ _ _)) ?_
  have hfA4 : (rdr n q N cp (at' + 1) 0).fAt = ((at' + 1 : Nat) : Int) := rfl
  refine Tr.sub_i64 rfl rfl rfl rfl oM ?_
  refine Tr.a rfl rfl rfl ?_
  refine Tr.nil (Aa ?_)
  refine ⟨(), trivial, Ar (wk1 rfl (wk1 rfl (wk1 (congrArg (fun z => some (i64 z)) (show (rdr n q N cp (at' + 1) 0).fAt - 1 = (at' : Int) by simp [rdr])) wk0))) (wh1 Z0 wh0) nD⟩
 ·
  intro _u hj
  skip
  refine Sat.seq (Sat.region ?_)
  refine Tr.m rfl rfl rfl ?_
  refine Tr.idxSlO rfl rfl rfl rfl Y58 Sz5 0 rfl oM ?_
  refine Tr.loadE rfl rfl rfl Y5 rfl (by (simp; exact hW.2.2)) ((by have := hW.2.1 at' _ (A9 oM); rwa [Nat.zero_add] at this)) ?_
  refine Tr.not_u8 rfl rfl rfl ?_
  refine Tr.cV rfl rfl rfl rfl Body189 (bits_lz8 _) tV ?_
  refine Tr.aI rfl rfl rfl rfl oM ?_
  refine Tr.a rfl rfl rfl ?_
  refine Tr.nil (Aa (Sat.seq (Sat.region ?_)))
  refine Tr.m rfl rfl rfl ?_
  refine Tr.m rfl rfl rfl ?_
  refine Tr.sub_i64 rfl rfl rfl rfl oM ?_
  refine Tr.conv rfl rfl rfl Y3 Y48 (Bh _) ?_
  refine Tr.callL (L := [RB n q N cp (at' + 1) (0)]) rfl rfl rfl rfl rfl Body187 (rd_take_ok n q N cp (at' + 1) (Bi (8 - ((B3 (255 ^^^ (xs.getD at' 0)).toNat : Nat) : Int) + 1 - 1)) oM hN hbig (by rw [hcw]; omega)) Ay lO (fun w h => Ai h Z0) ?_
  rintro v2 out2 ⟨rfl, rfl⟩
  refine Tr.m rfl rfl rfl ?_
  refine Tr.eX rfl rfl rfl rfl ?_
  refine Tr.eX rfl rfl rfl rfl ?_
  refine Tr.a rfl rfl rfl ?_
  refine Tr.a rfl rfl rfl ?_
  refine Tr.nil (Aa (Sat.seq (Sat.seq (Sat.region ?_))))
  refine Tr.m rfl rfl rfl ?_
  refine Tr.not rfl rfl rfl ?_
  refine Tr.nil (Aa ?_)
  refine Sat.cond_f rfl (rfl) ?_
  refine Sat.skip (Aa ?_)
  refine Sat.join (ι := Unit) (fun _u => ⟨[(0, ptr n 0), (5, i64 (at' : Int)), (6, i64 (8 - ((B3 (255 ^^^ (xs.getD at' 0)).toNat : Nat) : Int) + 1)), (7, .slice (some ⟨q, if cp = at' + 1 then 0 else 0 + (at' + 1) * 1, none⟩) (Bi (8 - ((B3 (255 ^^^ (xs.getD at' 0)).toNat : Nat) : Int) + 1 - 1)).toNat (cp - (at' + 1))), (8, u64 (foldB (headV (xs.getD at' 0)) ((xs.drop (at' + 1)).take 0)))], [⟨n, (rdr n q N cp (at' + 1 + (Bi (8 - ((B3 (255 ^^^ (xs.getD at' 0)).toNat : Nat) : Int) + 1 - 1)).toNat) (0)).cells, 219, 4⟩]⟩) (fun _u => True) ?_ ?_
  ·
   refine Sat.draw [(0, 0), (0, 1), (1, 2), (0, 3), (0, 4), (0, 5), (0, 6), (0, 7)] Bv zK ?_
   refine Tr.m rfl rfl rfl ?_
   refine Tr.idxSlO rfl rfl rfl rfl Y58 Sz5 0 rfl oM ?_
   refine Tr.loadE rfl rfl rfl Y5 rfl (by (simp; exact hW.2.2)) ((by have := hW.2.1 at' _ (A9 oM); rwa [Nat.zero_add] at this)) ?_
   refine Tr.m rfl rfl rfl ?_
   refine Tr.shr_u8w rfl rfl (show Aj _ _ = some (u8 255) from rfl) rfl (cntB (xs.getD at' 0)) oM ?_
   refine Tr.and_u8 rfl rfl rfl rfl ?_
   refine Tr.conv rfl rfl rfl Y5 Y48 (cv_u8_u64 _) ?_
   refine Tr.a rfl rfl rfl ?_
   refine Tr.nil (Aa ?_)
   refine ⟨(), trivial, Ar (wk1 rfl (wk1 rfl (wk1 rfl (wk1 rfl (wk1 rfl wk0))))) (wh1 Z0 wh0) nD⟩
  ·
   intro _u hj
   skip
   refine Sat.seq (Sat.seq (Sat.region ?_))
   refine Tr.m rfl rfl rfl ?_
   refine Tr.lenSl rfl rfl rfl Y58 ?_
   refine Tr.m rfl rfl rfl ?_
   refine Tr.nil (Aa (Sat.block ?_))
   refine Sat.loop (ι := Nat) (fun j => ⟨[(0, ptr n 0), (5, i64 (at' : Int)), (6, i64 (8 - ((B3 (255 ^^^ (xs.getD at' 0)).toNat : Nat) : Int) + 1)), (53, .slice (some ⟨q, if cp = at' + 1 then 0 else 0 + (at' + 1) * 1, none⟩) (Bi (8 - ((B3 (255 ^^^ (xs.getD at' 0)).toNat : Nat) : Int) + 1 - 1)).toNat (cp - (at' + 1))), (54, i64 ((Bi (8 - ((B3 (255 ^^^ (xs.getD at' 0)).toNat : Nat) : Int) + 1 - 1)).toNat : Int)), (55, i64 (j : Int)), (8, u64 (foldB (headV (xs.getD at' 0)) ((xs.drop (at' + 1)).take j)))], [⟨n, (rdr n q N cp (at' + 1 + (Bi (8 - ((B3 (255 ^^^ (xs.getD at' 0)).toNat : Nat) : Int) + 1 - 1)).toNat) (0)).cells, 219, 4⟩]⟩) (fun j => j ≤ (Bi (8 - ((B3 (255 ^^^ (xs.getD at' 0)).toNat : Nat) : Int) + 1 - 1)).toNat) (fun j => (Bi (8 - ((B3 (255 ^^^ (xs.getD at' 0)).toNat : Nat) : Int) + 1 - 1)).toNat - j) (0) ?_ ?_ ?_
   · exact Nat.zero_le _
   · exact Ar (wk1 rfl (wk1 rfl (wk1 rfl (wk1 rfl (wk1 rfl (wk1 rfl (wk1 rfl wk0))))))) (wh1 Z0 wh0) nD
   ·
    rintro j hj
    refine Sat.seq (Sat.region ?_)
    refine Tr.lss rfl rfl rfl rfl rfl ?_
    refine Tr.nil (Aa (Sat.seq ?_))
    refine Sat.condP rfl (fun hc2 => ?_) (fun hc2 => ?_)
    ·
     have hj2 : j < (Bi (8 - ((B3 (255 ^^^ (xs.getD at' 0)).toNat : Nat) : Int) + 1 - 1)).toNat := by omega
     refine Sat.skip (Aa (Sat.seq (Sat.block (Sat.seq (Sat.region ?_)))))
     refine Tr.idxSlO rfl rfl rfl rfl Y58 Sz5 _ rfl oM ?_
     refine Tr.loadE rfl rfl rfl Y5 rfl (by (simp; exact hW.2.2)) ((by have h9 := hW.2.1 (at' + 1 + j) _ (A9 oM); rw [if_neg oM]; rw [Nat.zero_add] at h9; rw [show 0 + (at' + 1) * 1 + j = at' + 1 + j by omega]; exact h9)) ?_
     refine Tr.a rfl rfl rfl ?_
     refine Tr.nil (Aa (Sat.region ?_))
     refine Tr.m rfl rfl rfl ?_
     refine Tr.shl_u64 rfl rfl rfl rfl 8 rfl dE ?_
     refine Tr.m rfl rfl rfl ?_
     refine Tr.conv rfl rfl rfl Y5 Y48 (cv_u8_u64 _) ?_
     refine Tr.or_u64 rfl rfl rfl rfl ?_
     refine Tr.a rfl rfl rfl ?_
     refine Tr.nil (B2 (Aa (Sat.region ?_)))
     refine Tr.aI rfl rfl rfl rfl oM ?_
     refine Tr.m rfl rfl rfl ?_
     refine Tr.nil (Aa ?_)
     exact ⟨j + 1, by omega, by omega, Ar (wk1 rfl (wk1 rfl (wk1 rfl (wk1 rfl (wk1 rfl (wk1 rfl (wk1 (by rw [foldB_step xs (at' + 1) j _ oM]; rfl) wk0))))))) (wh1 Z0 wh0) nD⟩
    ·
     have hj2 : j = (cntB (xs.getD at' 0)) - 1 := by omega
     refine Sat.exit (Bf (Bf (bl_h (Aa (Sat.seq (Sat.seq (Sat.region ?_)))))))
     have hnv : numV xs at' = foldB (headV (xs.getD at' 0)) ((xs.drop (at' + 1)).take j) := by rw [numV, hj2]

     refine Tr.m rfl rfl rfl ?_
     refine Tr.cV rfl rfl rfl rfl Body191 (oct_size _) tV ?_
     refine Tr.m rfl rfl rfl ?_
     refine Tr.nei rfl rfl rfl rfl (show (!decide _) = true from congrArg not (decide_eq_false (by rw [← hnv]; omega))) ?_
     refine Tr.nil (Aa ?_)
     refine Sat.cond_t rfl (rfl) ?_
     refine Sat.seq (Sat.region ?_)
     refine Tr.m rfl rfl rfl ?_
     refine Tr.m rfl rfl rfl ?_
     refine Tr.callL (L := [RB n q N cp (at' + 1 + (Bi (8 - ((B3 (255 ^^^ (xs.getD at' 0)).toNat : Nat) : Int) + 1 - 1)).toNat) (0)]) rfl rfl rfl rfl rfl Body190 (rd_fail n q N cp (at' + 1 + (Bi (8 - ((B3 (255 ^^^ (xs.getD at' 0)).toNat : Nat) : Int) + 1 - 1)).toNat) 0 at' 4) Ay lO (fun w h => Ai h Z0) ?_
     rintro v2 out2 ⟨rfl, rfl⟩
     refine Tr.nil (Aa (Sat.seq (Sat.region ?_)))
     refine Tr.a rfl rfl (show Aj _ _ = some (u64 0) from rfl) ?_
     refine Tr.nil (Aa (Sat.ret (Ao (Am ?_))))
     refine ⟨_, [RB n q N cp (at') (4)], Ae rfl rfl, (by intro b hb; rw [List.mem_singleton.1 hb]; exact mem0), Bz, ?_⟩
     exact ⟨rfl, rfl⟩

theorem rd_num_ok (n q N cp at' : Nat) (xs : List UInt8) (hx : xs.length = N) (hat : at' ≤ N) (hN : N ≤ cp) (hbig : N ≤ 1000000) (hk2 : at' + (cntB (xs.getD at' 0)) ≤ N) (hz : szN (numV xs at').toNat = (cntB (xs.getD at' 0))) : Meets Tryz.prog 94 [ptr n 0] [n] (fun W => BlkOk W (RB n q N cp (at') (0)) ∧ Cb W q 0 (Ab xs) ∧ q ≠ n) (fun v out => v = u64 (numV xs at') ∧ out = [RB n q N cp (at' + (cntB (xs.getD at' 0))) (0)]) := by
 intro W hW
 have hb8 := b8_le (xs.getD at' 0)
 have hcw := cnt_word (xs.getD at' 0)
 have hcn : (cntB (xs.getD at' 0)) = 9 - B3 (255 ^^^ (xs.getD at' 0)).toNat := rfl
 refine A7 (hp0 := [RB n q N cp (at') (0)]) Tryz.func94 rfl 73 Tryz.ntmps94 rfl (HRep.one hW.1) ?_
 refine Sat.seq (Sat.region ?_)
 refine Tr.a rfl rfl (show Aj _ _ = some (u64 0) from rfl) ?_
 refine Tr.nil (Aa (Sat.seq (Sat.region ?_)))
 refine Tr.m rfl rfl rfl ?_
 refine Tr.callL (L := [RB n q N cp (at') (0)]) rfl rfl rfl rfl rfl Body187 (rd_take_first n q N cp at' oM hN hbig) Ay lO (fun w h => Ai h Z0) ?_
 rintro v2 out2 ⟨rfl, rfl⟩
 refine Tr.m rfl rfl rfl ?_
 refine Tr.eX rfl rfl rfl rfl ?_
 refine Tr.eX rfl rfl rfl rfl ?_
 refine Tr.a rfl rfl rfl ?_
 refine Tr.a rfl rfl rfl ?_
 refine Tr.nil (Aa (Sat.seq (Sat.seq (Sat.region ?_))))
 refine Tr.m rfl rfl rfl ?_
 refine Tr.not rfl rfl rfl ?_
 refine Tr.nil (Aa ?_)
 refine Sat.cond_f rfl (rfl) ?_
 refine Sat.skip (Aa ?_)
 refine Sat.join (ι := Unit) (fun _u => ⟨[(0, ptr n 0), (3, .slice (some ⟨q, at', none⟩) 1 (cp - at')), (5, i64 (at' : Int))], [⟨n, (rdr n q N cp (at' + 1) (0)).cells, 219, 4⟩]⟩) (fun _u => True) ?_ ?_
 ·
  refine Sat.region ?_
  refine Tr.m rfl rfl rfl ?_
  refine Tr.nC rfl rfl rfl ?_
  refine Tr.fld rfl rfl rfl Tryz.underlying219 rfl Sz3 dE _ rfl ?_
  refine Tr.load1 rfl rfl rfl Y3 rfl Z0 (by exact Reader.get_fAt (by exact rdr_ok _ _ _ _ _ _)) ?_
  have hfA4 : (rdr n q N cp (at' + 1) 0).fAt = ((at' + 1 : Nat) : Int) := rfl
  refine Tr.sub_i64 rfl rfl rfl rfl oM ?_
  refine Tr.a rfl rfl rfl ?_
  refine Tr.nil (Aa ?_)
  refine ⟨(), trivial, Ar (wk1 rfl (wk1 rfl (wk1 (congrArg (fun z => some (i64 z)) (show (rdr n q N cp (at' + 1) 0).fAt - 1 = (at' : Int) by simp [rdr])) wk0))) (wh1 Z0 wh0) nD⟩
 ·
  intro _u hj
  skip
  refine Sat.seq (Sat.region ?_)
  refine Tr.m rfl rfl rfl ?_
  refine Tr.idxSlO rfl rfl rfl rfl Y58 Sz5 0 rfl oM ?_
  refine Tr.loadE rfl rfl rfl Y5 rfl (by (simp; exact hW.2.2)) ((by have := hW.2.1 at' _ (A9 oM); rwa [Nat.zero_add] at this)) ?_
  refine Tr.not_u8 rfl rfl rfl ?_
  refine Tr.cV rfl rfl rfl rfl Body189 (bits_lz8 _) tV ?_
  refine Tr.aI rfl rfl rfl rfl oM ?_
  refine Tr.a rfl rfl rfl ?_
  refine Tr.nil (Aa (Sat.seq (Sat.region ?_)))
  refine Tr.m rfl rfl rfl ?_
  refine Tr.m rfl rfl rfl ?_
  refine Tr.sub_i64 rfl rfl rfl rfl oM ?_
  refine Tr.conv rfl rfl rfl Y3 Y48 (Bh _) ?_
  refine Tr.callL (L := [RB n q N cp (at' + 1) (0)]) rfl rfl rfl rfl rfl Body187 (rd_take_ok n q N cp (at' + 1) (Bi (8 - ((B3 (255 ^^^ (xs.getD at' 0)).toNat : Nat) : Int) + 1 - 1)) oM hN hbig (by rw [hcw]; omega)) Ay lO (fun w h => Ai h Z0) ?_
  rintro v2 out2 ⟨rfl, rfl⟩
  refine Tr.m rfl rfl rfl ?_
  refine Tr.eX rfl rfl rfl rfl ?_
  refine Tr.eX rfl rfl rfl rfl ?_
  refine Tr.a rfl rfl rfl ?_
  refine Tr.a rfl rfl rfl ?_
  refine Tr.nil (Aa (Sat.seq (Sat.seq (Sat.region ?_))))
  refine Tr.m rfl rfl rfl ?_
  refine Tr.not rfl rfl rfl ?_
  refine Tr.nil (Aa ?_)
  refine Sat.cond_f rfl (rfl) ?_
  refine Sat.skip (Aa ?_)
  refine Sat.join (ι := Unit) (fun _u => ⟨[(0, ptr n 0), (5, i64 (at' : Int)), (6, i64 (8 - ((B3 (255 ^^^ (xs.getD at' 0)).toNat : Nat) : Int) + 1)), (7, .slice (some ⟨q, if cp = at' + 1 then 0 else 0 + (at' + 1) * 1, none⟩) (Bi (8 - ((B3 (255 ^^^ (xs.getD at' 0)).toNat : Nat) : Int) + 1 - 1)).toNat (cp - (at' + 1))), (8, u64 (foldB (headV (xs.getD at' 0)) ((xs.drop (at' + 1)).take 0)))], [⟨n, (rdr n q N cp (at' + 1 + (Bi (8 - ((B3 (255 ^^^ (xs.getD at' 0)).toNat : Nat) : Int) + 1 - 1)).toNat) (0)).cells, 219, 4⟩]⟩) (fun _u => True) ?_ ?_
  ·
   refine Sat.draw [(0, 0), (0, 1), (1, 2), (0, 3), (0, 4), (0, 5), (0, 6), (0, 7)] Bv zK ?_
   refine Tr.m rfl rfl rfl ?_
   refine Tr.idxSlO rfl rfl rfl rfl Y58 Sz5 0 rfl oM ?_
   refine Tr.loadE rfl rfl rfl Y5 rfl (by (simp; exact hW.2.2)) ((by have := hW.2.1 at' _ (A9 oM); rwa [Nat.zero_add] at this)) ?_
   refine Tr.m rfl rfl rfl ?_
   refine Tr.shr_u8w rfl rfl (show Aj _ _ = some (u8 255) from rfl) rfl (cntB (xs.getD at' 0)) oM ?_
   refine Tr.and_u8 rfl rfl rfl rfl ?_
   refine Tr.conv rfl rfl rfl Y5 Y48 (cv_u8_u64 _) ?_
   refine Tr.a rfl rfl rfl ?_
   refine Tr.nil (Aa ?_)
   refine ⟨(), trivial, Ar (wk1 rfl (wk1 rfl (wk1 rfl (wk1 rfl (wk1 rfl wk0))))) (wh1 Z0 wh0) nD⟩
  ·
   intro _u hj
   skip
   refine Sat.seq (Sat.seq (Sat.region ?_))
   refine Tr.m rfl rfl rfl ?_
   refine Tr.lenSl rfl rfl rfl Y58 ?_
   refine Tr.m rfl rfl rfl ?_
   refine Tr.nil (Aa (Sat.block ?_))
   refine Sat.loop (ι := Nat) (fun j => ⟨[(0, ptr n 0), (5, i64 (at' : Int)), (6, i64 (8 - ((B3 (255 ^^^ (xs.getD at' 0)).toNat : Nat) : Int) + 1)), (53, .slice (some ⟨q, if cp = at' + 1 then 0 else 0 + (at' + 1) * 1, none⟩) (Bi (8 - ((B3 (255 ^^^ (xs.getD at' 0)).toNat : Nat) : Int) + 1 - 1)).toNat (cp - (at' + 1))), (54, i64 ((Bi (8 - ((B3 (255 ^^^ (xs.getD at' 0)).toNat : Nat) : Int) + 1 - 1)).toNat : Int)), (55, i64 (j : Int)), (8, u64 (foldB (headV (xs.getD at' 0)) ((xs.drop (at' + 1)).take j)))], [⟨n, (rdr n q N cp (at' + 1 + (Bi (8 - ((B3 (255 ^^^ (xs.getD at' 0)).toNat : Nat) : Int) + 1 - 1)).toNat) (0)).cells, 219, 4⟩]⟩) (fun j => j ≤ (Bi (8 - ((B3 (255 ^^^ (xs.getD at' 0)).toNat : Nat) : Int) + 1 - 1)).toNat) (fun j => (Bi (8 - ((B3 (255 ^^^ (xs.getD at' 0)).toNat : Nat) : Int) + 1 - 1)).toNat - j) (0) ?_ ?_ ?_
   · exact Nat.zero_le _
   · exact Ar (wk1 rfl (wk1 rfl (wk1 rfl (wk1 rfl (wk1 rfl (wk1 rfl (wk1 rfl wk0))))))) (wh1 Z0 wh0) nD
   ·
    rintro j hj
    refine Sat.seq (Sat.region ?_)
    refine Tr.lss rfl rfl rfl rfl rfl ?_
    refine Tr.nil (Aa (Sat.seq ?_))
    refine Sat.condP rfl (fun hc2 => ?_) (fun hc2 => ?_)
    ·
     have hj2 : j < (Bi (8 - ((B3 (255 ^^^ (xs.getD at' 0)).toNat : Nat) : Int) + 1 - 1)).toNat := by omega
     refine Sat.skip (Aa (Sat.seq (Sat.block (Sat.seq (Sat.region ?_)))))
     refine Tr.idxSlO rfl rfl rfl rfl Y58 Sz5 _ rfl oM ?_
     refine Tr.loadE rfl rfl rfl Y5 rfl (by (simp; exact hW.2.2)) ((by have h9 := hW.2.1 (at' + 1 + j) _ (A9 oM); rw [if_neg oM]; rw [Nat.zero_add] at h9; rw [show 0 + (at' + 1) * 1 + j = at' + 1 + j by omega]; exact h9)) ?_
     refine Tr.a rfl rfl rfl ?_
     refine Tr.nil (Aa (Sat.region ?_))
     refine Tr.m rfl rfl rfl ?_
     refine Tr.shl_u64 rfl rfl rfl rfl 8 rfl dE ?_
     refine Tr.m rfl rfl rfl ?_
     refine Tr.conv rfl rfl rfl Y5 Y48 (cv_u8_u64 _) ?_
     refine Tr.or_u64 rfl rfl rfl rfl ?_
     refine Tr.a rfl rfl rfl ?_
     refine Tr.nil (B2 (Aa (Sat.region ?_)))
     refine Tr.aI rfl rfl rfl rfl oM ?_
     refine Tr.m rfl rfl rfl ?_
     refine Tr.nil (Aa ?_)
     exact ⟨j + 1, by omega, by omega, Ar (wk1 rfl (wk1 rfl (wk1 rfl (wk1 rfl (wk1 rfl (wk1 rfl (wk1 (by rw [foldB_step xs (at' + 1) j _ oM]; rfl) wk0))))))) (wh1 Z0 wh0) nD⟩
    ·
     have hj2 : j = (cntB (xs.getD at' 0)) - 1 := by omega
     refine Sat.exit (Bf (Bf (bl_h (Aa (Sat.seq (Sat.seq (Sat.region ?_)))))))
     have hnv : numV xs at' = foldB (headV (xs.getD at' 0)) ((xs.drop (at' + 1)).take j) := by rw [numV, hj2]

     refine Tr.m rfl rfl rfl ?_
     refine Tr.cV rfl rfl rfl rfl Body191 (oct_size _) tV ?_
     refine Tr.m rfl rfl rfl ?_
     refine Tr.nei rfl rfl rfl rfl (show (!decide _) = false from congrArg not (decide_eq_true (by rw [← hnv, hz]; omega))) ?_
     refine Tr.nil (Aa ?_)
     refine Sat.cond_f rfl (rfl) ?_
     refine Sat.skip (Aa (Sat.seq (Sat.region ?_)))
     refine Tr.m rfl rfl rfl ?_
     refine Tr.a rfl rfl rfl ?_
     refine Tr.nil (Aa (Sat.ret (Am ?_)))
     refine ⟨_, [RB n q N cp (at' + (cntB (xs.getD at' 0))) (0)], Ae rfl rfl, (by intro b hb; rw [List.mem_singleton.1 hb, show at' + (cntB (xs.getD at' 0)) = at' + 1 + (Bi (8 - ((B3 (255 ^^^ (xs.getD at' 0)).toNat : Nat) : Int) + 1 - 1)).toNat by rw [hcw]; omega]; exact mem0), Bz, ?_⟩
     exact ⟨by rw [hnv], rfl⟩

theorem rd_take_pos (n q N cp at' : Nat) (k : UInt64) (hN : N ≤ cp) (hbig : N ≤ 1000000) (hk : at' + k.toNat ≤ N) (hk0 : 0 < k.toNat) : Meets Tryz.prog 187 [ptr n 0, u64 k] [n] (fun W => BlkOk W (RB n q N cp at' 0)) (fun v out => v = .tuple #[.slice (some ⟨q, at', none⟩) k.toNat (cp - at'), .bool true] ∧ out = [RB n q N cp (at' + k.toNat) 0]) := by
  have := rd_take_ok n q N cp at' k oM hN hbig hk
  rw [if_neg oM, Nat.zero_add, Nat.mul_one] at this
  exact this
def Bg (xs : List UInt8) (a : Nat) (e : Int) : UInt64 × Nat × Int :=
  if ¬ e = 0 then (0, a, e) else if xs.length ≤ a then (0, a, 5) else if xs.length < a + cntB (xs.getD a 0) then (0, a, 5) else if szN (numV xs a).toNat = cntB (xs.getD a 0) then (numV xs a, a + cntB (xs.getD a 0), 0) else (0, a, 4)
theorem numR_at (xs : List UInt8) (a : Nat) (e : Int) (h : a ≤ xs.length) : (Bg xs a e).2.1 ≤ xs.length := by
  unfold Bg
  split
  · exact h
  split
  · exact h
  split
  · exact h
  split
  · simp only; omega
  · exact h
theorem rd_Number (n q N cp at' : Nat) (e : Int) (xs : List UInt8) (hx : xs.length = N) (hat : at' ≤ N) (hN : N ≤ cp) (hbig : N ≤ 1000000) : Meets Tryz.prog 94 [ptr n 0] [n] (fun W => BlkOk W (RB n q N cp at' e) ∧ Cb W q 0 (Ab xs) ∧ q ≠ n)
    (fun v out => v = u64 (Bg xs at' e).1 ∧ out = [RB n q N cp (Bg xs at' e).2.1 (Bg xs at' e).2.2]) := by
  unfold Bg
  by_cases he : e = 0
  · subst he
    rw [if_neg sP]
    by_cases h1 : xs.length ≤ at'
    · rw [if_pos h1]; exact rd_num_end n q N cp at' xs hx hat hN hbig oM
    · rw [if_neg h1]
      by_cases h2 : xs.length < at' + cntB (xs.getD at' 0)
      · rw [if_pos h2]; exact rd_num_short n q N cp at' xs hx hat hN hbig oM oM
      · rw [if_neg h2]
        by_cases h3 : szN (numV xs at').toNat = cntB (xs.getD at' 0)
        · rw [if_pos h3]; exact rd_num_ok n q N cp at' xs hx hat hN hbig oM h3
        · rw [if_neg h3]; exact rd_num_bad n q N cp at' xs hx hat hN hbig oM h3
  · rw [if_pos he]; exact rd_num_err n q N cp at' e xs hx hat hN hbig he

theorem rd_dig_err (n q N cp at' : Nat) (e : Int) (xs : List UInt8) (hx : xs.length = N) (hat : at' ≤ N) (hN : N ≤ cp) (hbig : N ≤ 1000000) (he : ¬ e = 0) : Meets Tryz.prog 173 [ptr n 0] [n] (fun W => BlkOk W (RB n q N cp (at') (e)) ∧ Cb W q 0 (Ab xs) ∧ q ≠ n) (fun v out => v = agg (Ab (List.replicate 32 0)) ∧ out = [RB n q N cp (at') (e)]) := by
 intro W hW
 refine A7 (hp0 := [RB n q N cp (at') (e)]) Tryz.func173 rfl 16 Tryz.ntmps173 rfl (HRep.one hW.1) ?_
 refine Sat.seq (Sat.region ?_)
 refine Tr.alloc (cs := (Ab (List.replicate 32 0))) rfl Zr50 rfl ?_
 intro n2 hn2 hf2
 refine Tr.nil (Aa (Sat.seq (Sat.region ?_)))
 refine Tr.m rfl rfl rfl ?_
 refine Tr.callL (L := [RB n q N cp (at') (e)]) rfl rfl rfl rfl rfl Body187 (rd_take_err n q N cp at' e 32 hat hN hbig he) (rem_there Ay) lO (fun w h => Ai h Z1) ?_
 rintro v2 out2 ⟨rfl, rfl⟩
 refine Tr.m rfl rfl rfl ?_
 refine Tr.eX rfl rfl rfl rfl ?_
 refine Tr.eX rfl rfl rfl rfl ?_
 refine Tr.a rfl rfl rfl ?_
 refine Tr.a rfl rfl rfl ?_
 refine Tr.nil (Aa (Sat.seq (Sat.seq (Sat.region ?_))))
 refine Tr.m rfl rfl rfl ?_
 refine Tr.not rfl rfl rfl ?_
 refine Tr.nil (Aa ?_)
 refine Sat.cond_t rfl (rfl) ?_
 refine Sat.seq (Sat.region ?_)
 refine Tr.build (cs := Ab (List.replicate 32 0)) rfl rfl rfl (fun w => by kernel_rfl) ?_
 refine Tr.sA rfl rfl rfl rfl zE Bb sP Z1 sP zV ?_
 refine Tr.nil (Aa (Sat.ret (Ao (Am ?_))))
 refine ⟨_, [RB n q N cp (at') (e)], res_cell rfl rfl Y50 rfl Bb Z1 sP, (by intro b hb; rw [List.mem_singleton.1 hb]; exact mem0), Bz, ?_⟩
 exact ⟨rfl, rfl⟩

theorem rd_dig_more (n q N cp at' : Nat) (xs : List UInt8) (hx : xs.length = N) (hat : at' ≤ N) (hN : N ≤ cp) (hbig : N ≤ 1000000) (hk : N < at' + 32) : Meets Tryz.prog 173 [ptr n 0] [n] (fun W => BlkOk W (RB n q N cp (at') (0)) ∧ Cb W q 0 (Ab xs) ∧ q ≠ n) (fun v out => v = agg (Ab (List.replicate 32 0)) ∧ out = [RB n q N cp (at') (5)]) := by
 intro W hW
 refine A7 (hp0 := [RB n q N cp (at') (0)]) Tryz.func173 rfl 16 Tryz.ntmps173 rfl (HRep.one hW.1) ?_
 refine Sat.seq (Sat.region ?_)
 refine Tr.alloc (cs := (Ab (List.replicate 32 0))) rfl Zr50 rfl ?_
 intro n2 hn2 hf2
 refine Tr.nil (Aa (Sat.seq (Sat.region ?_)))
 refine Tr.m rfl rfl rfl ?_
 refine Tr.callL (L := [RB n q N cp (at') (0)]) rfl rfl rfl rfl rfl Body187 (rd_take_more n q N cp at' 32 hat hN hbig hk) (rem_there Ay) lO (fun w h => Ai h Z1) ?_
 rintro v2 out2 ⟨rfl, rfl⟩
 refine Tr.m rfl rfl rfl ?_
 refine Tr.eX rfl rfl rfl rfl ?_
 refine Tr.eX rfl rfl rfl rfl ?_
 refine Tr.a rfl rfl rfl ?_
 refine Tr.a rfl rfl rfl ?_
 refine Tr.nil (Aa (Sat.seq (Sat.seq (Sat.region ?_))))
 refine Tr.m rfl rfl rfl ?_
 refine Tr.not rfl rfl rfl ?_
 refine Tr.nil (Aa ?_)
 refine Sat.cond_t rfl (rfl) ?_
 refine Sat.seq (Sat.region ?_)
 refine Tr.build (cs := Ab (List.replicate 32 0)) rfl rfl rfl (fun w => by kernel_rfl) ?_
 refine Tr.sA rfl rfl rfl rfl zE Bb sP Z1 sP zV ?_
 refine Tr.nil (Aa (Sat.ret (Ao (Am ?_))))
 refine ⟨_, [RB n q N cp (at') (5)], res_cell rfl rfl Y50 rfl Bb Z1 sP, (by intro b hb; rw [List.mem_singleton.1 hb]; exact mem0), Bz, ?_⟩
 exact ⟨rfl, rfl⟩

theorem sees_cut {w : World} {q : Nat} {xs : List UInt8} (h : Cb w q 0 (Ab xs)) (a k : Nat) : Cb w q a (Ab ((xs.drop a).take k)) := fun j v hj => by
  simp only [Ab, List.map_take, List.map_drop, List.getElem?_take] at hj
  split at hj
  · rw [List.getElem?_drop] at hj
    have := h (a + j) v hj
    rwa [Nat.zero_add] at this
  · cases hj

theorem rd_dig_ok (n q N cp at' : Nat) (xs : List UInt8) (hx : xs.length = N) (hat : at' ≤ N) (hN : N ≤ cp) (hbig : N ≤ 1000000) (hk : at' + 32 ≤ N) : Meets Tryz.prog 173 [ptr n 0] [n] (fun W => BlkOk W (RB n q N cp (at') (0)) ∧ Cb W q 0 (Ab xs) ∧ q ≠ n) (fun v out => v = agg (Ab ((xs.drop at').take 32)) ∧ out = [RB n q N cp (at' + 32) (0)]) := by
 intro W hW
 have hdl : ((xs.drop at').take 32).length = 32 := by simp; omega
 refine A7 (hp0 := [RB n q N cp (at') (0)]) Tryz.func173 rfl 16 Tryz.ntmps173 rfl (HRep.one hW.1) ?_
 refine Sat.seq (Sat.region ?_)
 refine Tr.alloc (cs := (Ab (List.replicate 32 0))) rfl Zr50 rfl ?_
 intro n2 hn2 hf2
 refine Tr.nil (Aa (Sat.seq (Sat.region ?_)))
 refine Tr.m rfl rfl rfl ?_
 refine Tr.callL (L := [RB n q N cp (at') (0)]) rfl rfl rfl rfl rfl Body187 (rd_take_pos n q N cp at' 32 hN hbig hk dE) (rem_there Ay) lO (fun w h => Ai h Z1) ?_
 rintro v2 out2 ⟨rfl, rfl⟩
 refine Tr.m rfl rfl rfl ?_
 refine Tr.eX rfl rfl rfl rfl ?_
 refine Tr.eX rfl rfl rfl rfl ?_
 refine Tr.a rfl rfl rfl ?_
 refine Tr.a rfl rfl rfl ?_
 refine Tr.nil (Aa (Sat.seq (Sat.seq (Sat.region ?_))))
 refine Tr.m rfl rfl rfl ?_
 refine Tr.not rfl rfl rfl ?_
 refine Tr.nil (Aa ?_)
 refine Sat.cond_f rfl (rfl) ?_
 refine Sat.skip (Aa (Sat.seq (Sat.region ?_)))
 refine Tr.m rfl rfl rfl ?_
 refine Tr.s2a rfl rfl rfl Y50 dE ?_
 refine Tr.loadEN (Ab ((xs.drop at').take 32)) rfl rfl rfl Y50 rfl Bb (by simp; exact hW.2.2) (by rw [Ab, List.length_map]; exact hdl) (sees_cut hW.2.1 at' 32) ?_
 refine Tr.sA rfl rfl rfl rfl zE Bb (by (rw [Ab, List.length_map]; assumption)) Z1 sP zV ?_
 refine Tr.nil (Aa (Sat.ret (Am ?_)))
 refine ⟨_, [RB n q N cp (at' + 32) (0)], res_cell rfl rfl Y50 rfl Bb Z1 (by rw [Ab, List.length_map]; exact hdl), (by intro b hb; rw [List.mem_singleton.1 hb]; exact mem0), Bz, ?_⟩
 exact ⟨rfl, rfl⟩

def digR (xs : List UInt8) (a : Nat) (e : Int) : List UInt8 × Nat × Int :=
  if ¬ e = 0 then (List.replicate 32 0, a, e) else if xs.length < a + 32 then (List.replicate 32 0, a, 5) else ((xs.drop a).take 32, a + 32, 0)
theorem digR_at (xs : List UInt8) (a : Nat) (e : Int) (h : a ≤ xs.length) : (digR xs a e).2.1 ≤ xs.length ∧ (digR xs a e).1.length = 32 := by
  unfold digR
  split
  · exact ⟨h, rfl⟩
  split
  · exact ⟨h, rfl⟩
  · exact ⟨by simp only; omega, by simp; omega⟩
theorem rd_Digest (n q N cp at' : Nat) (e : Int) (xs : List UInt8) (hx : xs.length = N) (hat : at' ≤ N) (hN : N ≤ cp) (hbig : N ≤ 1000000) : Meets Tryz.prog 173 [ptr n 0] [n] (fun W => BlkOk W (RB n q N cp at' e) ∧ Cb W q 0 (Ab xs) ∧ q ≠ n)
    (fun v out => v = agg (Ab (digR xs at' e).1) ∧ out = [RB n q N cp (digR xs at' e).2.1 (digR xs at' e).2.2]) := by
  unfold digR
  by_cases he : e = 0
  · subst he
    rw [if_neg sP]
    by_cases h1 : xs.length < at' + 32
    · rw [if_pos h1]; exact rd_dig_more n q N cp at' xs hx hat hN hbig oM
    · rw [if_neg h1]; exact rd_dig_ok n q N cp at' xs hx hat hN hbig oM
  · rw [if_pos he]; exact rd_dig_err n q N cp at' e xs hx hat hN hbig he

end Go.Proofs.YtdifpjmfabhpiaaGreat
end

section
namespace Go.Proofs.YtdifpjmfabhpiaaGreat
open Go Hw

theorem BlkOk.keep {ex : List Nat} {w w' : World} {b : Blk} (h : Keeps ex w w') (hb : BlkOk w b) (hn : b.n ∉ ex) : BlkOk w' b := hb.of_heap (h.block b.n hb.lt hn)

def RdNew (N : Nat) (xs : List UInt8) (v : Value) (out : List Blk) : Prop := ∃ n q cp, v = ptr n 0 ∧ N ≤ cp ∧ out = [RB n q N cp 0 0, ⟨q, Ab xs, 5, cp * 1⟩]
theorem RdNew.loose (N : Nat) (xs : List UInt8) : Loose (RdNew N xs) := fun k hk => by
  obtain ⟨q1, _, h1⟩ := fresh_is 0 k
  obtain ⟨q2, h2', h2⟩ := fresh_is (q1 + 1) k
  refine ⟨_, _, ⟨q2, q1, N, rfl, Nat.le_refl _, rfl⟩, ?_⟩
  simp only [RB, List.cons_append, List.nil_append, List.map_cons, List.nodup_cons, List.mem_cons]
  refine ⟨?_, fun h => ?_, hk⟩
  · rintro (h | h)
    · omega
    · obtain ⟨b, hb, e⟩ := List.mem_map.1 h; exact h2 b hb e
  · obtain ⟨b, hb, e⟩ := List.mem_map.1 h; exact h1 b hb e

theorem oct_Read (p : Option Addr) (n c : Nat) (xs : List UInt8) (hl : xs.length = n) (hp : p = none → n = 0) (hn : n ≤ 90000) : Meets Tryz.prog 91 [.slice p n c] [] (fun W => SeesP W p (Ab xs)) (RdNew n xs) := by
 intro W hW
 refine An Tryz.func91 rfl 13 Tryz.ntmps91 rfl ?_
 refine Sat.seq (Sat.region ?_)
 refine Tr.a rfl rfl rfl ?_
 refine Tr.nil (Aa (Sat.seq (Sat.region ?_)))
 refine Tr.m rfl rfl rfl ?_
 refine Tr.call rfl rfl rfl rfl Body186 (oct_grown p n c 0 xs hl hp oM oM) (FreshRow.loose _ _ _ _) (fun w h => Aw h rfl hW) ?_
 rintro v1 out1 ⟨q1, c1, rfl, hc1, rfl⟩
 refine Tr.build (cs := (⟨.pointer none, ⟨some ⟨q1, 0, none⟩, n, c1⟩, 0, 0⟩ : Reader).cells) rfl rfl rfl (fun w => by kernel_rfl) ?_
 refine Tr.boxA rfl rfl ?_
 intro n7 hn7 hf7
 refine Tr.a rfl rfl rfl ?_
 refine Tr.nil (Aa (Sat.seq (Sat.region ?_)))
 refine Tr.m rfl rfl rfl ?_
 refine Tr.m rfl rfl rfl ?_
 refine Tr.nC rfl rfl rfl ?_
 refine Tr.fld rfl rfl rfl Tryz.underlying219 rfl Sz129 dE _ rfl ?_
 refine Tr.s1 rfl rfl rfl rfl rfl Sz129 Z0 (by rw [Reader.length (by exact ⟨rfl⟩)]; decide) (Reader.set_fSelf (by exact ⟨rfl⟩) _) zU ?_
 refine Tr.nil (Aa (Sat.seq (Sat.region ?_)))
 refine Tr.m rfl rfl rfl ?_
 refine Tr.a rfl rfl rfl ?_
 refine Tr.nil (Aa (Sat.ret (Am ?_)))
 refine ⟨_, [RB n7 q1 n c1 0 0, ⟨q1, Ab xs, 5, c1 * 1⟩], Ae rfl rfl, (by intro b hb; rcases List.mem_cons.1 hb with rfl | hb; exact mem0; rw [List.mem_singleton.1 hb]; exact mem1), (fun h => h.sublist (by simp [RB])), ⟨n7, q1, c1, rfl, hc1, rfl⟩⟩

theorem rd_Err (n q N cp at' : Nat) (e : Int) : Meets Tryz.prog 192 [ptr n 0] [] (fun W => BlkOk W (RB n q N cp (at') (e))) (fun v out => v = i64 e ∧ out = []) := by
 intro W hW
 refine An Tryz.func192 rfl 10 Tryz.ntmps192 rfl ?_
 refine Sat.seq (Sat.region ?_)
 refine Tr.a rfl rfl rfl ?_
 refine Tr.nil (Aa (Sat.seq (Sat.seq (Sat.region ?_))))
 refine Tr.m rfl rfl rfl ?_
 refine Tr.cV rfl rfl rfl rfl Body206 (rd_made n) (fun w h => h.keeps.cell sP (rb_self hW)) ?_
 refine Tr.not rfl rfl rfl ?_
 refine Tr.nil (Aa ?_)
 refine Sat.cond_f rfl rfl ?_
 refine Sat.skip (Aa (Sat.seq (Sat.region ?_)))
 refine Tr.m rfl rfl rfl ?_
 refine Tr.nC rfl rfl rfl ?_
 refine Tr.fld rfl rfl rfl Tryz.underlying219 rfl Sz32 dE _ rfl ?_
 refine Tr.loadE rfl rfl rfl Y32 rfl sP (BlkOk.cell0 (o := 3) hW rfl) ?_
 refine Tr.a rfl rfl rfl ?_
 refine Tr.nil (Aa (Sat.ret (Am ?_)))
 refine ⟨_, [], Ae rfl rfl, sP, sP, ?_, rfl⟩
 rfl

theorem rd_Left (n q N cp at' : Nat) (e : Int) (hat : at' ≤ N) (hbig : N ≤ 1000000) : Meets Tryz.prog 197 [ptr n 0] [] (fun W => BlkOk W (RB n q N cp (at') (e))) (fun v out => v = i64 ((N : Int) - (at' : Int)) ∧ out = []) := by
 intro W hW
 have hfB : (rdr n q N cp at' e).fB.n = N := rfl
 have hfA : (rdr n q N cp at' e).fAt = (at' : Int) := rfl
 refine An Tryz.func197 rfl 16 Tryz.ntmps197 rfl ?_
 refine Sat.seq (Sat.region ?_)
 refine Tr.a rfl rfl rfl ?_
 refine Tr.nil (Aa (Sat.seq (Sat.seq (Sat.region ?_))))
 refine Tr.m rfl rfl rfl ?_
 refine Tr.cV rfl rfl rfl rfl Body206 (rd_made n) (fun w h => h.keeps.cell sP (rb_self hW)) ?_
 refine Tr.not rfl rfl rfl ?_
 refine Tr.nil (Aa ?_)
 refine Sat.cond_f rfl rfl ?_
 refine Sat.skip (Aa (Sat.seq ?_))
 refine Sat.draw [(0, 0), (0, 1), (0, 2), (1, 3), (0, 4), (0, 5), (0, 6), (0, 7), (1, 8), (0, 9), (0, 10)] Bv zK ?_
 refine Tr.m rfl rfl rfl ?_
 refine Tr.nC rfl rfl rfl ?_
 refine Tr.fld rfl rfl rfl Tryz.underlying219 rfl Sz58 dE _ rfl ?_
 refine Tr.loadE rfl rfl rfl Y58 rfl sP (BlkOk.cell0 (o := 1) hW rfl) ?_
 refine Tr.lenSl (n := N) rfl rfl rfl Y58 ?_
 refine Tr.m rfl rfl rfl ?_
 refine Tr.nC rfl rfl rfl ?_
 refine Tr.fld rfl rfl rfl Tryz.underlying219 rfl Sz3 dE _ rfl ?_
 refine Tr.loadE rfl rfl rfl Y3 rfl sP (BlkOk.cell0 (o := 2) hW rfl) ?_
 refine Tr.sub_i64 rfl rfl rfl rfl oM ?_
 refine Tr.a rfl rfl rfl ?_
 refine Tr.nil (Aa (Sat.ret (Am ?_)))
 refine ⟨_, [], Ae rfl rfl, sP, sP, ?_, rfl⟩
 rfl

def endR (N a : Nat) (e : Int) : Int := if e = 0 then (if (0 : Int) < (N : Int) - (a : Int) then 4 else 0) else e

theorem rd_End (n q N cp at' : Nat) (e : Int) (hat : at' ≤ N) (hbig : N ≤ 1000000) : Meets Tryz.prog 105 [ptr n 0] [] (fun W => BlkOk W (RB n q N cp (at') (e))) (fun v out => v = i64 (endR N at' e) ∧ out = []) := by
 intro W hW
 refine An Tryz.func105 rfl 12 Tryz.ntmps105 rfl ?_
 refine Sat.seq (Sat.region ?_)
 refine Tr.a rfl rfl rfl ?_
 refine Tr.nil (Aa (Sat.seq (Sat.seq (Sat.region ?_))))
 refine Tr.m rfl rfl rfl ?_
 refine Tr.cV rfl rfl rfl rfl Body192 (rd_Err n q N cp at' e) (fun w h => (BlkOk.keep h.keeps hW sP)) ?_
 refine Tr.a rfl rfl rfl ?_
 refine Tr.nil (Aa (Sat.seq (Sat.region ?_)))
 refine Tr.m rfl rfl rfl ?_
 refine Tr.nei rfl rfl rfl rfl rfl ?_
 refine Tr.nil (Aa ?_)
 refine Sat.condNP rfl (fun hc0 => ?_) (fun hc0 => ?_)
 ·
  refine Sat.seq (Sat.region ?_)
  refine Tr.m rfl rfl rfl ?_
  refine Tr.a rfl rfl rfl ?_
  refine Tr.nil (Aa (Sat.ret (Ao (Am ?_))))
  refine ⟨_, [], Ae rfl rfl, sP, sP, ?_, rfl⟩
  (simp only [endR, if_neg hc0]; done)
 ·
  refine Sat.skip (Aa (Sat.seq (Sat.seq (Sat.region ?_))))
  refine Tr.m rfl rfl rfl ?_
  refine Tr.cV rfl rfl rfl rfl Body197 (rd_Left n q N cp at' e hat hbig) (fun w h => (BlkOk.keep h.keeps hW sP)) ?_
  refine Tr.gtr rfl rfl rfl rfl rfl ?_
  refine Tr.nil (Aa ?_)
  refine Sat.condP rfl (fun hc1 => ?_) (fun hc1 => ?_)
  ·
   refine Sat.seq (Sat.region ?_)
   refine Tr.a rfl rfl rfl ?_
   refine Tr.nil (Aa (Sat.ret (Ao (Am ?_))))
   refine ⟨_, [], Ae rfl rfl, sP, sP, ?_, rfl⟩
   (simp only [endR, if_pos (show e = 0 by omega), if_pos hc1]; done)
  ·
   refine Sat.skip (Aa (Sat.seq (Sat.region ?_)))
   refine Tr.a rfl rfl rfl ?_
   refine Tr.nil (Aa (Sat.ret (Am ?_)))
   refine ⟨_, [], Ae rfl rfl, sP, sP, ?_, rfl⟩
   (simp only [endR, if_pos (show e = 0 by omega), if_neg hc1]; done)

theorem rd_take64_err (n q N cp at' : Nat) (e : Int) (m : Nat) (hm0 : 0 < m) (hm : m ≤ 90000) (xs : List UInt8) (hx : xs.length = N) (hat : at' ≤ N) (hN : N ≤ cp) (hbig : N ≤ 1000000) (he : ¬ e = 0) : Meets Tryz.prog 174 [ptr n 0, i64 (m : Int)] [n] (fun W => BlkOk W (RB n q N cp (at') (e)) ∧ Cb W q 0 (Ab xs) ∧ q ≠ n) (fun v out => v = .slice none 0 0 ∧ out = [RB n q N cp (at') (e)]) := by
 intro W hW
 have hkm : (Bi (if (0 : Int) > (m : Int) then 0 else (m : Int))).toNat = m := by
  rw [if_neg oM]
  simp only [Bi, UInt64.toNat_ofNat']
  omega
 refine A7 (hp0 := [RB n q N cp (at') (e)]) Tryz.func174 rfl 19 Tryz.ntmps174 rfl (HRep.one hW.1) ?_
 refine Sat.seq (Sat.region ?_)
 refine Tr.a rfl rfl rfl ?_
 refine Tr.nil (Aa (Sat.seq (Sat.region ?_)))
 refine Tr.m rfl rfl rfl ?_
 refine Tr.m rfl rfl rfl ?_
 refine Tr.max2 rfl rfl rfl rfl (rfl) ?_
 refine Tr.conv rfl rfl rfl Y3 Y48 (Bh _) ?_
 refine Tr.callL (L := [RB n q N cp (at') (e)]) rfl rfl rfl rfl rfl Body187 (rd_take_err n q N cp at' e (Bi (if (0 : Int) > (m : Int) then 0 else (m : Int))) hat hN hbig he) Ay lO (fun w h => Ai h Z0) ?_
 rintro v2 out2 ⟨rfl, rfl⟩
 refine Tr.m rfl rfl rfl ?_
 refine Tr.eX rfl rfl rfl rfl ?_
 refine Tr.eX rfl rfl rfl rfl ?_
 refine Tr.a rfl rfl rfl ?_
 refine Tr.a rfl rfl rfl ?_
 refine Tr.nil (Aa (Sat.seq (Sat.seq (Sat.region ?_))))
 refine Tr.m rfl rfl rfl ?_
 refine Tr.not rfl rfl rfl ?_
 refine Tr.nil (Aa ?_)
 refine Sat.cond_t rfl (rfl) ?_
 refine Sat.seq (Sat.region ?_)
 refine Tr.a rfl rfl rfl ?_
 refine Tr.nil (Aa (Sat.ret (Ao (Am ?_))))
 refine ⟨_, [RB n q N cp (at') (e)], Ae rfl rfl, (by intro b hb; rw [List.mem_singleton.1 hb]; exact mem0), Bz, ?_⟩
 exact ⟨rfl, rfl⟩

theorem rd_take64_more (n q N cp at' : Nat) (m : Nat) (hm0 : 0 < m) (hm : m ≤ 90000) (xs : List UInt8) (hx : xs.length = N) (hat : at' ≤ N) (hN : N ≤ cp) (hbig : N ≤ 1000000) (hk : N < at' + m) : Meets Tryz.prog 174 [ptr n 0, i64 (m : Int)] [n] (fun W => BlkOk W (RB n q N cp (at') (0)) ∧ Cb W q 0 (Ab xs) ∧ q ≠ n) (fun v out => v = .slice none 0 0 ∧ out = [RB n q N cp (at') (5)]) := by
 intro W hW
 have hkm : (Bi (if (0 : Int) > (m : Int) then 0 else (m : Int))).toNat = m := by
  rw [if_neg oM]
  simp only [Bi, UInt64.toNat_ofNat']
  omega
 refine A7 (hp0 := [RB n q N cp (at') (0)]) Tryz.func174 rfl 19 Tryz.ntmps174 rfl (HRep.one hW.1) ?_
 refine Sat.seq (Sat.region ?_)
 refine Tr.a rfl rfl rfl ?_
 refine Tr.nil (Aa (Sat.seq (Sat.region ?_)))
 refine Tr.m rfl rfl rfl ?_
 refine Tr.m rfl rfl rfl ?_
 refine Tr.max2 rfl rfl rfl rfl (rfl) ?_
 refine Tr.conv rfl rfl rfl Y3 Y48 (Bh _) ?_
 refine Tr.callL (L := [RB n q N cp (at') (0)]) rfl rfl rfl rfl rfl Body187 (rd_take_more n q N cp at' (Bi (if (0 : Int) > (m : Int) then 0 else (m : Int))) hat hN hbig (by rw [hkm]; exact hk)) Ay lO (fun w h => Ai h Z0) ?_
 rintro v2 out2 ⟨rfl, rfl⟩
 refine Tr.m rfl rfl rfl ?_
 refine Tr.eX rfl rfl rfl rfl ?_
 refine Tr.eX rfl rfl rfl rfl ?_
 refine Tr.a rfl rfl rfl ?_
 refine Tr.a rfl rfl rfl ?_
 refine Tr.nil (Aa (Sat.seq (Sat.seq (Sat.region ?_))))
 refine Tr.m rfl rfl rfl ?_
 refine Tr.not rfl rfl rfl ?_
 refine Tr.nil (Aa ?_)
 refine Sat.cond_t rfl (rfl) ?_
 refine Sat.seq (Sat.region ?_)
 refine Tr.a rfl rfl rfl ?_
 refine Tr.nil (Aa (Sat.ret (Ao (Am ?_))))
 refine ⟨_, [RB n q N cp (at') (5)], Ae rfl rfl, (by intro b hb; rw [List.mem_singleton.1 hb]; exact mem0), Bz, ?_⟩
 exact ⟨rfl, rfl⟩

theorem rd_take64_ok (n q N cp at' : Nat) (m : Nat) (hm0 : 0 < m) (hm : m ≤ 90000) (xs : List UInt8) (hx : xs.length = N) (hat : at' ≤ N) (hN : N ≤ cp) (hbig : N ≤ 1000000) (hk : at' + m ≤ N) (hN2 : N ≤ 90000) : Meets Tryz.prog 174 [ptr n 0, i64 (m : Int)] [n] (fun W => BlkOk W (RB n q N cp (at') (0)) ∧ Cb W q 0 (Ab xs) ∧ q ≠ n) (fun v out => ∃ q1 c1, v = .slice (some ⟨q1, 0, none⟩) m c1 ∧ m ≤ c1 ∧ out = [⟨q1, Ab ((xs.drop (at')).take (m)), 5, c1 * 1⟩, RB n q N cp (at' + m) (0)]) := by
 intro W hW
 have hkm : (Bi (if (0 : Int) > (m : Int) then 0 else (m : Int))).toNat = m := by
  rw [if_neg oM]
  simp only [Bi, UInt64.toNat_ofNat']
  omega
 refine A7 (hp0 := [RB n q N cp (at') (0)]) Tryz.func174 rfl 19 Tryz.ntmps174 rfl (HRep.one hW.1) ?_
 refine Sat.seq (Sat.region ?_)
 refine Tr.a rfl rfl rfl ?_
 refine Tr.nil (Aa (Sat.seq (Sat.region ?_)))
 refine Tr.m rfl rfl rfl ?_
 refine Tr.m rfl rfl rfl ?_
 refine Tr.max2 rfl rfl rfl rfl (rfl) ?_
 refine Tr.conv rfl rfl rfl Y3 Y48 (Bh _) ?_
 refine Tr.callL (L := [RB n q N cp (at') (0)]) rfl rfl rfl rfl rfl Body187 (rd_take_pos n q N cp at' (Bi (if (0 : Int) > (m : Int) then 0 else (m : Int))) hN hbig (by rw [hkm]; exact hk) (by rw [hkm]; exact hm0)) Ay lO (fun w h => Ai h Z0) ?_
 rintro v2 out2 ⟨rfl, rfl⟩
 rw [hkm]
 refine Tr.m rfl rfl rfl ?_
 refine Tr.eX rfl rfl rfl rfl ?_
 refine Tr.eX rfl rfl rfl rfl ?_
 refine Tr.a rfl rfl rfl ?_
 refine Tr.a rfl rfl rfl ?_
 refine Tr.nil (Aa (Sat.seq (Sat.seq (Sat.region ?_))))
 refine Tr.m rfl rfl rfl ?_
 refine Tr.not rfl rfl rfl ?_
 refine Tr.nil (Aa ?_)
 refine Sat.cond_f rfl (rfl) ?_
 refine Sat.skip (Aa (Sat.seq (Sat.region ?_)))
 refine Tr.m rfl rfl rfl ?_
 refine Tr.call rfl rfl rfl rfl Body186 (oct_grown (some ⟨q, at', none⟩) m (cp - at') 0 ((xs.drop (at')).take (m)) (by simp; omega) (fun e => by cases e) oM oM) (FreshRow.loose _ _ _ _) (fun w h => SeesP.of (Bk h (by simp; exact hW.2.2) (sees_cut hW.2.1 (at') (m)))) ?_
 rintro v1 out1 ⟨q1, c1, rfl, hc1, rfl⟩
 refine Tr.a rfl rfl rfl ?_
 refine Tr.nil (Aa (Sat.ret (Am ?_)))
 refine ⟨_, [⟨q1, Ab ((xs.drop (at')).take (m)), 5, c1 * 1⟩, RB n q N cp (at' + m) (0)], Ae rfl rfl, (by intro b hb; rcases List.mem_cons.1 hb with rfl | hb; exact mem0; rw [List.mem_singleton.1 hb]; exact mem1), (fun h => h.sublist (by simp [RB])), ?_⟩
 exact ⟨q1, c1, rfl, hc1, rfl⟩

theorem rd_blk_err (n q N cp at' : Nat) (e : Int) (xs : List UInt8) (hx : xs.length = N) (hat : at' ≤ N) (hN : N ≤ cp) (hbig : N ≤ 1000000) (he1' : ¬ (Bg xs at' e).2.2 = 0) (hN2 : N ≤ 90000) : Meets Tryz.prog 120 [ptr n 0] [n] (fun W => BlkOk W (RB n q N cp (at') (e)) ∧ Cb W q 0 (Ab xs) ∧ q ≠ n) (fun v out => v = .slice none 0 0 ∧ out = [RB n q N cp at' ((Bg xs at' e).2.2)]) := by
 intro W hW
 have hna := (numR_at xs at' e oM)
 rw [hx] at hna
 obtain ⟨a1, ha1⟩ : ∃ a1, a1 = (Bg xs at' e).2.1 := ⟨_, rfl⟩
 obtain ⟨e1, he1⟩ : ∃ e1, e1 = (Bg xs at' e).2.2 := ⟨_, rfl⟩
 obtain ⟨k1, hk1⟩ : ∃ k1, k1 = (Bg xs at' e).1 := ⟨_, rfl⟩
 have hNum := rd_Number n q N cp at' e xs hx hat hN hbig
 rw [← ha1, ← he1, ← hk1] at hNum
 rw [← ha1] at hna
 refine A7 (hp0 := [RB n q N cp (at') (e)]) Tryz.func120 rfl 33 Tryz.ntmps120 rfl (HRep.one hW.1) ?_
 refine Sat.seq (Sat.region ?_)
 refine Tr.a rfl rfl rfl ?_
 refine Tr.nil (Aa (Sat.seq (Sat.seq (Sat.region ?_))))
 refine Tr.m rfl rfl rfl ?_
 refine Tr.cV rfl rfl rfl rfl Body206 (rd_made n) (fun w h => rb_self (Ai h Z0)) ?_
 refine Tr.not rfl rfl rfl ?_
 refine Tr.nil (Aa ?_)
 refine Sat.cond_f rfl rfl ?_
 refine Sat.skip (Aa ?_)
 refine Sat.join (ι := Unit) (fun _u => ⟨[(0, ptr n 0), (3, i64 (at' : Int))], [⟨n, (rdr n q N cp at' e).cells, 219, 4⟩]⟩) (fun _u => True) ?_ ?_
 ·
  refine Sat.region ?_
  refine Tr.m rfl rfl rfl ?_
  refine Tr.nC rfl rfl rfl ?_
  refine Tr.fld rfl rfl rfl Tryz.underlying219 rfl Sz3 dE _ rfl ?_
  refine Tr.load1 rfl rfl rfl Y3 rfl Z0 (by exact Reader.get_fAt (by exact rdr_ok _ _ _ _ _ _)) ?_
  refine Tr.a rfl rfl rfl ?_
  refine Tr.nil (Aa ?_)
  refine ⟨(), trivial, Ar (wk1 rfl (wk1 rfl wk0)) (wh1 Z0 wh0) nD⟩
 ·
  intro _u hj
  skip
  refine Sat.seq (Sat.region ?_)
  refine Tr.m rfl rfl rfl ?_
  refine Tr.callL (L := [RB n q N cp (at') (e)]) rfl rfl rfl rfl rfl Body94 (hNum) Ay lO (fun w h => ⟨Ai h Z0, Bk h (by simp; exact hW.2.2) hW.2.1, hW.2.2⟩) ?_
  rintro v2 out2 ⟨rfl, rfl⟩
  refine Tr.a rfl rfl rfl ?_
  refine Tr.nil (Aa (Sat.seq (Sat.region ?_)))
  refine Tr.m rfl rfl rfl ?_
  refine Tr.m rfl rfl rfl ?_
  refine Tr.callL (L := [RB n q N cp (a1) (e1)]) rfl rfl rfl rfl rfl Body187 (rd_take_err n q N cp a1 e1 k1 hna hN hbig (by rw [he1]; exact he1')) Ay lO (fun w h => Ai h Z0) ?_
  rintro v2 out2 ⟨rfl, rfl⟩
  refine Tr.m rfl rfl rfl ?_
  refine Tr.eX rfl rfl rfl rfl ?_
  refine Tr.eX rfl rfl rfl rfl ?_
  refine Tr.a rfl rfl rfl ?_
  refine Tr.a rfl rfl rfl ?_
  refine Tr.nil (Aa (Sat.seq (Sat.seq (Sat.region ?_))))
  refine Tr.m rfl rfl rfl ?_
  refine Tr.not rfl rfl rfl ?_
  refine Tr.nil (Aa ?_)
  refine Sat.cond_t rfl (rfl) ?_
  refine Sat.seq (Sat.region ?_)
  refine Tr.m rfl rfl rfl ?_
  refine Tr.m rfl rfl rfl ?_
  refine Tr.m rfl rfl rfl ?_
  refine Tr.nC rfl rfl rfl ?_
  refine Tr.fld rfl rfl rfl Tryz.underlying219 rfl Sz32 dE _ rfl ?_
  refine Tr.load1 rfl rfl rfl Y32 rfl Z0 (by exact Reader.get_fErr (by exact rdr_ok _ _ _ _ _ _)) ?_
  refine Tr.callL (L := [RB n q N cp (a1) (e1)]) rfl rfl rfl rfl rfl Body190 (rd_fail n q N cp a1 e1 at' e1) Ay lO (fun w h => Ai h Z0) ?_
  rintro v3 out3 ⟨rfl, rfl⟩
  refine Tr.nil (Aa (Sat.seq (Sat.region ?_)))
  refine Tr.a rfl rfl rfl ?_
  refine Tr.nil (Aa (Sat.ret (Ao (Am ?_))))
  refine ⟨_, [RB n q N cp at' e1], Ae rfl rfl, (by intro b hb; rw [List.mem_singleton.1 hb]; exact mem0), Bz, ?_⟩
  exact ⟨rfl, by rw [he1]⟩

theorem rd_blk_more (n q N cp at' : Nat) (e : Int) (xs : List UInt8) (hx : xs.length = N) (hat : at' ≤ N) (hN : N ≤ cp) (hbig : N ≤ 1000000) (he1' : (Bg xs at' e).2.2 = 0) (hk : N < (Bg xs at' e).2.1 + ((Bg xs at' e).1).toNat) (hN2 : N ≤ 90000) : Meets Tryz.prog 120 [ptr n 0] [n] (fun W => BlkOk W (RB n q N cp (at') (e)) ∧ Cb W q 0 (Ab xs) ∧ q ≠ n) (fun v out => v = .slice none 0 0 ∧ out = [RB n q N cp (at') (5)]) := by
 intro W hW
 have hna := (numR_at xs at' e oM)
 rw [hx] at hna
 obtain ⟨a1, ha1⟩ : ∃ a1, a1 = (Bg xs at' e).2.1 := ⟨_, rfl⟩
 obtain ⟨e1, he1⟩ : ∃ e1, e1 = (Bg xs at' e).2.2 := ⟨_, rfl⟩
 obtain ⟨k1, hk1⟩ : ∃ k1, k1 = (Bg xs at' e).1 := ⟨_, rfl⟩
 have hNum := rd_Number n q N cp at' e xs hx hat hN hbig
 rw [← ha1, ← he1, ← hk1] at hNum
 rw [← ha1] at hna
 have he2 : e1 = 0 := by rw [he1]; exact he1'
 clear he1
 subst he2
 have hk1' : k1 = (Bg xs at' e).1 := hk1
 refine A7 (hp0 := [RB n q N cp (at') (e)]) Tryz.func120 rfl 33 Tryz.ntmps120 rfl (HRep.one hW.1) ?_
 refine Sat.seq (Sat.region ?_)
 refine Tr.a rfl rfl rfl ?_
 refine Tr.nil (Aa (Sat.seq (Sat.seq (Sat.region ?_))))
 refine Tr.m rfl rfl rfl ?_
 refine Tr.cV rfl rfl rfl rfl Body206 (rd_made n) (fun w h => rb_self (Ai h Z0)) ?_
 refine Tr.not rfl rfl rfl ?_
 refine Tr.nil (Aa ?_)
 refine Sat.cond_f rfl rfl ?_
 refine Sat.skip (Aa ?_)
 refine Sat.join (ι := Unit) (fun _u => ⟨[(0, ptr n 0), (3, i64 (at' : Int))], [⟨n, (rdr n q N cp at' e).cells, 219, 4⟩]⟩) (fun _u => True) ?_ ?_
 ·
  refine Sat.region ?_
  refine Tr.m rfl rfl rfl ?_
  refine Tr.nC rfl rfl rfl ?_
  refine Tr.fld rfl rfl rfl Tryz.underlying219 rfl Sz3 dE _ rfl ?_
  refine Tr.load1 rfl rfl rfl Y3 rfl Z0 (by exact Reader.get_fAt (by exact rdr_ok _ _ _ _ _ _)) ?_
  refine Tr.a rfl rfl rfl ?_
  refine Tr.nil (Aa ?_)
  refine ⟨(), trivial, Ar (wk1 rfl (wk1 rfl wk0)) (wh1 Z0 wh0) nD⟩
 ·
  intro _u hj
  skip
  refine Sat.seq (Sat.region ?_)
  refine Tr.m rfl rfl rfl ?_
  refine Tr.callL (L := [RB n q N cp (at') (e)]) rfl rfl rfl rfl rfl Body94 (hNum) Ay lO (fun w h => ⟨Ai h Z0, Bk h (by simp; exact hW.2.2) hW.2.1, hW.2.2⟩) ?_
  rintro v2 out2 ⟨rfl, rfl⟩
  refine Tr.a rfl rfl rfl ?_
  refine Tr.nil (Aa (Sat.seq (Sat.region ?_)))
  refine Tr.m rfl rfl rfl ?_
  refine Tr.m rfl rfl rfl ?_
  refine Tr.callL (L := [RB n q N cp (a1) (0)]) rfl rfl rfl rfl rfl Body187 (rd_take_more n q N cp a1 k1 hna hN hbig (by rw [ha1, hk1]; exact hk)) Ay lO (fun w h => Ai h Z0) ?_
  rintro v2 out2 ⟨rfl, rfl⟩
  refine Tr.m rfl rfl rfl ?_
  refine Tr.eX rfl rfl rfl rfl ?_
  refine Tr.eX rfl rfl rfl rfl ?_
  refine Tr.a rfl rfl rfl ?_
  refine Tr.a rfl rfl rfl ?_
  refine Tr.nil (Aa (Sat.seq (Sat.seq (Sat.region ?_))))
  refine Tr.m rfl rfl rfl ?_
  refine Tr.not rfl rfl rfl ?_
  refine Tr.nil (Aa ?_)
  refine Sat.cond_t rfl (rfl) ?_
  refine Sat.seq (Sat.region ?_)
  refine Tr.m rfl rfl rfl ?_
  refine Tr.m rfl rfl rfl ?_
  refine Tr.m rfl rfl rfl ?_
  refine Tr.nC rfl rfl rfl ?_
  refine Tr.fld rfl rfl rfl Tryz.underlying219 rfl Sz32 dE _ rfl ?_
  refine Tr.load1 rfl rfl rfl Y32 rfl Z0 (by exact Reader.get_fErr (by exact rdr_ok _ _ _ _ _ _)) ?_
  refine Tr.callL (L := [RB n q N cp (a1) (5)]) rfl rfl rfl rfl rfl Body190 (rd_fail n q N cp a1 5 at' 5) Ay lO (fun w h => Ai h Z0) ?_
  rintro v3 out3 ⟨rfl, rfl⟩
  refine Tr.nil (Aa (Sat.seq (Sat.region ?_)))
  refine Tr.a rfl rfl rfl ?_
  refine Tr.nil (Aa (Sat.ret (Ao (Am ?_))))
  refine ⟨_, [RB n q N cp (at') (5)], Ae rfl rfl, (by intro b hb; rw [List.mem_singleton.1 hb]; exact mem0), Bz, ?_⟩
  exact ⟨rfl, rfl⟩

theorem sees_cutP {w : World} {q cp N a k : Nat} {xs : List UInt8} (h : Cb w q 0 (Ab xs)) (hx : xs.length = N) (hN : N ≤ cp) : SeesP w (some ⟨q, if cp = a then 0 else 0 + a * 1, none⟩) (Ab ((xs.drop a).take k)) := fun j v hj => by
  have hc := sees_cut h a k j v hj
  have hlt : j < (Ab ((xs.drop a).take k)).length := (List.getElem?_eq_some_iff.1 hj).1
  simp only [Ab, List.length_map, List.length_take, List.length_drop] at hlt
  refine ⟨q, a, ?_, hc⟩
  rw [if_neg oM, Nat.zero_add, Nat.mul_one]
def blkR (xs : List UInt8) (a : Nat) (e : Int) : Option (List UInt8) × Nat × Int :=
  if ¬ (Bg xs a e).2.2 = 0 then (none, a, (Bg xs a e).2.2) else if xs.length < (Bg xs a e).2.1 + (Bg xs a e).1.toNat then (none, a, 5) else (some ((xs.drop (Bg xs a e).2.1).take (Bg xs a e).1.toNat), (Bg xs a e).2.1 + (Bg xs a e).1.toNat, 0)

theorem rd_blk_ok (n q N cp at' : Nat) (e : Int) (xs : List UInt8) (hx : xs.length = N) (hat : at' ≤ N) (hN : N ≤ cp) (hbig : N ≤ 1000000) (he1' : (Bg xs at' e).2.2 = 0) (hk : (Bg xs at' e).2.1 + ((Bg xs at' e).1).toNat ≤ N) (hN2 : N ≤ 90000) : Meets Tryz.prog 120 [ptr n 0] [n] (fun W => BlkOk W (RB n q N cp (at') (e)) ∧ Cb W q 0 (Ab xs) ∧ q ≠ n) (fun v out => ∃ q1 c1, v = .slice (some ⟨q1, 0, none⟩) (Bg xs at' e).1.toNat c1 ∧ (Bg xs at' e).1.toNat ≤ c1 ∧ out = [⟨q1, Ab ((xs.drop ((Bg xs at' e).2.1)).take ((Bg xs at' e).1.toNat)), 5, c1 * 1⟩, RB n q N cp ((Bg xs at' e).2.1 + (Bg xs at' e).1.toNat) (0)]) := by
 intro W hW
 have hna := (numR_at xs at' e oM)
 rw [hx] at hna
 obtain ⟨a1, ha1⟩ : ∃ a1, a1 = (Bg xs at' e).2.1 := ⟨_, rfl⟩
 obtain ⟨e1, he1⟩ : ∃ e1, e1 = (Bg xs at' e).2.2 := ⟨_, rfl⟩
 obtain ⟨k1, hk1⟩ : ∃ k1, k1 = (Bg xs at' e).1 := ⟨_, rfl⟩
 have hNum := rd_Number n q N cp at' e xs hx hat hN hbig
 rw [← ha1, ← he1, ← hk1] at hNum
 rw [← ha1] at hna
 have he2 : e1 = 0 := by rw [he1]; exact he1'
 clear he1
 subst he2
 have hk1' : k1 = (Bg xs at' e).1 := hk1
 have hk9 : a1 + k1.toNat ≤ N := by rw [ha1, hk1]; exact hk
 refine A7 (hp0 := [RB n q N cp (at') (e)]) Tryz.func120 rfl 33 Tryz.ntmps120 rfl (HRep.one hW.1) ?_
 refine Sat.seq (Sat.region ?_)
 refine Tr.a rfl rfl rfl ?_
 refine Tr.nil (Aa (Sat.seq (Sat.seq (Sat.region ?_))))
 refine Tr.m rfl rfl rfl ?_
 refine Tr.cV rfl rfl rfl rfl Body206 (rd_made n) (fun w h => rb_self (Ai h Z0)) ?_
 refine Tr.not rfl rfl rfl ?_
 refine Tr.nil (Aa ?_)
 refine Sat.cond_f rfl rfl ?_
 refine Sat.skip (Aa ?_)
 refine Sat.join (ι := Unit) (fun _u => ⟨[(0, ptr n 0), (3, i64 (at' : Int))], [⟨n, (rdr n q N cp at' e).cells, 219, 4⟩]⟩) (fun _u => True) ?_ ?_
 ·
  refine Sat.region ?_
  refine Tr.m rfl rfl rfl ?_
  refine Tr.nC rfl rfl rfl ?_
  refine Tr.fld rfl rfl rfl Tryz.underlying219 rfl Sz3 dE _ rfl ?_
  refine Tr.load1 rfl rfl rfl Y3 rfl Z0 (by exact Reader.get_fAt (by exact rdr_ok _ _ _ _ _ _)) ?_
  refine Tr.a rfl rfl rfl ?_
  refine Tr.nil (Aa ?_)
  refine ⟨(), trivial, Ar (wk1 rfl (wk1 rfl wk0)) (wh1 Z0 wh0) nD⟩
 ·
  intro _u hj
  skip
  refine Sat.seq (Sat.region ?_)
  refine Tr.m rfl rfl rfl ?_
  refine Tr.callL (L := [RB n q N cp (at') (e)]) rfl rfl rfl rfl rfl Body94 (hNum) Ay lO (fun w h => ⟨Ai h Z0, Bk h (by simp; exact hW.2.2) hW.2.1, hW.2.2⟩) ?_
  rintro v2 out2 ⟨rfl, rfl⟩
  refine Tr.a rfl rfl rfl ?_
  refine Tr.nil (Aa (Sat.seq (Sat.region ?_)))
  refine Tr.m rfl rfl rfl ?_
  refine Tr.m rfl rfl rfl ?_
  refine Tr.callL (L := [RB n q N cp (a1) (0)]) rfl rfl rfl rfl rfl Body187 (rd_take_ok n q N cp a1 k1 hna hN hbig (by rw [ha1, hk1]; exact hk)) Ay lO (fun w h => Ai h Z0) ?_
  rintro v2 out2 ⟨rfl, rfl⟩
  refine Tr.m rfl rfl rfl ?_
  refine Tr.eX rfl rfl rfl rfl ?_
  refine Tr.eX rfl rfl rfl rfl ?_
  refine Tr.a rfl rfl rfl ?_
  refine Tr.a rfl rfl rfl ?_
  refine Tr.nil (Aa (Sat.seq (Sat.seq (Sat.region ?_))))
  refine Tr.m rfl rfl rfl ?_
  refine Tr.not rfl rfl rfl ?_
  refine Tr.nil (Aa ?_)
  refine Sat.cond_f rfl (rfl) ?_
  refine Sat.skip (Aa (Sat.seq (Sat.region ?_)))
  refine Tr.m rfl rfl rfl ?_
  refine Tr.call rfl rfl rfl rfl Body186 (oct_grown _ k1.toNat (cp - a1) 0 ((xs.drop (a1)).take (k1.toNat)) (by simp; omega) (fun e => by cases e) oM oM) (FreshRow.loose _ _ _ _) (fun w h => sees_cutP (Bk h (by simp; exact hW.2.2) hW.2.1) hx hN) ?_
  rintro v1 out1 ⟨q1, c1, rfl, hc1, rfl⟩
  refine Tr.a rfl rfl rfl ?_
  refine Tr.nil (Aa (Sat.ret (Am ?_)))
  refine ⟨_, [⟨q1, Ab ((xs.drop (a1)).take (k1.toNat)), 5, c1 * 1⟩, RB n q N cp (a1 + k1.toNat) 0], Ae rfl rfl, (by intro b hb; rcases List.mem_cons.1 hb with rfl | hb; exact mem0; rw [List.mem_singleton.1 hb]; exact mem1), (fun h => h.sublist (by simp [RB])), ?_⟩
  rw [← ha1, ← hk1]
  exact ⟨q1, c1, rfl, hc1, rfl⟩

end Go.Proofs.YtdifpjmfabhpiaaGreat
end

section
namespace Go.Proofs.YtdifpjmfabhpiaaGreat
open Go Hw

theorem clone_bytes (a : Addr) (n c : Nat) (l : List UInt8) (hl : l.length = n) (hn : n ≤ 90000) : Meets Tryz.prog 223 [.slice (some a) n c] [] (fun W => SeesP W (some a) (Ab l)) (fun v out => FreshRow v out (Ab l) 5 n 1) := by
 intro W hW
 refine An Tryz.func223 rfl 8 Tryz.ntmps223 rfl ?_
 refine Sat.seq (Sat.region ?_)
 refine Tr.a rfl rfl rfl ?_
 refine Tr.nil (Aa (Sat.seq (Sat.seq (Sat.region ?_))))
 refine Tr.m rfl rfl rfl ?_
 refine Tr.eqNilS (r := false) rfl rfl rfl rfl Y58 rfl ?_
 refine Tr.nil (Aa ?_)
 refine Sat.cond_f rfl (rfl) ?_
 refine Sat.skip (Aa (Sat.seq (Sat.region ?_)))
 refine Tr.mkRow (z := u8 0) [] [] rfl rfl rfl Y58 Sz5 Zr5 rfl rfl (by intro v hv; cases hv) dE rfl ?_
 intro q0
 refine Tr.m rfl rfl rfl ?_
 refine Tr.appendSl (z := u8 0) (by' := 1) (Ab l) rfl rfl rfl rfl rfl Y58 Y58 Sz5 Zr5 (by unfold By; kernel_rfl) rfl (fun w h => Aw h rfl hW) (fun e => by cases e) (by simp [Ab, isCell, u8]) Ay rfl rfl oM oM oM (by simp [Ab, hl]) ?_
 intro q1 c1 hq1
 refine Tr.a rfl rfl rfl ?_
 refine Tr.nil (Aa (Sat.ret (Am ?_)))
 refine ⟨_, [⟨q1, [] ++ Ab l, 5, c1 * 1⟩], Ae rfl rfl, (by intro b hb; rw [List.mem_singleton.1 hb]; exact mem0), Bz, ⟨q1, c1, by rw [Nat.zero_add], by omega, rfl⟩⟩

def bodyB (B : Block) (ls : List (List UInt8)) (ds : List UInt8) : List UInt8 := B.fWriter ++ Au B.fSeq ++ B.fPrev ++ Au (UInt64.ofNat B.fLinks.n) ++ ls.flatten ++ (Au (UInt64.ofNat B.fData.n) ++ ds)
theorem word_nat {n : Nat} (h : n ≤ 1000000) : Bi (n : Int) = UInt64.ofNat n := by simp only [Bi]; congr 1; omega
theorem A1 {n : Nat} (h : n ≤ 1000000) : (UInt64.ofNat n).toNat = n := by rw [UInt64.toNat_ofNat', Nat.mod_eq_of_lt oM]
theorem flatten_take_step {ls : List (List UInt8)} {k : Nat} (hk : k < ls.length) : (ls.take (k + 1)).flatten = (ls.take k).flatten ++ ls.getD k [] := by
  rw [List.take_succ_eq_append_getElem hk, List.flatten_append]
  simp [List.getD, hk]
theorem Bn {ls : List (List UInt8)} (h : ∀ l ∈ ls, l.length = 32) {k : Nat} (hk : k ≤ ls.length) : (ls.take k).flatten.length = k * 32 := by
  rw [flatten_len 32 _ (fun l hl => h l (List.mem_of_mem_take hl)), List.length_take, Nat.min_eq_left hk]

theorem block_body (B : Block) (hB : B.ok) (ls : List (List UInt8)) (ds : List UInt8) (hn : B.fLinks.n ≤ 40) (hd : B.fData.n ≤ 2000) : Meets Tryz.prog 200 [agg B.cells] [] (fun W => RowsAt W B.fLinks 32 ls ∧ BytesAt W B.fData ds) (fun v out => ∃ N, N = (bodyB B ls ds).length ∧ N ≤ 4000 ∧ FreshRow v out (Ab (bodyB B ls ds)) 5 N 1) := by
 intro W hW
 have hz1 := A8 B.fSeq.toNat
 have hz2 := A8 (UInt64.ofNat B.fLinks.n).toNat
 have hz3 := A8 B.fData.n
 have hw2 := word_nat (n := B.fLinks.n) oM
 have hll := hW.1.len
 refine An Tryz.func200 rfl 41 Tryz.ntmps200 rfl ?_
 refine Sat.seq (Sat.region ?_)
 refine Tr.boxA rfl rfl ?_
 intro n1 hn1 hf1
 refine Tr.a rfl rfl rfl ?_
 refine Tr.nil (Aa (Sat.seq (Sat.region ?_)))
 refine Tr.fld rfl rfl rfl Y79 rfl Sz75 dE _ rfl ?_
 refine Tr.sliceArr rfl rfl rfl Y75 Sz5 ?_
 refine Tr.call rfl rfl rfl rfl Body223 (clone_bytes ⟨n1, 0, none⟩ 32 32 B.fWriter hB.l_fWriter oM) (FreshRow.loose _ _ _ _) (fun W2 W2h => (SeesP.of (sees_part W2h Z0 (Block.see_fWriter hB)))) ?_
 rintro v1 out1 ⟨q1, c1, rfl, hc1, rfl⟩
 refine Tr.a rfl rfl rfl ?_
 refine Tr.nil (Aa (Sat.seq (Sat.region ?_)))
 refine Tr.m rfl rfl rfl ?_
 refine Tr.fld rfl rfl rfl Y79 rfl B1 dE _ rfl ?_
 refine Tr.load1 rfl rfl rfl Y48 rfl Z1 (by exact Block.get_fSeq zA) ?_
 refine Tr.call rfl rfl rfl rfl Body106 (oct_Number none 0 0 [] (B.fSeq) rfl (fun _ => rfl) oM) (FreshRow.loose _ _ _ _) (fun _ _ => SeesP.nil) ?_
 rintro v2 out2 ⟨q2, c2, rfl, hc2, rfl⟩
 refine Tr.appendSl (z := u8 0) (by' := 1) (Ab ([] ++ Au B.fSeq)) rfl rfl rfl rfl rfl Y58 Y58 Sz5 Zr5 (by unfold By; kernel_rfl) rfl (fun w h => SeesP.of (Ap h mem0)) (fun e => by cases e) (Bc _) (rem_there Ay) rfl (by simp only [Ab, List.length_map, List.length_append, Aq, hB.l_fWriter, hB.l_fPrev, List.length_nil]; try omega) hc1 oM oM (by simp [Aq]) ?_
 intro q3 c3 hq3
 refine Tr.a rfl rfl rfl ?_
 refine Tr.nil (Aa (Sat.seq (Sat.region ?_)))
 refine Tr.m rfl rfl rfl ?_
 refine Tr.fld rfl rfl rfl Y79 rfl Bb dE _ rfl ?_
 refine Tr.sliceArr rfl rfl rfl Y50 Sz5 ?_
 refine Tr.appendSl (z := u8 0) (by' := 1) (Ab B.fPrev) rfl rfl rfl rfl rfl Y58 Y58 Sz5 Zr5 (by unfold By; kernel_rfl) rfl (fun W2 W2h => (SeesP.of (sees_part W2h Z2 (Block.see_fPrev hB)))) (fun e => by cases e) (Bc _) Ay rfl (by simp only [Ab, List.length_map, List.length_append, Aq, hB.l_fWriter, hB.l_fPrev, List.length_nil]; try omega) hq3 oM oM (by simp [hB.l_fPrev]) ?_
 intro q5 c5 hq5
 refine Tr.a rfl rfl rfl ?_
 refine Tr.nil (Aa (Sat.seq (Sat.region ?_)))
 refine Tr.m rfl rfl rfl ?_
 refine Tr.fld rfl rfl rfl Y79 rfl Sz51 dE _ rfl ?_
 refine Tr.load1 rfl rfl rfl Y51 rfl Z2 (by exact Block.get_fLinks zA) ?_
 refine Tr.lenSl rfl rfl rfl Y51 ?_
 refine Tr.conv rfl rfl rfl Y3 Y48 (Bh _) ?_
 rw [hw2]
 refine Tr.call rfl rfl rfl rfl Body106 (oct_Number none 0 0 [] (UInt64.ofNat B.fLinks.n) rfl (fun _ => rfl) oM) (FreshRow.loose _ _ _ _) (fun _ _ => SeesP.nil) ?_
 rintro v4 out4 ⟨q4, c4, rfl, hc4, rfl⟩
 refine Tr.appendSl (z := u8 0) (by' := 1) (Ab ([] ++ Au (UInt64.ofNat B.fLinks.n))) rfl rfl rfl rfl rfl Y58 Y58 Sz5 Zr5 (by unfold By; kernel_rfl) rfl (fun w h => SeesP.of (Ap h mem0)) (fun e => by cases e) (Bc _) (rem_there Ay) rfl (by simp only [Ab, List.length_map, List.length_append, Aq, hB.l_fWriter, hB.l_fPrev, List.length_nil]; try omega) hq5 oM oM (by simp [Aq]) ?_
 intro q6 c6 hq6
 refine Tr.a rfl rfl rfl ?_
 refine Tr.nil (Aa (Sat.seq (Sat.seq (Sat.region ?_))))
 refine Tr.fld rfl rfl rfl Y79 rfl Sz51 dE _ rfl ?_
 refine Tr.load1 rfl rfl rfl Y51 rfl Z3 (by exact Block.get_fLinks zA) ?_
 refine Tr.lenSl rfl rfl rfl Y51 ?_
 refine Tr.m rfl rfl rfl ?_
 refine Tr.nil (Aa (Sat.block ?_))
 refine Sat.loop (ι := Nat × Nat × Nat) (fun p => ⟨[(1, ptr n1 0), (3, .slice (some ⟨p.2.1, 0, none⟩) (32 + (0 + szN B.fSeq.toNat) + 32 + (0 + szN (UInt64.ofNat B.fLinks.n).toNat) + 32 * p.1) p.2.2), (26, B.fLinks.v), (27, i64 (B.fLinks.n : Int)), (28, i64 (p.1 : Int))], [⟨p.2.1, Ab (B.fWriter ++ Au B.fSeq ++ B.fPrev ++ Au (UInt64.ofNat B.fLinks.n) ++ (ls.take p.1).flatten), 5, p.2.2 * 1⟩, ⟨n1, B.cells, 79, B.cells.length⟩]⟩) (fun p => p.1 ≤ B.fLinks.n ∧ 32 + (0 + szN B.fSeq.toNat) + 32 + (0 + szN (UInt64.ofNat B.fLinks.n).toNat) + 32 * p.1 ≤ p.2.2) (fun p => B.fLinks.n - p.1) ((0, q6, c6)) ?_ ?_ ?_
 · exact ⟨Nat.zero_le _, by simp only []; omega⟩
 · exact Ar (wk1 rfl (wk1 rfl (wk1 rfl (wk1 rfl (wk1 rfl wk0))))) (wh1 (by simp only [List.take_zero, List.flatten_nil, List.append_nil, Ab, List.map_append, List.nil_append]; exact mem0) (wh1 Z3 wh0)) nD
 ·
  rintro p ⟨hp1, hp2⟩
  refine Sat.seq (Sat.region ?_)
  refine Tr.lss rfl rfl rfl rfl rfl ?_
  refine Tr.nil (Aa (Sat.seq ?_))
  refine Sat.condP rfl (fun hc0 => ?_) (fun hc0 => ?_)
  ·
   have hp3 : p.1 < B.fLinks.n := by omega
   obtain ⟨b, o, hbp, hbs⟩ := hW.1.see.at (by rw [B7 hW.1.row]; omega)
   have hrk : (ls.getD p.1 []).length = 32 := getD_len hW.1.row oM
   refine Sat.skip (Aa (Sat.seq (Sat.block (Sat.seq (Sat.region ?_)))))
   refine Tr.idxSlP 32 rfl rfl rfl hbp rfl Y51 Bb p.1 rfl oM ?_
   refine Tr.loadEN (Ab (ls.getD p.1 [])) rfl rfl rfl Y50 rfl Bb sP (by rw [Ab, List.length_map]; exact hrk) (sees_row hW.1.row hbs oM) ?_
   refine Tr.alloc (cs := (Ab (List.replicate 32 0))) rfl Zr50 rfl ?_
   intro n5 hn5 hf5
   refine Tr.sA rfl rfl rfl rfl zE Bb (by (rw [Ab, List.length_map]; assumption)) Z0 sP zU ?_
   refine Tr.nil (Aa (Sat.region ?_))
   refine Tr.m rfl rfl rfl ?_
   refine Tr.sliceArr rfl rfl rfl Y50 Sz5 ?_
   refine Tr.appendSl (z := u8 0) (by' := 1) (Ab (ls.getD p.1 [])) rfl rfl rfl rfl rfl Y58 Y58 Sz5 Zr5 (by unfold By; kernel_rfl) rfl (fun w h => SeesP.of (Ap h mem0)) (fun e => by cases e) (Bc _) (rem_there Ay) rfl (by simp only [Ab, List.length_map, List.length_append, Aq, hB.l_fWriter, hB.l_fPrev, Bn hW.1.row (show p.1 ≤ ls.length by omega)]; omega) hp2 oM oM (by rw [Ab, List.length_map, hrk]) ?_
   intro q7 c7 hq7
   refine Tr.a rfl rfl rfl ?_
   refine Tr.nil (B2 (Aa (Sat.region ?_)))
   refine Tr.aI rfl rfl rfl rfl oM ?_
   refine Tr.m rfl rfl rfl ?_
   refine Tr.nil (Aa ?_)
   exact ⟨(p.1 + 1, q7, c7), ⟨by simp only []; omega, by simp only []; omega⟩, by simp only []; omega, Ar (wk1 rfl (wk1 (by rw [show 32 + (0 + szN B.fSeq.toNat) + 32 + (0 + szN (UInt64.ofNat B.fLinks.n).toNat) + 32 * (p.1 + 1) = 32 + (0 + szN B.fSeq.toNat) + 32 + (0 + szN (UInt64.ofNat B.fLinks.n).toNat) + 32 * p.1 + 32 by omega]; rfl) (wk1 rfl (wk1 rfl (wk1 rfl wk0))))) (wh1 (by rw [flatten_take_step oM, ← List.append_assoc]; simp only [Ab, List.map_append]; exact mem0) (wh1 Z2 wh0)) nD⟩
  ·
   have hp3 : p.1 = B.fLinks.n := by omega
   refine Sat.exit (Bf (Bf (bl_h (Aa (Sat.seq (Sat.region ?_))))))
   refine Tr.m rfl rfl rfl ?_
   refine Tr.fld rfl rfl rfl Y79 rfl Sz58 dE _ rfl ?_
   refine Tr.load1 rfl rfl rfl Y58 rfl Z1 (by exact Block.get_fData zA) ?_
   refine Tr.call rfl rfl rfl rfl Body121 (oct_Block none B.fData.p 0 0 B.fData.n B.fData.c [] ds rfl hW.2.len (fun _ => rfl) (fun e => by have := hW.2.nil e; have := hW.2.cap; omega) oM oM) (FreshRow.loose _ _ _ _) (fun w h => ⟨SeesP.nil, Aw h rfl hW.2.see⟩) ?_
   rintro v9 out9 ⟨q9, c9, rfl, hc9, rfl⟩
   refine Tr.appendSl (z := u8 0) (by' := 1) (Ab ([] ++ Au (UInt64.ofNat B.fData.n) ++ ds)) rfl rfl rfl rfl rfl Y58 Y58 Sz5 Zr5 (by unfold By; kernel_rfl) rfl (fun w h => SeesP.of (Ap h mem0)) (fun e => by cases e) (Bc _) (rem_there Ay) rfl (by simp only [Ab, List.length_map, List.length_append, Aq, hB.l_fWriter, hB.l_fPrev, Bn hW.1.row (show p.1 ≤ ls.length by omega)]; omega) hp2 oM oM (by simp [Aq, hW.2.len, A1 (show B.fData.n ≤ 1000000 by omega)]) ?_
   intro q8 c8 hq8
   refine Tr.a rfl rfl rfl ?_
   refine Tr.nil (Aa (Sat.ret (Am ?_)))
   have hN : 32 + (0 + szN B.fSeq.toNat) + 32 + (0 + szN (UInt64.ofNat B.fLinks.n).toNat) + 32 * p.1 + (0 + szN B.fData.n + B.fData.n) = (bodyB B ls ds).length := by
    have hfl := Bn hW.1.row (Nat.le_refl ls.length)
    rw [List.take_length] at hfl
    simp only [bodyB, List.length_append, Aq, hB.l_fWriter, hB.l_fPrev, hfl, hW.2.len, A1 (show B.fData.n ≤ 1000000 by omega)]
    omega
   refine ⟨_, [⟨q8, Ab (bodyB B ls ds), 5, c8 * 1⟩], Ae rfl rfl, (by intro b hb; rw [List.mem_singleton.1 hb, show bodyB B ls ds = B.fWriter ++ Au B.fSeq ++ B.fPrev ++ Au (UInt64.ofNat B.fLinks.n) ++ (ls.take p.1).flatten ++ (Au (UInt64.ofNat B.fData.n) ++ ds) by rw [bodyB, List.take_of_length_le oM]]; simp only [Ab, List.map_append, List.append_assoc, List.nil_append]; exact mem0), Bz, ⟨_, rfl, by omega, q8, c8, by rw [← hN], by omega, rfl⟩⟩

theorem check_small {B : Block} {ls : List (List UInt8)} (h : bcheck B ls = 0) : B.fLinks.n ≤ 16 ∧ B.fData.n ≤ 512 := by
  unfold bcheck at h
  by_cases h1 : bheadB B = true
  · rw [if_pos h1] at h; cases h
  · unfold bheadB at h1
    simp at h1
    omega
def bytesB (B : Block) (ls : List (List UInt8)) (ds : List UInt8) : List UInt8 := bodyB B ls ds ++ B.fSig

theorem body_small (B : Block) (hB : B.ok) (ls : List (List UInt8)) (ds : List UInt8) (hr : ∀ l ∈ ls, l.length = 32) (hl : ls.length = B.fLinks.n) (hd : ds.length = B.fData.n) (hn : B.fLinks.n ≤ 40) (hd2 : B.fData.n ≤ 2000) : (bodyB B ls ds).length ≤ 4000 := by
  have hz1 := A8 B.fSeq.toNat
  have hz2 := A8 (UInt64.ofNat B.fLinks.n).toNat
  have hz3 := A8 (UInt64.ofNat B.fData.n).toNat
  have hfl := Bn hr (Nat.le_refl ls.length)
  rw [List.take_length] at hfl
  simp only [bodyB, List.length_append, Aq, hB.l_fWriter, hB.l_fPrev, hfl, hd]
  omega

theorem bytes_bad (B : Block) (hB : B.ok) (ls : List (List UInt8)) (ds : List UInt8) (hc : ¬ bcheck B ls = 0) : Meets Tryz.prog 111 [agg B.cells] [] (fun W => RowsAt W B.fLinks 32 ls ∧ BytesAt W B.fData ds) (fun v out => v = .tuple #[.slice none 0 0, i64 (bcheck B ls)] ∧ out = []) := by
 intro W hW
 refine An Tryz.func111 rfl 15 Tryz.ntmps111 rfl ?_
 refine Sat.seq (Sat.region ?_)
 refine Tr.boxA rfl rfl ?_
 intro n1 hn1 hf1
 refine Tr.a rfl rfl rfl ?_
 refine Tr.a rfl rfl rfl ?_
 refine Tr.nil (Aa (Sat.seq (Sat.seq (Sat.region ?_))))
 refine Tr.lA rfl rfl rfl Y79 rfl Sz79 Z0 (Block.length zA) ?_
 refine Tr.cV rfl rfl rfl rfl Body82 (block_check B hB ls) (fun w h => rows_ext h rfl hW.1) ?_
 refine Tr.a rfl rfl rfl ?_
 refine Tr.nil (Aa (Sat.seq (Sat.region ?_)))
 refine Tr.m rfl rfl rfl ?_
 refine Tr.nei rfl rfl rfl rfl (show (!decide _) = true from congrArg not (decide_eq_false (hc))) ?_
 refine Tr.nil (Aa ?_)
 refine Sat.cond_t rfl (rfl) ?_
 refine Sat.seq (Sat.region ?_)
 refine Tr.m rfl rfl rfl ?_
 refine Tr.a rfl rfl rfl ?_
 refine Tr.a rfl rfl rfl ?_
 refine Tr.nil (Aa (Sat.ret (Ao (Am ?_))))
 refine ⟨_, [], Ba rfl rfl rfl, sP, sP, ?_, rfl⟩
 rfl

theorem bytes_ok (B : Block) (hB : B.ok) (ls : List (List UInt8)) (ds : List UInt8) (hc : bcheck B ls = 0) : Meets Tryz.prog 111 [agg B.cells] [] (fun W => RowsAt W B.fLinks 32 ls ∧ BytesAt W B.fData ds) (fun v out => ∃ q c N, N = (bytesB B ls ds).length ∧ N ≤ 5000 ∧ v = .tuple #[.slice (some ⟨q, 0, none⟩) N c, i64 0] ∧ N ≤ c ∧ out = [⟨q, Ab (bytesB B ls ds), 5, c * 1⟩]) := by
 intro W hW
 have hsm := check_small hc
 refine An Tryz.func111 rfl 15 Tryz.ntmps111 rfl ?_
 refine Sat.seq (Sat.region ?_)
 refine Tr.boxA rfl rfl ?_
 intro n1 hn1 hf1
 refine Tr.a rfl rfl rfl ?_
 refine Tr.a rfl rfl rfl ?_
 refine Tr.nil (Aa (Sat.seq (Sat.seq (Sat.region ?_))))
 refine Tr.lA rfl rfl rfl Y79 rfl Sz79 Z0 (Block.length zA) ?_
 refine Tr.cV rfl rfl rfl rfl Body82 (block_check B hB ls) (fun w h => rows_ext h rfl hW.1) ?_
 refine Tr.a rfl rfl rfl ?_
 refine Tr.nil (Aa (Sat.seq (Sat.region ?_)))
 refine Tr.m rfl rfl rfl ?_
 refine Tr.nei rfl rfl rfl rfl (show (!decide _) = false from congrArg not (decide_eq_true (hc))) ?_
 refine Tr.nil (Aa ?_)
 refine Sat.cond_f rfl (rfl) ?_
 refine Sat.skip (Aa (Sat.seq ?_))
 refine Sat.draw [(1, 0), (0, 2), (0, 3), (3, 1), (4, 4), (0, 5), (0, 6)] Bv zK ?_
 refine Tr.lA rfl rfl rfl Y79 rfl Sz79 Z0 (Block.length zA) ?_
 refine Tr.fld rfl rfl rfl Y79 rfl Sz77 dE _ rfl ?_
 refine Tr.sliceArr rfl rfl rfl Y77 Sz5 ?_
 refine Tr.call rfl rfl rfl rfl Body200 (block_body B hB ls ds oM oM) (fun l hl => by obtain ⟨v, out, h1, h2⟩ := FreshRow.loose (Ab (bodyB B ls ds)) 5 (bodyB B ls ds).length 1 l hl; exact ⟨v, out, ⟨_, rfl, body_small B hB ls ds hW.1.row hW.1.len hW.2.len oM oM, h1⟩, h2⟩) (fun w h => ⟨rows_ext h rfl hW.1, bytes_ext h rfl hW.2⟩) ?_
 rintro v1 out1 ⟨N1, hN1, hN2, q1, c1, rfl, hc1, rfl⟩
 refine Tr.appendSl (z := u8 0) (by' := 1) (Ab B.fSig) rfl rfl rfl rfl rfl Y58 Y58 Sz5 Zr5 (by unfold By; kernel_rfl) rfl (fun W2 W2h => (SeesP.of (sees_part W2h Z1 (Block.see_fSig hB)))) (fun e => by cases e) (Bc _) Ay rfl (by rw [Ab, List.length_map, hN1, Nat.mul_one]) hc1 oM oM (by simp [hB.l_fSig]) ?_
 intro q2 c2 hq2
 refine Tr.a rfl rfl rfl ?_
 refine Tr.a rfl rfl rfl ?_
 refine Tr.nil (Aa (Sat.ret (Am ?_)))
 refine ⟨_, [⟨q2, Ab (bytesB B ls ds), 5, c2 * 1⟩], Ba rfl rfl rfl, (by intro b hb; rw [List.mem_singleton.1 hb, bytesB]; simp only [Ab, List.map_append]; exact mem0), Bz, ⟨q2, c2, N1 + 64, by rw [hN1, bytesB, List.length_append, hB.l_fSig], by omega, rfl, hq2, rfl⟩⟩

end Go.Proofs.YtdifpjmfabhpiaaGreat
end

section
namespace Go.Proofs.YtdifpjmfabhpiaaGreat
open Go Hw

theorem digests_any2 (p q : Option Addr) (n m c1 c2 : Nat) (xs ys : List (List UInt8)) (hx : ∀ l ∈ xs, l.length = 32) (hy : ∀ l ∈ ys, l.length = 32) (h1 : xs.length = n) (h2 : ys.length = m) (hn : n ≤ 1000000) :
    Meets Tryz.prog 130 [.slice p n c1, .slice q m c2] [] (fun W => SeesP W p (B5 xs) ∧ SeesP W q (B5 ys)) (fun v out => v = .bool (decide (xs = ys)) ∧ out = []) := by
  by_cases h : n = m
  · subst h; exact digests_eq p q n c1 c2 xs ys hx hy h1 h2 hn
  · exact digests_ne p q n m c1 c2 xs ys hx hy h1 h2 hn h

def sameB (A B : Block) (la lb : List (List UInt8)) (da db : List UInt8) : Bool := decide (A.fWriter = B.fWriter) && (decide ((A.fSeq.toNat : Int) = (B.fSeq.toNat : Int)) && (decide (A.fPrev = B.fPrev) && (decide (la = lb) && (decide (da = db) && decide (A.fSig = B.fSig)))))

theorem kit_block (A B : Block) (hA : A.ok) (hB : B.ok) (la lb : List (List UInt8)) (da db : List UInt8) (hn : A.fLinks.n ≤ 1000000) : Meets Tryz.prog 89 [agg A.cells, agg B.cells] [] (fun W => (RowsAt W A.fLinks 32 la ∧ BytesAt W A.fData da) ∧ (RowsAt W B.fLinks 32 lb ∧ BytesAt W B.fData db)) (fun v out => v = .bool (sameB A B la lb da db) ∧ out = []) := by
 intro W hW
 refine An Tryz.func89 rfl 47 Tryz.ntmps89 rfl ?_
 refine Sat.seq (Sat.region ?_)
 refine Tr.boxA rfl rfl ?_
 intro n2 hn2 hf2
 refine Tr.boxA rfl rfl ?_
 intro n3 hn3 hf3
 refine Tr.a rfl rfl rfl ?_
 refine Tr.nil (Aa (Sat.seq (Sat.region ?_)))
 refine Tr.fld rfl rfl rfl Y79 rfl Sz75 dE _ rfl ?_
 refine Tr.lN (Ab _) rfl rfl rfl Y75 rfl Sz75 Z1 (Block.row_fWriter zA) (Block.rl_fWriter zA) ?_
 refine Tr.fld rfl rfl rfl Y79 rfl Sz75 dE _ rfl ?_
 refine Tr.lN (Ab _) rfl rfl rfl Y75 rfl Sz75 Z0 (Block.row_fWriter zA) (Block.rl_fWriter zA) ?_
 refine two (fun r hr k => Tr.eql_bytes rfl rfl rfl rfl Tryz.eqGuardType75 Y75 Y5 Sz5 (by (simp [hA.l_fWriter]; done)) (by (simp [hB.l_fWriter]; done)) hr k) (fun hs1_40 => ?_) (fun hs1_40 => ?_)
 ·
  have hs1_4 := of_decide_eq_true hs1_40
  refine Tr.m rfl rfl rfl ?_
  refine Tr.fld rfl rfl rfl Y79 rfl B1 dE _ rfl ?_
  refine Tr.load1 rfl rfl rfl Y48 rfl Z1 (by exact Block.get_fSeq zA) ?_
  refine Tr.fld rfl rfl rfl Y79 rfl B1 dE _ rfl ?_
  refine Tr.load1 rfl rfl rfl Y48 rfl Z0 (by exact Block.get_fSeq zA) ?_
  refine two (fun r hr k => Tr.eqi rfl rfl rfl rfl hr k) (fun hs1_100 => ?_) (fun hs1_100 => ?_)
  ·
   have hs1_10 := of_decide_eq_true hs1_100
   refine Tr.pick rfl rfl rfl rfl rfl rfl ?_
   refine Tr.m rfl rfl rfl ?_
   refine Tr.fld rfl rfl rfl Y79 rfl Bb dE _ rfl ?_
   refine Tr.lN (Ab _) rfl rfl rfl Y50 rfl Bb Z1 (Block.row_fPrev zA) (Block.rl_fPrev zA) ?_
   refine Tr.fld rfl rfl rfl Y79 rfl Bb dE _ rfl ?_
   refine Tr.lN (Ab _) rfl rfl rfl Y50 rfl Bb Z0 (Block.row_fPrev zA) (Block.rl_fPrev zA) ?_
   refine two (fun r hr k => Tr.eql_bytes rfl rfl rfl rfl Tryz.eqGuardType50 Y50 Y5 Sz5 (by (simp [hA.l_fPrev]; done)) (by (simp [hB.l_fPrev]; done)) hr k) (fun hs1_170 => ?_) (fun hs1_170 => ?_)
   ·
    have hs1_17 := of_decide_eq_true hs1_170
    refine Tr.pick rfl rfl rfl rfl rfl rfl ?_
    refine Tr.m rfl rfl rfl ?_
    refine Tr.fld rfl rfl rfl Y79 rfl Sz51 dE _ rfl ?_
    refine Tr.load1 rfl rfl rfl Y51 rfl Z1 (by exact Block.get_fLinks zA) ?_
    refine Tr.fld rfl rfl rfl Y79 rfl Sz51 dE _ rfl ?_
    refine Tr.load1 rfl rfl rfl Y51 rfl Z0 (by exact Block.get_fLinks zA) ?_
    refine Tr.callB rfl rfl rfl rfl Body130 (digests_any2 _ _ _ _ _ _ la lb hW.1.1.row hW.2.1.row hW.1.1.len hW.2.1.len hn) (fun w h => ⟨Aw h rfl hW.1.1.see, Aw h rfl hW.2.1.see⟩) (fun hs1_240 => ?_) (fun hs1_240 => ?_)
    ·
     have hs1_24 := of_decide_eq_true hs1_240
     refine Tr.pick rfl rfl rfl rfl rfl rfl ?_
     refine Tr.m rfl rfl rfl ?_
     refine Tr.fld rfl rfl rfl Y79 rfl Sz58 dE _ rfl ?_
     refine Tr.load1 rfl rfl rfl Y58 rfl Z1 (by exact Block.get_fData zA) ?_
     refine Tr.toStr rfl rfl rfl Y58 Y5 Y9 (fun w h => Aw h rfl hW.1.2.see) hW.1.2.len ?_
     refine Tr.fld rfl rfl rfl Y79 rfl Sz58 dE _ rfl ?_
     refine Tr.load1 rfl rfl rfl Y58 rfl Z0 (by exact Block.get_fData zA) ?_
     refine Tr.toStr rfl rfl rfl Y58 Y5 Y9 (fun w h => Aw h rfl hW.2.2.see) hW.2.2.len ?_
     refine two (fun r hr k => Tr.eql_str rfl rfl rfl rfl hr k) (fun hs1_330 => ?_) (fun hs1_330 => ?_)
     ·
      have hs1_33 := of_decide_eq_true hs1_330
      refine Tr.pick rfl rfl rfl rfl rfl rfl ?_
      refine Tr.m rfl rfl rfl ?_
      refine Tr.fld rfl rfl rfl Y79 rfl Sz77 dE _ rfl ?_
      refine Tr.lN (Ab _) rfl rfl rfl Y77 rfl Sz77 Z1 (Block.row_fSig zA) (Block.rl_fSig zA) ?_
      refine Tr.fld rfl rfl rfl Y79 rfl Sz77 dE _ rfl ?_
      refine Tr.lN (Ab _) rfl rfl rfl Y77 rfl Sz77 Z0 (Block.row_fSig zA) (Block.rl_fSig zA) ?_
      refine Tr.eql_bytes rfl rfl rfl rfl Tryz.eqGuardType77 Y77 Y5 Sz5 (by (simp [hA.l_fSig]; done)) (by (simp [hB.l_fSig]; done)) rfl ?_
      refine Tr.pick rfl rfl rfl rfl rfl rfl ?_
      refine Tr.a rfl rfl rfl ?_
      refine Tr.nil (Aa (Sat.ret (Am ?_)))
      refine ⟨_, [], Ae rfl rfl, sP, sP, ?_, rfl⟩
      simp_all [sameB]
     ·
      have hs1_33 := of_decide_eq_false hs1_330
      refine Tr.pick rfl rfl rfl rfl rfl rfl ?_
      refine Tr.m rfl rfl rfl ?_
      refine Tr.skp rfl rfl ?_
      refine Tr.skp rfl rfl ?_
      refine Tr.skp rfl rfl ?_
      refine Tr.skp rfl rfl ?_
      refine Tr.skp rfl rfl ?_
      refine Tr.pick rfl rfl rfl rfl rfl rfl ?_
      refine Tr.a rfl rfl rfl ?_
      refine Tr.nil (Aa (Sat.ret (Am ?_)))
      refine ⟨_, [], Ae rfl rfl, sP, sP, ?_, rfl⟩
      simp_all [sameB]
    ·
     have hs1_24 := of_decide_eq_false hs1_240
     refine Tr.pick rfl rfl rfl rfl rfl rfl ?_
     refine Tr.m rfl rfl rfl ?_
     refine Tr.skp rfl rfl ?_
     refine Tr.skp rfl rfl ?_
     refine Tr.skp rfl rfl ?_
     refine Tr.skp rfl rfl ?_
     refine Tr.skp rfl rfl ?_
     refine Tr.skp rfl rfl ?_
     refine Tr.skp rfl rfl ?_
     refine Tr.pick rfl rfl rfl rfl rfl rfl ?_
     refine Tr.m rfl rfl rfl ?_
     refine Tr.skp rfl rfl ?_
     refine Tr.skp rfl rfl ?_
     refine Tr.skp rfl rfl ?_
     refine Tr.skp rfl rfl ?_
     refine Tr.skp rfl rfl ?_
     refine Tr.pick rfl rfl rfl rfl rfl rfl ?_
     refine Tr.a rfl rfl rfl ?_
     refine Tr.nil (Aa (Sat.ret (Am ?_)))
     refine ⟨_, [], Ae rfl rfl, sP, sP, ?_, rfl⟩
     simp_all [sameB]
   ·
    have hs1_17 := of_decide_eq_false hs1_170
    refine Tr.pick rfl rfl rfl rfl rfl rfl ?_
    refine Tr.m rfl rfl rfl ?_
    refine Tr.skp rfl rfl ?_
    refine Tr.skp rfl rfl ?_
    refine Tr.skp rfl rfl ?_
    refine Tr.skp rfl rfl ?_
    refine Tr.skp rfl rfl ?_
    refine Tr.pick rfl rfl rfl rfl rfl rfl ?_
    refine Tr.m rfl rfl rfl ?_
    refine Tr.skp rfl rfl ?_
    refine Tr.skp rfl rfl ?_
    refine Tr.skp rfl rfl ?_
    refine Tr.skp rfl rfl ?_
    refine Tr.skp rfl rfl ?_
    refine Tr.skp rfl rfl ?_
    refine Tr.skp rfl rfl ?_
    refine Tr.pick rfl rfl rfl rfl rfl rfl ?_
    refine Tr.m rfl rfl rfl ?_
    refine Tr.skp rfl rfl ?_
    refine Tr.skp rfl rfl ?_
    refine Tr.skp rfl rfl ?_
    refine Tr.skp rfl rfl ?_
    refine Tr.skp rfl rfl ?_
    refine Tr.pick rfl rfl rfl rfl rfl rfl ?_
    refine Tr.a rfl rfl rfl ?_
    refine Tr.nil (Aa (Sat.ret (Am ?_)))
    refine ⟨_, [], Ae rfl rfl, sP, sP, ?_, rfl⟩
    simp_all [sameB]
  ·
   have hs1_10 := of_decide_eq_false hs1_100
   refine Tr.pick rfl rfl rfl rfl rfl rfl ?_
   refine Tr.m rfl rfl rfl ?_
   refine Tr.skp rfl rfl ?_
   refine Tr.skp rfl rfl ?_
   refine Tr.skp rfl rfl ?_
   refine Tr.skp rfl rfl ?_
   refine Tr.skp rfl rfl ?_
   refine Tr.pick rfl rfl rfl rfl rfl rfl ?_
   refine Tr.m rfl rfl rfl ?_
   refine Tr.skp rfl rfl ?_
   refine Tr.skp rfl rfl ?_
   refine Tr.skp rfl rfl ?_
   refine Tr.skp rfl rfl ?_
   refine Tr.skp rfl rfl ?_
   refine Tr.pick rfl rfl rfl rfl rfl rfl ?_
   refine Tr.m rfl rfl rfl ?_
   refine Tr.skp rfl rfl ?_
   refine Tr.skp rfl rfl ?_
   refine Tr.skp rfl rfl ?_
   refine Tr.skp rfl rfl ?_
   refine Tr.skp rfl rfl ?_
   refine Tr.skp rfl rfl ?_
   refine Tr.skp rfl rfl ?_
   refine Tr.pick rfl rfl rfl rfl rfl rfl ?_
   refine Tr.m rfl rfl rfl ?_
   refine Tr.skp rfl rfl ?_
   refine Tr.skp rfl rfl ?_
   refine Tr.skp rfl rfl ?_
   refine Tr.skp rfl rfl ?_
   refine Tr.skp rfl rfl ?_
   refine Tr.pick rfl rfl rfl rfl rfl rfl ?_
   refine Tr.a rfl rfl rfl ?_
   refine Tr.nil (Aa (Sat.ret (Am ?_)))
   refine ⟨_, [], Ae rfl rfl, sP, sP, ?_, rfl⟩
   simp_all [sameB]
 ·
  have hs1_4 := of_decide_eq_false hs1_40
  refine Tr.m rfl rfl rfl ?_
  refine Tr.skp rfl rfl ?_
  refine Tr.skp rfl rfl ?_
  refine Tr.skp rfl rfl ?_
  refine Tr.skp rfl rfl ?_
  refine Tr.skp rfl rfl ?_
  refine Tr.pick rfl rfl rfl rfl rfl rfl ?_
  refine Tr.m rfl rfl rfl ?_
  refine Tr.skp rfl rfl ?_
  refine Tr.skp rfl rfl ?_
  refine Tr.skp rfl rfl ?_
  refine Tr.skp rfl rfl ?_
  refine Tr.skp rfl rfl ?_
  refine Tr.pick rfl rfl rfl rfl rfl rfl ?_
  refine Tr.m rfl rfl rfl ?_
  refine Tr.skp rfl rfl ?_
  refine Tr.skp rfl rfl ?_
  refine Tr.skp rfl rfl ?_
  refine Tr.skp rfl rfl ?_
  refine Tr.skp rfl rfl ?_
  refine Tr.pick rfl rfl rfl rfl rfl rfl ?_
  refine Tr.m rfl rfl rfl ?_
  refine Tr.skp rfl rfl ?_
  refine Tr.skp rfl rfl ?_
  refine Tr.skp rfl rfl ?_
  refine Tr.skp rfl rfl ?_
  refine Tr.skp rfl rfl ?_
  refine Tr.skp rfl rfl ?_
  refine Tr.skp rfl rfl ?_
  refine Tr.pick rfl rfl rfl rfl rfl rfl ?_
  refine Tr.m rfl rfl rfl ?_
  refine Tr.skp rfl rfl ?_
  refine Tr.skp rfl rfl ?_
  refine Tr.skp rfl rfl ?_
  refine Tr.skp rfl rfl ?_
  refine Tr.skp rfl rfl ?_
  refine Tr.pick rfl rfl rfl rfl rfl rfl ?_
  refine Tr.a rfl rfl rfl ?_
  refine Tr.nil (Aa (Sat.ret (Am ?_)))
  refine ⟨_, [], Ae rfl rfl, sP, sP, ?_, rfl⟩
  simp_all [sameB]

end Go.Proofs.YtdifpjmfabhpiaaGreat
end

section
namespace Go.Proofs.YtdifpjmfabhpiaaGreat
open Go Hw

def BB (b : Nat) (X : Block) : Blk := ⟨b, X.cells, 79, 131⟩
theorem rd_DigestE (n q N cp a : Nat) (e : Int) (xs : List UInt8) (hx : xs.length = N) (hat : a ≤ N) (hN : N ≤ cp) (hbig : N ≤ 1000000) (l : List UInt8) (a1 : Nat) (e1 : Int) (h : digR xs a e = (l, a1, e1)) : Meets Tryz.prog 173 [ptr n 0] [n] (fun W => BlkOk W (RB n q N cp a e) ∧ Cb W q 0 (Ab xs) ∧ q ≠ n)
    (fun v out => v = agg (Ab l) ∧ out = [RB n q N cp a1 e1]) := by
  have := rd_Digest n q N cp a e xs hx hat hN hbig
  rw [h] at this
  exact this
theorem rd_NumberE (n q N cp a : Nat) (e : Int) (xs : List UInt8) (hx : xs.length = N) (hat : a ≤ N) (hN : N ≤ cp) (hbig : N ≤ 1000000) (l : UInt64) (a1 : Nat) (e1 : Int) (h : Bg xs a e = (l, a1, e1)) : Meets Tryz.prog 94 [ptr n 0] [n] (fun W => BlkOk W (RB n q N cp a e) ∧ Cb W q 0 (Ab xs) ∧ q ≠ n)
    (fun v out => v = u64 l ∧ out = [RB n q N cp a1 e1]) := by
  have := rd_Number n q N cp a e xs hx hat hN hbig
  rw [h] at this
  exact this
theorem digE_le {xs l : List UInt8} {a a1 N : Nat} {e e1 : Int} (h : digR xs a e = (l, a1, e1)) (hx : xs.length = N) (hat : a ≤ N) : a1 ≤ N ∧ l.length = 32 := by
  have := digR_at xs a e oM
  rw [h] at this
  exact ⟨by have := this.1; simp only at this; omega, this.2⟩
theorem numE_le {xs : List UInt8} {l : UInt64} {a a1 N : Nat} {e e1 : Int} (h : Bg xs a e = (l, a1, e1)) (hx : xs.length = N) (hat : a ≤ N) : a1 ≤ N := by
  have := numR_at xs a e oM
  rw [h] at this
  simp only at this; omega

theorem opt_head (b c n q N cp at' : Nat) (e : Int) (X : Block) (hX : X.ok) (xs : List UInt8) (hx : xs.length = N) (hat : at' ≤ N) (hN : N ≤ cp) (hbig : N ≤ 90000) (hbn : b ≠ n) (hcb : c ≠ b) (hcn : c ≠ n) (hqb : q ≠ b) (hqn : q ≠ n) (l1 : List UInt8) (a1 : Nat) (e1 : Int) (x2 : UInt64) (a2 : Nat) (e2 : Int) (l3 : List UInt8) (a3 : Nat) (e3 : Int) (h1 : digR xs at' e = (l1, a1, e1)) (h2 : Bg xs a1 e1 = (x2, a2, e2)) (h3 : digR xs a2 e2 = (l3, a3, e3)) : Meets Tryz.prog 225 [ptr b 0, ptr c 0] [b, n] (fun W => BlkOk W (BB b X) ∧ BlkOk W (RB n q N cp at' e) ∧ W.cell? ⟨c, 0, none⟩ = some (ptr n 0) ∧ Cb W q 0 (Ab xs)) (fun v out => v = .tuple #[] ∧ out = [BB b ({ X with fWriter := l1, fSeq := x2, fPrev := l3 } : Block), RB n q N cp a3 e3]) := by
 intro W hW
 have hd1 := digE_le h1 hx hat
 have hd2 := numE_le h2 hx hd1.1
 have hd3 := digE_le h3 hx hd2
 have ok1 : ({ X with fWriter := l1 } : Block).ok := ⟨hd1.2, hX.l_fPrev, hX.l_fSig⟩
 have ok2 : ({ X with fWriter := l1, fSeq := x2 } : Block).ok := ⟨hd1.2, hX.l_fPrev, hX.l_fSig⟩
 refine A7 (hp0 := [BB b X, RB n q N cp at' e]) Tryz.func225 rfl 18 Tryz.ntmps225 rfl (HRep.two hW.1 hW.2.1 hbn) ?_
 refine Sat.seq (Sat.region ?_)
 refine Tr.m rfl rfl rfl ?_
 refine Tr.loadE rfl rfl rfl Y129 rfl (by (simp; omega)) (hW.2.2.1) ?_
 refine Tr.callL (L := [RB n q N cp (at') (e)]) rfl rfl rfl rfl rfl Body173 (rd_DigestE n q N cp at' e xs hx hat hN oM l1 a1 e1 h1) (rem_there Ay) (A0 rfl) (fun w h => ⟨Ai h Z1, Bk h (by simp; omega) hW.2.2.2, hqn⟩) ?_
 rintro v2 out2 ⟨rfl, rfl⟩
 refine Tr.nC rfl rfl rfl ?_
 refine Tr.fld rfl rfl rfl Y79 rfl Sz75 dE _ rfl ?_
 refine Tr.storeN (Ab _) rfl rfl rfl rfl rfl zE Sz75 (by simp [hd1.2]) Z1 (by rw [Block.length zA]; simp [hd1.2]) (Block.upd_fWriter zA _ (by simp [hd1.2])) zV ?_
 refine Tr.nil (Aa (Sat.seq (Sat.region ?_)))
 refine Tr.m rfl rfl rfl ?_
 refine Tr.loadE rfl rfl rfl Y129 rfl (by (simp; omega)) (hW.2.2.1) ?_
 refine Tr.callL (L := [RB n q N cp (a1) (e1)]) rfl rfl rfl rfl rfl Body94 (rd_NumberE n q N cp a1 e1 xs hx hd1.1 hN oM x2 a2 e2 h2) Ay (A0 rfl) (fun w h => ⟨Ai h Z0, Bk h (by simp; omega) hW.2.2.2, hqn⟩) ?_
 rintro v2 out2 ⟨rfl, rfl⟩
 refine Tr.nC rfl rfl rfl ?_
 refine Tr.fld rfl rfl rfl Y79 rfl B1 dE _ rfl ?_
 refine Tr.s1 rfl rfl rfl rfl rfl B1 Z1 (by rw [Block.length zA]; decide) (Block.set_fSeq zA _) zV ?_
 refine Tr.nil (Aa (Sat.region ?_))
 refine Tr.m rfl rfl rfl ?_
 refine Tr.loadE rfl rfl rfl Y129 rfl (by (simp; omega)) (hW.2.2.1) ?_
 refine Tr.callL (L := [RB n q N cp (a2) (e2)]) rfl rfl rfl rfl rfl Body173 (rd_DigestE n q N cp a2 e2 xs hx hd2 hN oM l3 a3 e3 h3) Ay (A0 rfl) (fun w h => ⟨Ai h Z0, Bk h (by simp; omega) hW.2.2.2, hqn⟩) ?_
 rintro v2 out2 ⟨rfl, rfl⟩
 refine Tr.nC rfl rfl rfl ?_
 refine Tr.fld rfl rfl rfl Y79 rfl Bb dE _ rfl ?_
 refine Tr.storeN (Ab _) rfl rfl rfl rfl rfl zE Bb (by simp [hd3.2]) Z1 (by rw [Block.length zA]; simp [hd3.2]) (Block.upd_fPrev zA _ (by simp [hd3.2])) zV ?_
 refine Tr.nil (en_n ?_)
 refine Ak (out := (BB b ({ X with fWriter := l1, fSeq := x2, fPrev := l3 } : Block) :: (RB n q N cp a3 e3 :: []))) (res_none rfl) (Ac rM (Ac rM Ad)) ?_
 exact ⟨rfl, rfl⟩

def takR (xs : List UInt8) (m a : Nat) (e : Int) : List UInt8 × Nat × Int :=
  if ¬ e = 0 then ([], a, e) else if xs.length < a + m then ([], a, 5) else ((xs.drop a).take m, a + m, 0)
theorem rd_TakeE (n q N cp a : Nat) (e : Int) (m : Nat) (hm0 : 0 < m) (hm : m ≤ 90000) (xs : List UInt8) (hx : xs.length = N) (hat : a ≤ N) (hN : N ≤ cp) (hbig : N ≤ 90000) (l : List UInt8) (a1 : Nat) (e1 : Int) (h : takR xs m a e = (l, a1, e1)) : Meets Tryz.prog 174 [ptr n 0, i64 (m : Int)] [n] (fun W => BlkOk W (RB n q N cp a e) ∧ Cb W q 0 (Ab xs) ∧ q ≠ n)
    (fun v out => ∃ s bl, v = s.v ∧ Acc s bl (Ab l) 5 l.length 1 ∧ out = bl ++ [RB n q N cp a1 e1]) := by
  unfold takR at h
  by_cases he : e = 0
  · subst he
    rw [if_neg sP] at h
    by_cases h1 : xs.length < a + m
    · rw [if_pos h1] at h
      obtain ⟨rfl, rfl, rfl⟩ : [] = l ∧ a = a1 ∧ (5 : Int) = e1 := by simpa using h
      exact (rd_take64_more n q N cp a m hm0 hm xs hx hat hN oM oM).imp (fun w h => h) fun v out ⟨h1, h2⟩ => ⟨Sl.nil, [], h1, Acc.none, h2⟩
    · rw [if_neg h1] at h
      obtain ⟨rfl, rfl, rfl⟩ : (xs.drop a).take m = l ∧ a + m = a1 ∧ (0 : Int) = e1 := by simpa using h
      refine (rd_take64_ok n q N cp a m hm0 hm xs hx hat hN oM oM hbig).imp (fun w h => h) fun v out ⟨q1, c1, h1, h2, h3⟩ => ?_
      have hl : ((xs.drop a).take m).length = m := by simp; omega
      refine ⟨⟨some ⟨q1, 0, none⟩, m, c1⟩, [_], h1, ?_, h3⟩
      rw [hl]
      exact Acc.some h2 (by simp [hl]; omega)
  · rw [if_pos he] at h
    obtain ⟨rfl, rfl, rfl⟩ : [] = l ∧ a = a1 ∧ e = e1 := by simpa using h
    exact (rd_take64_err n q N cp a e m hm0 hm xs hx hat hN oM he).imp (fun w h => h) fun v out ⟨h1, h2⟩ => ⟨Sl.nil, [], h1, Acc.none, h2⟩
theorem takE_le {xs l : List UInt8} {a a1 m N : Nat} {e e1 : Int} (h : takR xs m a e = (l, a1, e1)) (hx : xs.length = N) (hat : a ≤ N) : a1 ≤ N ∧ (l = [] ∨ l.length = m) := by
  unfold takR at h
  split at h
  · obtain ⟨rfl, rfl, rfl⟩ : [] = l ∧ a = a1 ∧ e = e1 := by simpa using h
    exact ⟨hat, .inl rfl⟩
  split at h
  · obtain ⟨rfl, rfl, rfl⟩ : [] = l ∧ a = a1 ∧ (5 : Int) = e1 := by simpa using h
    exact ⟨hat, .inl rfl⟩
  · obtain ⟨rfl, rfl, rfl⟩ : (xs.drop a).take m = l ∧ a + m = a1 ∧ (0 : Int) = e1 := by simpa using h
    exact ⟨by omega, .inr (by simp; omega)⟩
theorem rd_BlockE (n q N cp a : Nat) (e : Int) (xs : List UInt8) (hx : xs.length = N) (hat : a ≤ N) (hN : N ≤ cp) (hbig : N ≤ 90000) (o : Option (List UInt8)) (a1 : Nat) (e1 : Int) (h : blkR xs a e = (o, a1, e1)) : Meets Tryz.prog 120 [ptr n 0] [n] (fun W => BlkOk W (RB n q N cp a e) ∧ Cb W q 0 (Ab xs) ∧ q ≠ n)
    (fun v out => ∃ s bl, v = s.v ∧ Acc s bl (Ab (o.getD [])) 5 (o.getD []).length 1 ∧ out = bl ++ [RB n q N cp a1 e1]) := by
  unfold blkR at h
  by_cases he : (Bg xs a e).2.2 = 0
  · rw [if_neg (by simp [he])] at h
    by_cases h1 : xs.length < (Bg xs a e).2.1 + (Bg xs a e).1.toNat
    · rw [if_pos h1] at h
      obtain ⟨rfl, rfl, rfl⟩ : none = o ∧ a = a1 ∧ (5 : Int) = e1 := by simpa using h
      exact (rd_blk_more n q N cp a e xs hx hat hN oM he oM hbig).imp (fun w h => h) fun v out ⟨h1, h2⟩ => ⟨Sl.nil, [], h1, Acc.none, h2⟩
    · rw [if_neg h1] at h
      obtain ⟨rfl, rfl, rfl⟩ : some ((xs.drop (Bg xs a e).2.1).take (Bg xs a e).1.toNat) = o ∧ (Bg xs a e).2.1 + (Bg xs a e).1.toNat = a1 ∧ (0 : Int) = e1 := by simpa using h
      refine (rd_blk_ok n q N cp a e xs hx hat hN oM he oM hbig).imp (fun w h => h) fun v out ⟨q1, c1, h1, h2, h3⟩ => ?_
      have hl : ((xs.drop (Bg xs a e).2.1).take (Bg xs a e).1.toNat).length = (Bg xs a e).1.toNat := by simp; omega
      refine ⟨⟨some ⟨q1, 0, none⟩, (Bg xs a e).1.toNat, c1⟩, [_], h1, ?_, h3⟩
      simp only [Option.getD_some]
      rw [hl]
      exact Acc.some h2 (by simp only [Ab, List.length_map, hl]; omega)
  · rw [if_pos he] at h
    obtain ⟨rfl, rfl, rfl⟩ : none = o ∧ a = a1 ∧ (Bg xs a e).2.2 = e1 := by simpa using h
    exact (rd_blk_err n q N cp a e xs hx hat hN oM he hbig).imp (fun w h => h) fun v out ⟨h1, h2⟩ => ⟨Sl.nil, [], h1, Acc.none, h2⟩
theorem blkE_le {xs : List UInt8} {o : Option (List UInt8)} {a a1 N : Nat} {e e1 : Int} (h : blkR xs a e = (o, a1, e1)) (hx : xs.length = N) (hat : a ≤ N) : a1 ≤ N ∧ (o.getD []).length ≤ N := by
  unfold blkR at h
  split at h
  · obtain ⟨rfl, rfl, rfl⟩ : none = o ∧ a = a1 ∧ (Bg xs a e).2.2 = e1 := by simpa using h
    exact ⟨hat, by simp⟩
  split at h
  · obtain ⟨rfl, rfl, rfl⟩ : none = o ∧ a = a1 ∧ (5 : Int) = e1 := by simpa using h
    exact ⟨hat, by simp⟩
  · obtain ⟨rfl, rfl, rfl⟩ : some ((xs.drop (Bg xs a e).2.1).take (Bg xs a e).1.toNat) = o ∧ (Bg xs a e).2.1 + (Bg xs a e).1.toNat = a1 ∧ (0 : Int) = e1 := by simpa using h
    exact ⟨by omega, by simp; omega⟩
def Bs (xs : List UInt8) : Nat → Nat → Int → List (List UInt8) × Nat × Int
  | 0, a, e => ([], a, e)
  | j + 1, a, e => ((Bs xs j a e).1 ++ [(digR xs (Bs xs j a e).2.1 (Bs xs j a e).2.2).1], (digR xs (Bs xs j a e).2.1 (Bs xs j a e).2.2).2)
theorem digsR_succ {xs l : List UInt8} {j a a1 : Nat} {e e1 : Int} (h : digR xs (Bs xs j a e).2.1 (Bs xs j a e).2.2 = (l, a1, e1)) : Bs xs (j + 1) a e = ((Bs xs j a e).1 ++ [l], a1, e1) := by rw [Bs, h]
theorem digsR_at {xs : List UInt8} {a N : Nat} {e : Int} (hx : xs.length = N) (hat : a ≤ N) : ∀ j, (Bs xs j a e).2.1 ≤ N ∧ (∀ l ∈ (Bs xs j a e).1, l.length = 32) ∧ (Bs xs j a e).1.length = j
  | 0 => ⟨hat, fun l hl => by simp [Bs] at hl, rfl⟩
  | j + 1 => by
    obtain ⟨h1, h2, h3⟩ := digsR_at (e := e) hx hat j
    have h4 := digR_at xs (Bs xs j a e).2.1 (Bs xs j a e).2.2 oM
    refine ⟨by simp only [Bs]; omega, fun l hl => ?_, by simp [Bs, h3]⟩
    simp only [Bs, List.mem_append, List.mem_singleton] at hl
    rcases hl with hl | rfl
    · exact h2 l hl
    · exact h4.2
theorem ofNat_step (j : Nat) : UInt64.ofNat j + 1 = UInt64.ofNat (j + 1) := by rw [UInt64.ofNat_add]; rfl

theorem opt_links (b c n q N cp at' : Nat) (e : Int) (X : Block) (hX : X.ok) (xs : List UInt8) (hx : xs.length = N) (hat : at' ≤ N) (hN : N ≤ cp) (hbig : N ≤ 90000) (hbn : b ≠ n) (hcb : c ≠ b) (hcn : c ≠ n) (hqb : q ≠ b) (hqn : q ≠ n) (hXl : X.fLinks = Sl.nil) (x1 : UInt64) (a1 : Nat) (e1 : Int) (h1 : Bg xs at' e = (x1, a1, e1)) : Meets Tryz.prog 226 [ptr b 0, ptr c 0] [b, n] (fun W => BlkOk W (BB b X) ∧ BlkOk W (RB n q N cp at' e) ∧ W.cell? ⟨c, 0, none⟩ = some (ptr n 0) ∧ Cb W q 0 (Ab xs)) (fun v out => ∃ s bl, v = .tuple #[] ∧ Acc s bl (B5 (Bs xs (min x1.toNat 17) a1 e1).1) 50 (min x1.toNat 17) 32 ∧ out = RB n q N cp (Bs xs (min x1.toNat 17) a1 e1).2.1 (Bs xs (min x1.toNat 17) a1 e1).2.2 :: BB b ({ X with fLinks := s } : Block) :: bl) := by
 intro W hW
 have ha1 := numE_le h1 hx hat
 have okL : ∀ s : Sl, ({ X with fLinks := s } : Block).ok := fun s => ⟨hX.l_fWriter, hX.l_fPrev, hX.l_fSig⟩
 refine A7 (hp0 := [BB b X, RB n q N cp at' e]) Tryz.func226 rfl 20 Tryz.ntmps226 rfl (HRep.two hW.1 hW.2.1 hbn) ?_
 refine Sat.seq (Sat.region ?_)
 refine Tr.loadE rfl rfl rfl Y129 rfl (by (simp; omega)) (hW.2.2.1) ?_
 refine Tr.callL (L := [RB n q N cp (at') (e)]) rfl rfl rfl rfl rfl Body94 (rd_NumberE n q N cp at' e xs hx hat hN oM x1 a1 e1 h1) (rem_there Ay) (A0 rfl) (fun w h => ⟨Ai h Z1, Bk h (by simp; omega) hW.2.2.2, hqn⟩) ?_
 rintro v2 out2 ⟨rfl, rfl⟩
 refine Tr.min2 rfl rfl rfl rfl (show Value.int .u64 (if (17 : Int) < (x1.toNat : Int) then 17 else (x1.toNat : Int)) = .int .u64 ((min x1.toNat 17 : Nat) : Int) from by congr 1; split <;> omega) ?_
 refine Tr.m rfl rfl rfl ?_
 refine Tr.nil (Aa (Sat.block ?_))
 refine Sat.loop (ι := Nat × Sl × List Blk) (fun p => ⟨[(0, ptr b 0), (1, ptr c 0), (5, .int .u64 ((min x1.toNat 17 : Nat) : Int)), (6, u64 (UInt64.ofNat p.1))], (RB n q N cp (Bs xs p.1 a1 e1).2.1 (Bs xs p.1 a1 e1).2.2 :: (BB b ({ X with fLinks := p.2.1 } : Block) :: (p.2.2 ++ [])))⟩) (fun p => p.1 ≤ min x1.toNat 17 ∧ Acc p.2.1 p.2.2 (B5 (Bs xs p.1 a1 e1).1) 50 p.1 32) (fun p => min x1.toNat 17 - p.1) ((0, Sl.nil, [])) ?_ ?_ ?_
 · exact ⟨Nat.zero_le _, Acc.none⟩
 · exact Af (wk1 rfl (wk1 rfl (wk1 rfl (wk1 rfl wk0)))) (Ac rM (pm_consE rM (by rw [← hXl]) rfl (Bl Ad)))
 ·
  rintro p ⟨hp1, hac⟩
  have hD := digsR_at (e := e1) hx ha1 p.1
  obtain ⟨l2, r2, hd⟩ : ∃ l r, digR xs (Bs xs p.1 a1 e1).2.1 (Bs xs p.1 a1 e1).2.2 = (l, r) := ⟨_, _, rfl⟩
  obtain ⟨a2, e2⟩ := r2
  have hdl := digE_le hd hx hD.1
  have hs := digsR_succ hd
  have hj64 : (UInt64.ofNat p.1).toNat = p.1 := A1 oM
  refine Sat.seq (Sat.region ?_)
  refine Tr.lss rfl rfl rfl rfl rfl ?_
  refine Tr.nil (Aa (Sat.seq ?_))
  refine Sat.condP rfl (fun hc0 => ?_) (fun hc0 => ?_)
  ·
   have hp3 : p.1 < min x1.toNat 17 := by omega
   refine Sat.skip (Aa (Sat.seq (Sat.block ?_)))
   refine Sat.drawK (sp_v (sp_k (sp_x sp_n))) rfl [(0, 0), (0, 1), (0, 2), (0, 3), (0, 4), (0, 5), (4, 6), (4, 7), (4, 8), (0, 9), (0, 10)] [(4, 11)] Bv zK zK ?_
   refine Tr.m rfl rfl rfl ?_
   refine Tr.m rfl rfl rfl ?_
   refine Tr.nC rfl rfl rfl ?_
   refine Tr.fld rfl rfl rfl Y79 rfl Sz51 dE _ rfl ?_
   refine Tr.kload1 rfl rfl rfl Y51 rfl Z0 (by exact Block.get_fLinks (by exact okL _)) ?_
   refine Tr.kloadE rfl rfl rfl Y129 rfl (by (simp [Cx.with]; omega)) (hW.2.2.1) ?_
   refine Tr.callL (L := [RB n q N cp ((Bs xs p.1 a1 e1).2.1) ((Bs xs p.1 a1 e1).2.2)]) rfl rfl rfl rfl rfl Body173 (rd_DigestE n q N cp (Bs xs p.1 a1 e1).2.1 (Bs xs p.1 a1 e1).2.2 xs hx hD.1 hN oM l2 a2 e2 hd) Ay (A0 rfl) (fun w h => ⟨Ai h Z0, Bk h (by simp [Cx.with]; omega) hW.2.2.2, hqn⟩) ?_
   rintro v2 out2 ⟨rfl, rfl⟩
   refine Tr.mkRow (z := agg (Ab (List.replicate 32 0))) [agg (Ab l2)] (Ab l2) rfl rfl rfl Y51 Bb Zr50 rfl rfl (by intro v hv; rw [List.mem_singleton.1 hv]; simp [Value.cells, hdl.2]) dE (by simp [Value.cells]) ?_
   intro q7
   refine Tr.appendAcc (z := agg (Ab (List.replicate 32 0))) (by' := 32) (Ab l2) rfl rfl rfl rfl rfl Y51 Y51 Bb Zr50 (by unfold By; kernel_rfl) rfl hac sG (fun w h => SeesP.of (Ap h Z0)) (fun e => by cases e) (Bc _) oM oM (by simp [Ab, hdl.2]) ?_
   intro s8 bl8 hac8
   refine Tr.nC rfl rfl rfl ?_
   refine Tr.fld rfl rfl rfl Y79 rfl Sz51 dE _ rfl ?_
   refine Tr.nil ?_
   refine Tr.s1 rfl rfl rfl rfl rfl Sz51 Z0 (by rw [Block.length (by exact okL _)]; decide) (by exact Block.set_fLinks (by exact okL _) _) zU ?_
   refine Tr.nil (B2 (Aa (Sat.region ?_)))
   refine Tr.add_u64 rfl rfl rfl (show Aj _ _ = some (u64 1) from rfl) ?_
   refine Tr.m rfl rfl rfl ?_
   refine Tr.nil (Aa ?_)
   refine ⟨(p.1 + 1, s8, bl8), ⟨by simp only []; omega, ?_⟩, by simp only []; omega, Af (wk1 rfl (wk1 rfl (wk1 rfl (wk1 (congrArg (fun z => some (u64 z)) (ofNat_step _)) wk0)))) (pm_consE rM (by simp only [hs]) rfl (Ac rM (Ah sG Ad)))⟩
   simp only [hs]
   rw [flatB_append]
   simpa [B5] using hac8
  ·
   have hp3 : p.1 = min x1.toNat 17 := by omega
   refine Sat.exit (Bf (Bf (bl_h (en_n ?_))))
   refine Ak (out := (RB n q N cp (Bs xs p.1 a1 e1).2.1 (Bs xs p.1 a1 e1).2.2 :: (BB b ({ X with fLinks := p.2.1 } : Block) :: (p.2.2 ++ [])))) (res_none rfl) (Ac rM (Ac rM (Ah sG Ad))) ?_
   rw [← hp3]; exact ⟨p.2.1, p.2.2, rfl, hac, by simp⟩

theorem upd_nil (cs : List Value) (o : Nat) : upd cs o [] = cs := by simp [upd]
theorem upd_sig {X : Block} (h : X.ok) {l : List UInt8} (hl : l = [] ∨ l.length = 64) : upd X.cells 67 (Ab l) = ({ X with fSig := l ++ X.fSig.drop l.length } : Block).cells := by
  rcases hl with rfl | hl
  · exact upd_nil _ _
  · rw [Block.upd_fSig h l hl, hl, List.drop_of_length_le (by rw [h.l_fSig]; exact Nat.le_refl _), List.append_nil]

theorem opt_tail (b c n q N cp at' : Nat) (e : Int) (X : Block) (hX : X.ok) (xs : List UInt8) (hx : xs.length = N) (hat : at' ≤ N) (hN : N ≤ cp) (hbig : N ≤ 90000) (hbn : b ≠ n) (hcb : c ≠ b) (hcn : c ≠ n) (hqb : q ≠ b) (hqn : q ≠ n) (o : Option (List UInt8)) (a1 : Nat) (e1 : Int) (l : List UInt8) (a2 : Nat) (e2 : Int) (h1 : blkR xs at' e = (o, a1, e1)) (h2 : takR xs 64 a1 e1 = (l, a2, e2)) : Meets Tryz.prog 227 [ptr b 0, ptr c 0] [b, n] (fun W => BlkOk W (BB b X) ∧ BlkOk W (RB n q N cp at' e) ∧ W.cell? ⟨c, 0, none⟩ = some (ptr n 0) ∧ Cb W q 0 (Ab xs)) (fun v out => ∃ s2 bl, v = .tuple #[] ∧ Acc s2 bl (Ab (o.getD [])) 5 (o.getD []).length 1 ∧ out = RB n q N cp a2 e2 :: BB b ({ X with fData := s2, fSig := l ++ X.fSig.drop l.length } : Block) :: bl) := by
 intro W hW
 have hb1 := blkE_le h1 hx hat
 have ht1 := takE_le h2 hx hb1.1
 have okD : ∀ s : Sl, ({ X with fData := s } : Block).ok := fun s => ⟨hX.l_fWriter, hX.l_fPrev, hX.l_fSig⟩
 have hlen : l.length ≤ 64 := by rcases ht1.2 with h | h <;> simp [h]
 refine A7 (hp0 := [BB b X, RB n q N cp at' e]) Tryz.func227 rfl 15 Tryz.ntmps227 rfl (HRep.two hW.1 hW.2.1 hbn) ?_
 refine Sat.seq (Sat.region ?_)
 refine Tr.m rfl rfl rfl ?_
 refine Tr.loadE rfl rfl rfl Y129 rfl (by (simp; omega)) (hW.2.2.1) ?_
 refine Tr.callL (L := [RB n q N cp (at') (e)]) rfl rfl rfl rfl rfl Body120 (rd_BlockE n q N cp at' e xs hx hat hN hbig o a1 e1 h1) (rem_there Ay) (A0 rfl) (fun w h => ⟨Ai h Z1, Bk h (by simp; omega) hW.2.2.2, hqn⟩) ?_
 rintro v2 out2 ⟨s2, bl2, rfl, hac2, rfl⟩
 simp only [List.append_assoc, List.cons_append, List.nil_append]
 refine Tr.nC rfl rfl rfl ?_
 refine Tr.fld rfl rfl rfl Y79 rfl Sz58 dE _ rfl ?_
 refine Tr.s1 rfl rfl rfl rfl rfl Sz58 mR (by rw [Block.length zA]; decide) (by exact Block.set_fData zA _) uU ?_
 refine Tr.nil (Aa ?_)
 refine Sat.draw [(0, 0), (0, 1), (0, 2), (0, 3), (1, 4), (4, 5), (4, 6)] Bv zK ?_
 refine Tr.m rfl rfl rfl ?_
 refine Tr.nC rfl rfl rfl ?_
 refine Tr.fld rfl rfl rfl Y79 rfl Sz77 dE _ rfl ?_
 refine Tr.sliceArr rfl rfl rfl Y77 Sz5 ?_
 refine Tr.loadE rfl rfl rfl Y129 rfl (by (simp; omega)) (hW.2.2.1) ?_
 refine Tr.callL (L := [RB n q N cp (a1) (e1)]) rfl rfl rfl rfl rfl Body174 (rd_TakeE n q N cp a1 e1 64 dE dE xs hx hb1.1 hN hbig l a2 e2 h2) (by repeat (first | exact Ay | apply rem_seg)) (A0 rfl) (fun w h => ⟨Ai h mR, Bk h (by simp; omega) hW.2.2.2, hqn⟩) ?_
 rintro v3 out3 ⟨s3, bl3, rfl, hac3, rfl⟩
 simp only [List.append_assoc, List.cons_append, List.nil_append]
 refine Tr.copyP (Ab l) l.length rfl rfl rfl rfl rfl Y58 Sz5 (fun w h => hac3.see (Lies.of h (by repeat (exact in_here)))) (fun e => hac3.nil e) (by simp [Ab, hac3.num]) (by rw [hac3.num]; omega) (List.take_of_length_le (by simp [Ab])) (Bc _) mR (by rw [Block.length (okD _)]; show 67 + l.length ≤ 131; omega) (upd_sig (okD _) ht1.2) uU ?_
 refine Tr.nil (en_n ?_)
 refine Ak (out := (RB n q N cp a2 e2 :: (BB b ({ X with fData := s2, fSig := l ++ X.fSig.drop l.length } : Block) :: (bl2 ++ [])))) (res_none rfl) (Ac (by repeat (first | exact Ay | apply rem_seg)) (Ac (by repeat (first | exact Ay | apply rem_seg)) (Ah (by repeat (first | exact sg_here | apply sg_seg)) Ad))) ?_
 exact ⟨s2, bl2, rfl, hac2, by simp⟩

theorem mk_head (n : Nat) : Meets Tryz.prog 170 [ptr n 0] [] (fun _ => True) (fun v out => ∃ c, v = .func (.func 225) #[] #[ptr c 0] ∧ out = [⟨c, [ptr n 0], 129, 1⟩]) := by
 intro W hW
 refine An Tryz.func170 rfl 4 Tryz.ntmps170 rfl ?_
 refine Sat.seq (Sat.region ?_)
 refine Tr.box1 rfl rfl rfl ?_
 intro n1 hn1 hf1
 refine Tr.a rfl rfl rfl ?_
 refine Tr.nil (Aa (Sat.seq (Sat.region ?_)))
 refine Tr.makeFunc rfl rfl rfl rfl ?_
 refine Tr.a rfl rfl rfl ?_
 refine Tr.nil (Aa (Sat.ret (Am ?_)))
 refine Ak (out := (⟨n1, [ptr n 0], 129, 1⟩ :: [])) (Ae rfl rfl) (Ac rM Ad) ?_
 exact ⟨n1, rfl, by simp⟩

theorem mk_links (n : Nat) : Meets Tryz.prog 171 [ptr n 0] [] (fun _ => True) (fun v out => ∃ c, v = .func (.func 226) #[] #[ptr c 0] ∧ out = [⟨c, [ptr n 0], 129, 1⟩]) := by
 intro W hW
 refine An Tryz.func171 rfl 4 Tryz.ntmps171 rfl ?_
 refine Sat.seq (Sat.region ?_)
 refine Tr.box1 rfl rfl rfl ?_
 intro n1 hn1 hf1
 refine Tr.a rfl rfl rfl ?_
 refine Tr.nil (Aa (Sat.seq (Sat.region ?_)))
 refine Tr.makeFunc rfl rfl rfl rfl ?_
 refine Tr.a rfl rfl rfl ?_
 refine Tr.nil (Aa (Sat.ret (Am ?_)))
 refine Ak (out := (⟨n1, [ptr n 0], 129, 1⟩ :: [])) (Ae rfl rfl) (Ac rM Ad) ?_
 exact ⟨n1, rfl, by simp⟩

theorem mk_tail (n : Nat) : Meets Tryz.prog 172 [ptr n 0] [] (fun _ => True) (fun v out => ∃ c, v = .func (.func 227) #[] #[ptr c 0] ∧ out = [⟨c, [ptr n 0], 129, 1⟩]) := by
 intro W hW
 refine An Tryz.func172 rfl 4 Tryz.ntmps172 rfl ?_
 refine Sat.seq (Sat.region ?_)
 refine Tr.box1 rfl rfl rfl ?_
 intro n1 hn1 hf1
 refine Tr.a rfl rfl rfl ?_
 refine Tr.nil (Aa (Sat.seq (Sat.region ?_)))
 refine Tr.makeFunc rfl rfl rfl rfl ?_
 refine Tr.a rfl rfl rfl ?_
 refine Tr.nil (Aa (Sat.ret (Am ?_)))
 refine Ak (out := (⟨n1, [ptr n 0], 129, 1⟩ :: [])) (Ae rfl rfl) (Ac rM Ad) ?_
 exact ⟨n1, rfl, by simp⟩

theorem opt_linksE (b c n q N cp at' : Nat) (e : Int) (X : Block) (hX : X.ok) (xs : List UInt8) (hx : xs.length = N) (hat : at' ≤ N) (hN : N ≤ cp) (hbig : N ≤ 90000) (hbn : b ≠ n) (hcb : c ≠ b) (hcn : c ≠ n) (hqb : q ≠ b) (hqn : q ≠ n)  (hXl : X.fLinks = Sl.nil) (x1 : UInt64) (a1 : Nat) (e1 : Int) (h1 : Bg xs at' e = (x1, a1, e1)) (ls : List (List UInt8)) (a5 : Nat) (e5 : Int) (h5 : Bs xs (min x1.toNat 17) a1 e1 = (ls, a5, e5)) : Meets Tryz.prog 226 [ptr b 0, ptr c 0] [b, n] (fun W => BlkOk W (BB b X) ∧ BlkOk W (RB n q N cp at' e) ∧ W.cell? ⟨c, 0, none⟩ = some (ptr n 0) ∧ Cb W q 0 (Ab xs))
    (fun v out => ∃ s bl, v = .tuple #[] ∧ Acc s bl (B5 ls) 50 (min x1.toNat 17) 32 ∧ out = RB n q N cp a5 e5 :: BB b ({ X with fLinks := s } : Block) :: bl) := by
  have := opt_links b c n q N cp at' e X hX xs hx hat hN hbig hbn hcb hcn hqb hqn hXl x1 a1 e1 h1
  rw [h5] at this
  exact this
theorem cell_lt {w : World} {c o : Nat} {v : Value} (h : w.cell? ⟨c, o, none⟩ = some v) : c < w.heap.size := by
  rcases Nat.lt_or_ge c w.heap.size with h1 | h1
  · exact h1
  · simp [World.cell?, Array.getElem?_eq_none h1] at h

theorem block_build (r n q N cp c1 c2 c3 : Nat) (xs : List UInt8) (hx : xs.length = N) (hN : N ≤ cp) (hbig : N ≤ 90000) (hr : r ≠ n) (hc1 : c1 ≠ n) (hc2 : c2 ≠ n) (hc3 : c3 ≠ n) (hqn : q ≠ n) (l1 : List UInt8) (a1 : Nat) (e1 : Int) (x2 : UInt64) (a2 : Nat) (e2 : Int) (l3 : List UInt8) (a3 : Nat) (e3 : Int) (h1 : digR xs 0 0 = (l1, a1, e1)) (h2 : Bg xs a1 e1 = (x2, a2, e2)) (h3 : digR xs a2 e2 = (l3, a3, e3)) (x4 : UInt64) (a4 : Nat) (e4 : Int) (h4 : Bg xs a3 e3 = (x4, a4, e4)) (ls : List (List UInt8)) (a5 : Nat) (e5 : Int) (h5 : Bs xs (min x4.toNat 17) a4 e4 = (ls, a5, e5)) (o : Option (List UInt8)) (a6 : Nat) (e6 : Int) (h6 : blkR xs a5 e5 = (o, a6, e6)) (l7 : List UInt8) (a7 : Nat) (e7 : Int) (h7 : takR xs 64 a6 e6 = (l7, a7, e7))  : Meets Tryz.prog 169 [.slice (some ⟨r, 0, none⟩) 3 3] [n] (fun W => BlkOk W (RB n q N cp 0 0) ∧ Cb W q 0 (Ab xs) ∧ (W.cell? ⟨r, 0, none⟩ = some (.func (.func 225) #[] #[ptr c1 0]) ∧ W.cell? ⟨r, 1, none⟩ = some (.func (.func 226) #[] #[ptr c2 0]) ∧ W.cell? ⟨r, 2, none⟩ = some (.func (.func 227) #[] #[ptr c3 0])) ∧ W.cell? ⟨c1, 0, none⟩ = some (ptr n 0) ∧ W.cell? ⟨c2, 0, none⟩ = some (ptr n 0) ∧ W.cell? ⟨c3, 0, none⟩ = some (ptr n 0) ∧ q < W.heap.size) (fun v out => ∃ s2 bl2 s3 bl3, v = agg ({ Block.zero with fWriter := l1, fSeq := x2, fPrev := l3, fLinks := s2, fData := s3, fSig := l7 ++ Block.zero.fSig.drop l7.length } : Block).cells ∧ Acc s2 bl2 (B5 ls) 50 (min x4.toNat 17) 32 ∧ Acc s3 bl3 (Ab (o.getD [])) 5 (o.getD []).length 1 ∧ out = RB n q N cp a7 e7 :: (bl2 ++ bl3)) := by
 intro W hW
 have hd1 := digE_le h1 hx (Nat.zero_le _)
 have hd2 := numE_le h2 hx hd1.1
 have hd3 := digE_le h3 hx hd2
 have hd4 := numE_le h4 hx hd3.1
 have hd5 := digsR_at (e := e4) hx hd4 (min x4.toNat 17)
 rw [h5] at hd5
 have hd6 := blkE_le h6 hx hd5.1
 have hd7 := takE_le h7 hx hd6.1
 have hqlt := hW.2.1
 have hs64 : (l7 ++ Block.zero.fSig.drop l7.length).length = 64 := by rcases hd7.2 with h | h <;> simp [h, Block.zero]
 have okX : ∀ s2 s3, ({ Block.zero with fWriter := l1, fSeq := x2, fPrev := l3, fLinks := s2, fData := s3, fSig := l7 ++ Block.zero.fSig.drop l7.length } : Block).ok := fun s2 s3 => ⟨hd1.2, hd3.2, hs64⟩
 refine A7 (hp0 := [RB n q N cp 0 0]) Tryz.func169 rfl 16 Tryz.ntmps169 rfl (HRep.one hW.1) ?_
 refine Sat.seq (Sat.region ?_)
 refine Tr.alloc (cs := Block.zero.cells) rfl Block.zr rfl ?_
 intro n2 hn2 hf2
 refine Tr.nil (Aa (Sat.seq (Sat.region ?_)))
 refine Tr.alloc (cs := Block.zero.cells) rfl Block.zr rfl ?_
 intro n3 hn3 hf3
 refine Tr.nil (Aa (Sat.seq (Sat.seq (Sat.region ?_))))
 have hS : n3 ≠ n ∧ c1 ≠ n3 ∧ q ≠ n3 := by
  have hl1 := cell_lt hW.2.2.2.1
  have hl2 := hW.2.2.2.2.2.2
  have hl3 : W.heap.size ≤ n3 := hn3
  exact ⟨fun e => hf3 (RB n q N cp 0 0) sP e.symm, by omega, by omega⟩
 have hS2 : c2 ≠ n3 := by
  have hl1 := cell_lt hW.2.2.2.2.1
  have hl3 : W.heap.size ≤ n3 := hn3
  omega
 have hS3 : c3 ≠ n3 := by
  have hl1 := cell_lt hW.2.2.2.2.2.1
  have hl3 : W.heap.size ≤ n3 := hn3
  omega
 refine Tr.m rfl rfl rfl ?_
 refine Tr.lenSl rfl rfl rfl Tryz.underlying243 ?_
 refine Tr.m rfl rfl rfl ?_
 refine Tr.nil (Aa (Sat.block ?_))
 refine Sat.rounds 4 (SRounds.more ?_)
 refine Sat.seq (Sat.region ?_)
 refine Tr.lss rfl rfl rfl rfl rfl ?_
 refine Tr.nil (Aa (Sat.seq ?_))
 refine Sat.cond_t rfl (rfl) ?_
 refine Sat.skip (Aa (Sat.seq (Sat.block (Sat.seq (Sat.region ?_)))))
 refine Tr.idxSl1 rfl rfl rfl rfl Tryz.underlying243 Sz204 0 rfl oM ?_
 refine Tr.loadE rfl rfl rfl Tryz.underlying204 rfl (by (simp; omega)) (hW.2.2.1.1) ?_
 refine Tr.a rfl rfl rfl ?_
 refine Tr.nil (Aa (Sat.region ?_))
 refine Tr.m rfl rfl rfl ?_
 refine Tr.callCL (L := [BB n3 Block.zero, RB n q N cp (0) (0)]) rfl rfl rfl rfl rfl rfl Body225 (opt_head n3 c1 n q N cp 0 0 Block.zero Block.zero_ok xs hx (Nat.zero_le _) hN hbig hS.1 hS.2.1 hc1 hS.2.2 hqn l1 a1 e1 x2 a2 e2 l3 a3 e3 h1 h2 h3) (pm_consE rM rfl rfl (Ac rM Ad)) (A0 rfl) (fun w h => ⟨Ai h Z0, Ai h Z2, h.keeps.cell (by simp; omega) hW.2.2.2.1, Bk h (by simp; omega) hW.2.1⟩) ?_
 rintro v5 out5 ⟨rfl, rfl⟩
 refine Tr.nil (B2 (Aa (Sat.region ?_)))
 refine Tr.aI rfl rfl rfl rfl oM ?_
 refine Tr.m rfl rfl rfl ?_
 refine Tr.nil ?_
 refine Aa (SRounds.more (Sat.seq (Sat.region ?_)))
 refine Tr.lss rfl rfl rfl rfl rfl ?_
 refine Tr.nil (Aa (Sat.seq ?_))
 refine Sat.cond_t rfl (rfl) ?_
 refine Sat.skip (Aa (Sat.seq (Sat.block (Sat.seq (Sat.region ?_)))))
 refine Tr.idxSl1 rfl rfl rfl rfl Tryz.underlying243 Sz204 1 rfl oM ?_
 refine Tr.loadE rfl rfl rfl Tryz.underlying204 rfl (by (simp; omega)) (hW.2.2.1.2.1) ?_
 refine Tr.a rfl rfl rfl ?_
 refine Tr.nil (Aa (Sat.region ?_))
 refine Tr.m rfl rfl rfl ?_
 refine Tr.callCL (L := [BB n3 ({ Block.zero with fWriter := l1, fSeq := x2, fPrev := l3 } : Block), RB n q N cp (a3) (e3)]) rfl rfl rfl rfl rfl rfl Body226 (opt_linksE n3 c2 n q N cp a3 e3 ({ Block.zero with fWriter := l1, fSeq := x2, fPrev := l3 } : Block) ⟨hd1.2, hd3.2, rfl⟩ xs hx hd3.1 hN hbig hS.1 hS2 hc2 hS.2.2 hqn rfl x4 a4 e4 h4 ls a5 e5 h5) (pm_consE rM rfl rfl (Ac rM Ad)) (A0 rfl) (fun w h => ⟨Ai h Z0, Ai h Z1, h.keeps.cell (by simp; omega) hW.2.2.2.2.1, Bk h (by simp; omega) hW.2.1⟩) ?_
 rintro v6 out6 ⟨s2, bl2, rfl, hac2, rfl⟩
 refine Tr.nil (B2 (Aa (Sat.region ?_)))
 refine Tr.aI rfl rfl rfl rfl oM ?_
 refine Tr.m rfl rfl rfl ?_
 refine Tr.nil ?_
 refine Aa (SRounds.more (Sat.seq (Sat.region ?_)))
 refine Tr.lss rfl rfl rfl rfl rfl ?_
 refine Tr.nil (Aa (Sat.seq ?_))
 refine Sat.cond_t rfl (rfl) ?_
 refine Sat.skip (Aa (Sat.seq (Sat.block (Sat.seq (Sat.region ?_)))))
 refine Tr.idxSl1 rfl rfl rfl rfl Tryz.underlying243 Sz204 2 rfl oM ?_
 refine Tr.loadE rfl rfl rfl Tryz.underlying204 rfl (by (simp; omega)) (hW.2.2.1.2.2) ?_
 refine Tr.a rfl rfl rfl ?_
 refine Tr.nil (Aa (Sat.region ?_))
 refine Tr.m rfl rfl rfl ?_
 refine Tr.callCL (L := [BB n3 ({ Block.zero with fWriter := l1, fSeq := x2, fPrev := l3, fLinks := s2 } : Block), RB n q N cp (a5) (e5)]) rfl rfl rfl rfl rfl rfl Body227 (opt_tail n3 c3 n q N cp a5 e5 ({ Block.zero with fWriter := l1, fSeq := x2, fPrev := l3, fLinks := s2 } : Block) ⟨hd1.2, hd3.2, rfl⟩ xs hx hd5.1 hN hbig hS.1 hS3 hc3 hS.2.2 hqn o a6 e6 l7 a7 e7 h6 h7) (pm_consE rM rfl rfl (Ac rM Ad)) (A0 rfl) (fun w h => ⟨Ai h Z1, Ai h Z0, h.keeps.cell (by simp; omega) hW.2.2.2.2.2.1, Bk h (by simp; omega) hW.2.1⟩) ?_
 rintro v7 out7 ⟨s3, bl3, rfl, hac3, rfl⟩
 refine Tr.nil (B2 (Aa (Sat.region ?_)))
 refine Tr.aI rfl rfl rfl rfl oM ?_
 refine Tr.m rfl rfl rfl ?_
 refine Tr.nil ?_
 refine Aa (SRounds.more (Sat.seq (Sat.region ?_)))
 refine Tr.lss rfl rfl rfl rfl rfl ?_
 refine Tr.nil (Aa (Sat.seq ?_))
 refine Sat.cond_f rfl (rfl) ?_
 refine Sat.exit (Bf (Bf (bl_h (Aa (Sat.seq (Sat.region ?_))))))
 refine Tr.lA rfl rfl rfl Y79 rfl Sz79 Z1 (Block.length (by exact okX _ _)) ?_
 refine Tr.sA rfl rfl rfl rfl (Block.isCell (by exact okX _ _)) Sz79 (Block.length (by exact okX _ _)) mR (Block.length (by exact Block.zero_ok)) uU ?_
 refine Tr.nil (Aa (Sat.ret (Am ?_)))
 refine Ak (out := (RB n q N cp a7 e7 :: (bl2 ++ (bl3 ++ [])))) (res_cell rfl rfl Y79 rfl Sz79 mR (by exact Block.length (by exact okX _ _))) (Ac rM (Ah sG (Ah sG Ad))) ?_
 exact ⟨s2, bl2, s3, bl3, rfl, hac2, hac3, by simp⟩

end Go.Proofs.YtdifpjmfabhpiaaGreat
end
