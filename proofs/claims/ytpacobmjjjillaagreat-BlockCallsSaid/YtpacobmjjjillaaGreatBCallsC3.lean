/- Contracts of functions of the loaded program, and the lemmas that they need (part 3). It proves no statement by itself; it has no conditions. -/
import Derived.WalkKit
import Derived.Orders
import Derived.Deep.LoopGhost
import Derived.IntWalk
import Derived.Laws.StructEq
import Derived.Test.YtpacobmjjjillaaGreatRows
import Derived.KernelRfl
import Derived.ArgAppend
import Derived.Deep.AppendSrc
import Derived.Lib.Bytealg
import Derived.Lib.BytesEntry
import Derived.Laws.IdiomStrings
import Derived.Laws.Externs
import Derived.WideKeyArr2
import Derived.ProofKit
import Derived.OpenShut
import Derived.Deep.Slices
import Derived.Laws.Pointers
import Derived.Laws.Cover3
import Derived.LaidEqlPtr
import Derived.LoopN
import Derived.RangeFuncLeaves
import Derived.RangeFuncSeq
import Derived.OrdersIn
import Derived.Defers
import Derived.Laws.MathBits
import Derived.ChangeOld
import Derived.Below
import Derived.Test.YtpacobmjjjillaaGreatBCallsC2
set_option maxRecDepth 100000
set_option maxHeartbeats 8000000
set_option linter.unusedVariables false
set_option linter.unusedSimpArgs false
section
namespace Hw
open Go Go.RowKit

def FW (ro : Option Nat) : Fence := { Fence.wide with round := ro }
def noDefer (ops : Array Oper) : Bool := ops.all fun o => match o.op with | .defer _ => false | _ => true
theorem noDefer_at {ops : Array Oper} (h : noDefer ops = true) {i : Nat} {o : Oper} (hi : ops[i]? = some o) : ∀ c, o.op ≠ .defer c := fun c hc => by
  obtain ⟨hlt, he⟩ := Array.getElem?_eq_some_iff.1 hi
  have := (Array.all_eq_true.1 h) i hlt
  rw [he, hc] at this
  cases this

section
variable {ro : Option Nat} {n : Nat} {P : Program}
theorem calls_FW {f : FuncId} {args : Array Value} {w : World} {R R' : Ending → World → Prop} (h : Calls P f args w R) (hr : ∀ e w, R e w → R' e w) : CallsIn (FW ro) n P f args w R' :=
  show CallsIn Fence.wide n P f args w R' from callsIn_wide.2 (h.mono hr)
theorem rows_FW {row : String} {args : Array Value} {w : World} {R : Value → World → Prop} (h : Rows P row args w R) : RowsIn (FW ro) n P row args w R :=
  show RowsIn Fence.wide n P row args w R from fun c cs _ => let ⟨v, w', r, s⟩ := h c cs; ⟨v, w', r, stepsIn_wide.2 s⟩

theorem wp_in {o : Oper} {a : Act} {w : World} {K : Act → World → Prop} {X : Exit → Act → World → Prop} (h : Oper.wp P o a w K X) (hnd : ∀ c, o.op ≠ .defer c) : Oper.wpIn (FW ro) n P o a w K X := by
  refine ⟨fun f _ => trivial, ?_⟩
  rw [Oper.semAt_eq _ _ _ hnd]
  unfold Oper.wp at h
  generalize (execOp a.eval o).run P w = r at h ⊢
  cases r with
  | ok x w' =>
    cases x <;> simp only [Oper.upon] at h <;> simp only [Oper.uponIn]
    case value => exact h
    case skip => exact h
    case defer => exact h
    case enter f args => exact ⟨fun h0 => (by cases h0), calls_FW h fun e w h => h⟩
    case row => exact ⟨fun h0 => (by cases h0), rows_FW h⟩
  | halt x w' => cases x <;> simp only [Oper.upon] at h <;> simp only [Oper.uponIn] <;> exact h

theorem wpOp_in {ops : Array Oper} {X : Exit → Act → World → Prop} {i : Nat} {K : Act → World → Prop} {a : Act} {w : World} (h : wpOp P ops X i K a w) (hnd : noDefer ops = true) (hX : ∀ a w, ¬ X .outgrown a w) : wpOpIn (FW ro) n P ops X i K a w := by
  unfold wpOp at h
  unfold wpOpIn
  cases ho : ops[i]? with
  | none => rw [ho] at h; exact h
  | some o =>
    rw [ho] at h
    simp only at h ⊢
    split
    · rename_i hw
      rw [if_pos hw] at h
      rcases h with h | ⟨_, a0, w0, h⟩
      · exact wp_in h (noDefer_at hnd ho)
      · exact absurd h (hX a0 w0)
    · rename_i hw
      rw [if_neg hw] at h
      exact ⟨fun f _ => trivial, h⟩
theorem wpOps_in {ops : Array Oper} {X : Exit → Act → World → Prop} (hnd : noDefer ops = true) (hX : ∀ a w, ¬ X .outgrown a w) : ∀ (l : List Nat) (a : Act) (w : World), wpOps P ops X l a w → wpOpsIn (FW ro) n P ops X l a w
  | [], a, w, h => h
  | i :: l, a, w, h => by
    rw [wpOps_cons] at h
    rw [wpOpsIn_cons]
    exact wpOpIn_mono (fun a w h => wpOps_in hnd hX l a w h) (wpOp_in h hnd hX)
end

def SatI (ro : Option Nat) (C : Cx) (code : Code) (s : St) (Q : St → Prop) : Prop :=
  ∀ a w, Rep C s a w → code.wpIn (FW ro) 0 C.P (Fin C Q) a w
theorem fin_out {C : Cx} {Q : St → Prop} : ∀ a w, ¬ Fin C Q .outgrown a w := fun a w h => by cases h.1
theorem SatI.region {ro : Option Nat} {C : Cx} {id : Nat} {ops : List Oper} {s : St} {Q : St → Prop} (hnd : noDefer ops.toArray = true) (h : Tr C ops.toArray (ops.map fun o => (4, o)) s Q) : SatI ro C (.region id ops.toArray false) s Q := by
  intro a w r
  refine wpIn_region (wpOps_in hnd fin_out _ _ _ (wpOps_of_tr _ _ s a w _ sP (fun k => ?_) r h fun s' a' w' r' q => ⟨rfl, s', r', q⟩))
  by_cases hk : k < ops.length
  · simp [hk]
  · simp [hk]
theorem SatI.draw {ro : Option Nat} {C : Cx} {id : Nat} {ops : List Oper} {s : St} {Q : St → Prop} (perm : List (Nat × Nat)) (hm : C.P.follows .mixedOrders = true) (hok : orderOk ops.toArray perm = true) (hnd : noDefer ops.toArray = true)
    (h : Tr C ops.toArray (items ops.toArray perm) s Q) : SatI ro C (.region id ops.toArray true) s Q := by
  intro a w r
  have hlen : perm.length ≤ ops.length := by
    simp only [orderOk, Bool.and_eq_true] at hok
    have hnd := topo_nodup perm [] hok.1.1
    have hlt : ∀ x ∈ perm.map (·.2), x ∈ List.range ops.length := fun x hx => by
      obtain ⟨p, hp, rfl⟩ := List.mem_map.1 hx
      have := (topo_mem perm [] hok.1.1 p hp).1
      simpa using this
    have := hnd.length_le_of_subset hlt
    simpa using this
  have h0 : perm.filter (fun p => !(Array.replicate ops.toArray.size false).getD p.2 false) = perm := List.filter_eq_self.2 fun p _ => by
    rw [Array.getD_eq_getD_getElem?, Array.getElem?_replicate]
    split <;> rfl
  have := wpAny_of_tr (C := C) hok ops.toArray.size (Array.replicate ops.toArray.size false) s a { w with drawn := w.drawn + 1 } Q sP
    (fun j hj => by
      rw [Array.getD_eq_getD_getElem?, Array.getElem?_replicate] at hj
      split at hj <;> simp at hj) (by rw [h0]; simpa using hlen) ⟨r.rs, r.rh.drew _⟩ (by rw [h0]; exact h)
  refine wpIn_region_draw fun t => ?_
  simp only [Region.schedule, hm, Bool.true_or, if_true]
  exact wpOps_in hnd fin_out _ _ _ (wpAny_sound ops.toArray.size t _ a _ this)
theorem SatI.block {ro : Option Nat} {C : Cx} {id : Nat} {x : Code} {s : St} {Q : St → Prop} (h : SatI ro C x s Q) : SatI ro C (.block id x) s Q := fun a w r =>
  wpIn_block (wpIn_mono (h a w r) fun e a w ⟨he, q⟩ => by subst he; exact ⟨rfl, q⟩)

theorem HRep.ofRet {P : Program} {w w' : World} {names : List Nat} {hp : List Blk} (h : Ret names hp w w') (hn : hp.map (·.n) = names) : HRep ⟨P, w, 0, names, [], []⟩ hp w' :=
  ⟨h.cells, h.nodup, fun b hb => .inr (by show b.n ∈ names; rw [← hn]; exact List.mem_map.2 ⟨b, hb, rfl⟩), h.keeps, fun _ h => (by cases h), fun _ _ _ h => (by cases h)⟩
theorem acc_pos {s : Sl} {bl : List Blk} {cells : List Value} {E : TypeId} {n size : Nat} (h : Acc s bl cells E n size) (hn : 0 < n) : ∃ q c, s = ⟨some ⟨q, 0, none⟩, n, c⟩ ∧ n ≤ c ∧ bl = [⟨q, cells, E, c * size⟩] := by
  rcases h with ⟨_, _, _, rfl⟩ | ⟨q, c, h1, h2, _, h4⟩
  · omega
  · exact ⟨q, c, h1, h2, h4⟩
section
variable {C : Cx} {ops : Array Oper} {rest : List (Nat × Oper)} {sl : List (Nat × Value)} {hp : List Blk} {Q : St → Prop} {c d : Nat} {ty : TypeId} {pos : String} {af : Array Edge} {g : Option (Nat × Bool)}
theorem Tr.constB {x : Operand} {b n cap : Nat} {T E : TypeId} {cs : List Value} {m : Nat} (hg : Am ops sl g = true) (hc : Nat.beq c 4 = true) (hd : Nat.blt d C.N = true) (hx : Ah sl x = some (.slice (some ⟨b, 0, none⟩) n cap)) (hu : C.P.underlying T = some (.slice E)) (he : C.P.underlying E = some (.int .u8)) (hb : (⟨b, cs, E, m⟩ : Blk) ∈ hp)
    (k : Tr C ops rest ⟨(d, .slice (some ⟨b, 0, none⟩) n cap) :: sl, hp⟩ Q) : Tr C ops ((c, ⟨some d, .convert T T x, ty, pos, af, g⟩) :: rest) ⟨sl, hp⟩ Q := by
  refine Tr.act (ρ := Unit) (fun _ => True) (fun _ => .slice (some ⟨b, 0, none⟩) n cap) (fun _ => hp) (nbeq' hc) (A8 hg) (C6 (nblt hd)) ⟨known1 hx, fun a w hf hh => ?_⟩ (fun _ _ => k)
  have h1 := hf x (by simp [Op.operands]); rw [hx] at h1
  simp only [Option.some.injEq] at h1
  obtain ⟨full, fr, hbk⟩ := hh.cells _ hb
  have hlt := (hh.cells _ hb).lt
  have hsh : w.shape? b = some (E, full.size) := by unfold World.shape?; rw [hbk.heap]
  obtain ⟨fr', hfr', hfree⟩ : ∃ fr', w.freeze ⟨b, full.size, none⟩ 1 = setBlk w b full E fr' ∧ Free fr' m := by
    refine ⟨if fr.1 == fr.2 then (full.size, full.size + 1) else (min fr.1 full.size, max fr.2 (full.size + 1)), ?_, ?_⟩
    · unfold World.freeze setBlk
      rw [if_neg dE]
      congr 1
      apply Array.ext_getElem?
      intro i
      rw [Array.getElem?_setIfInBounds, Array.getElem?_modify]
      by_cases hi : b = i
      · subst hi
        rw [if_pos rfl, if_pos rfl, if_pos hlt, hbk.heap]
        rfl
      · rw [if_neg hi, if_neg hi]
    · have hf := hbk.free
      have hs := hbk.size
      simp only at hf hs
      by_cases e : fr.1 = fr.2
      · rw [if_pos (by simpa using e)]
        exact ⟨by simp, fun i hi => by simp; omega⟩
      · rw [if_neg (by simpa using e)]
        have hle := hf.le
        have hm : m ≤ fr.1 := by
          rcases Nat.lt_or_ge fr.1 m with h1 | h1
          · have := hf.at' fr.1 h1
            simp at this
            omega
          · exact h1
        exact ⟨by simp; omega, fun i hi => by simp; omega⟩
  have hrun : (execOp a.eval ⟨some d, .convert T T x, ty, pos, af, g⟩).run C.P w = .ok (.value (.slice (some ⟨b, 0, none⟩) n cap)) (setBlk w b full E fr') := by
    simp [execOp, convert, ← h1, run_underlying hu, run_underlying he, markStringish, hsh, hfr']
  unfold Oper.wp
  rw [hrun]
  have hup : Upd hp b cs E m cs hp := by
    clear hh k hf
    induction hp with
    | nil => cases hb
    | cons y l ih =>
      rcases List.mem_cons.1 hb with rfl | h
      · exact .head
      · exact .tail (ih h)
  exact ⟨(), trivial, rfl, hh.upd hup hlt hbk.size hbk.pre hfree⟩

theorem Tr.sliceArrHi {x hi : Operand} {b o len : Nat} {xT E : TypeId} {kl : IntKind} {l : Int} (j : Nat) (hg : Am ops sl g = true) (hk : okD c d C.N = true) (hx : Ah sl x = some (ptr b o)) (hlo : Ah sl hi = some (.int kl l)) (hj : l = j) (hlt : j ≤ len) (hpos : 0 < len) (hu : C.P.underlying xT = some (.array len E)) {sz : Nat} (hs : Sz C.P E sz)
    (k : Tr C ops rest ⟨(d, .slice (some ⟨b, o, none⟩) j len) :: sl, hp⟩ Q) : Tr C ops ((c, ⟨some d, .slice xT x none (some hi) none, ty, pos, af, g⟩) :: rest) ⟨sl, hp⟩ Q :=
  .pv hg hk ⟨by simpa [Known, Op.operands] using known2 hx hlo, fun ρ hfi w => by
    have h1 := hfi x (by simp [Op.operands]); rw [hx] at h1
    have h2 := hfi hi (by simp [Op.operands]); rw [hlo] at h2
    simp only [Option.some.injEq] at h1 h2
    subst hj
    have e : ¬ (len = 0) := by omega
    simp [execOp, Instr.sliceAt, ← h1, ← h2, run_underlying hu, Instr.sureAddr, Instr.sliceBounds, Instr.sliceBound, asIntOf, Da hs, B3, e, hlt]⟩ k

theorem Tr.slice3 {x lo hi mx : Operand} {b o n cap : Nat} {T E : TypeId} {kl kh km : IntKind} {l h m : Int} {sz : Nat} (i j t : Nat) (hg : Am ops sl g = true) (hk : okD c d C.N = true) (hx : Ah sl x = some (.slice (some ⟨b, o, none⟩) n cap)) (hl : Ah sl lo = some (.int kl l)) (hh : Ah sl hi = some (.int kh h)) (hm : Ah sl mx = some (.int km m)) (hi' : l = i) (hj : h = j) (ht : m = t) (hij : i ≤ j) (hjt : j ≤ t) (htc : t ≤ cap)
    (hu : C.P.underlying T = some (.slice E)) (hs : Sz C.P E sz)
    (k : Tr C ops rest ⟨(d, .slice (some ⟨b, if t = i then o else o + i * sz, none⟩) (j - i) (t - i)) :: sl, hp⟩ Q) : Tr C ops ((c, ⟨some d, .slice T x (some lo) (some hi) (some mx), ty, pos, af, g⟩) :: rest) ⟨sl, hp⟩ Q :=
  .pv hg hk ⟨fun z hz => by
    simp [Op.operands] at hz
    rcases hz with rfl | rfl | rfl | rfl
    · simp [hx]
    · simp [hl]
    · simp [hh]
    · simp [hm], fun ρ hfi w => by
    have h1 := hfi x (by simp [Op.operands]); rw [hx] at h1
    have h2 := hfi lo (by simp [Op.operands]); rw [hl] at h2
    have h3 := hfi hi (by simp [Op.operands]); rw [hh] at h3
    have h4 := hfi mx (by simp [Op.operands]); rw [hm] at h4
    simp only [Option.some.injEq] at h1 h2 h3 h4
    subst hi'
    subst hj
    subst ht
    by_cases e : t = i
    · subst e
      simp [execOp, Instr.sliceAt, Instr.slice, ← h1, ← h2, ← h3, ← h4, run_underlying hu, Instr.sliceBounds, Instr.sliceBound, asIntOf, Da hs, B3, hjt, hij, htc]
    · simp [execOp, Instr.sliceAt, Instr.slice, ← h1, ← h2, ← h3, ← h4, run_underlying hu, Instr.sliceBounds, Instr.sliceBound, asIntOf, Da hs, B3, e, hjt, hij, htc]⟩ k
end

def YOp (C : Cx) (y : Oper) (s : St) (K : St → Prop) : Prop := y.guard = none ∧ ∀ a w, Rep C s a w → y.wpIn Fence.wide 0 C.P a w (fun a' w' => ∃ s2, Rep C s2 a' w' ∧ K s2) (fun _ _ _ => False)

theorem Sat.regionY {C : Cx} {id : Nat} {ops : List Oper} {s : St} {Q : Exit → St → Prop} (k : Nat) {y : Oper} (hy : ops[k]? = some y) (hnd : noDefer ops.toArray = true)
    (h : Tr C ops.toArray ((ops.take k).map fun o => (4, o)) s (fun s1 => YOp C y s1 fun s2 => Tr C ops.toArray ((ops.drop (k + 1)).map fun o => (4, o)) s2 (Q .normal))) : Sat C (.region id ops.toArray false) s Q := by
  intro a w r
  refine wpIn_wide (n := 0).1 ?_
  refine wpIn_mono (Q := Fin C (Q .normal)) ?_ fun e a' w' ⟨he, s', r', q⟩ => by subst he; exact ⟨s', r', q⟩
  have hk : k < ops.length := by
    rcases Nat.lt_or_ge k ops.length with h1 | h1
    · exact h1
    · rw [List.getElem?_eq_none h1] at hy; cases hy
  refine wpIn_region ?_
  have e : List.range ops.toArray.size = List.range k ++ k :: List.range' (k + 1) (ops.length - (k + 1)) := by
    rw [List.size_toArray, List.range_eq_range', List.range_eq_range', show ops.length = k + (1 + (ops.length - (k + 1))) by omega, ← List.range'_append_1, ← List.range'_append_1]
    simp
    omega
  rw [e]
  have hB : ∀ s2 a w, Rep C s2 a w → Tr C ops.toArray ((ops.drop (k + 1)).map fun o => (4, o)) s2 (Q .normal) → wpOpsIn Fence.wide 0 C.P ops.toArray (Fin C (Q .normal)) (List.range' (k + 1) (ops.length - (k + 1))) a w := fun s2 a w r2 h2 => by
    refine wpOps_in (ro := none) hnd fin_out _ _ _ (wpOps_of_tr _ _ s2 a w _ sP (fun j => ?_) r2 h2 fun s' a' w' r' q => ⟨rfl, s', r', q⟩)
    by_cases hj : j < ops.length - (k + 1)
    · rw [List.getElem?_range' hj]
      simp only [Option.bind_some, List.getElem?_map, List.getElem?_drop, List.getElem?_toArray, Nat.one_mul]
      cases ops[k + 1 + j]? <;> rfl
    · rw [List.getElem?_eq_none (by simp; omega), List.getElem?_map, List.getElem?_drop, List.getElem?_eq_none oM]
      rfl
  have hA : ∀ (l : List (Nat × Oper)) (is : List Nat) (s : St) (a : Act) (w : World), is.length = l.length → (∀ j : Nat, (is[j]?).bind (fun i => ops.toArray[i]?) = (l[j]?).map Prod.snd) → Rep C s a w →
      Tr C ops.toArray l s (fun s1 => YOp C y s1 fun s2 => Tr C ops.toArray ((ops.drop (k + 1)).map fun o => (4, o)) s2 (Q .normal)) →
      wpOpsIn Fence.wide 0 C.P ops.toArray (Fin C (Q .normal)) (is ++ k :: List.range' (k + 1) (ops.length - (k + 1))) a w := by
    intro l
    induction l with
    | nil =>
      intro is s a w hl _ r h
      have : is = [] := List.eq_nil_of_length_eq_zero hl
      subst this
      cases h with
      | dup h => exact absurd r.rh.nodup h
      | nil h =>
        rw [List.nil_append, wpOpsIn_cons]
        unfold wpOpIn
        have hy' : ops.toArray[k]? = some y := by simpa using hy
        rw [hy']
        simp only
        rw [if_pos (by unfold Region.wanted; rw [h.1])]
        have := h.2 a w r
        refine Oper.wpIn_mono (K := fun a' w' => ∃ s2, Rep C s2 a' w' ∧ Tr C ops.toArray ((ops.drop (k + 1)).map fun o => (4, o)) s2 (Q .normal)) (fun a' w' ⟨s2, r2, h2⟩ => hB s2 a' w' r2 h2) ?_
        unfold Oper.wpIn at this ⊢
        refine ⟨this.1, ?_⟩
        have := this.2
        generalize (y.semAt Fence.wide.round a.eval).run C.P w = res at this ⊢
        cases res with
        | ok x w' =>
          cases x <;> simp only [Oper.uponIn] at this ⊢
          case value => exact this
          case skip => exact this
          case defer => exact this
          case enter f args =>
            refine ⟨this.1, CallsIn.mono this.2 fun e w'' he => ?_⟩
            cases e with
            | returned v => exact he
            | panicked ch => exact he.elim
            | outgrown => exact he.elim (fun _ hx => hx.elim (fun _ hy => hy.elim))
          case row row args => exact this
          case round l f tmps ars bd =>
            refine ⟨this.1, RoundIn.mono this.2 fun e w'' he => ?_⟩
            cases e with
            | returned v => exact he
            | panicked ch => exact he.elim
            | outgrown => exact he.elim (fun _ hx => hx.elim (fun _ hy => hy.elim))
        | halt x w' => cases x <;> simp only [Oper.uponIn] at this
    | cons p l ih =>
      intro is s a w hl he r h
      obtain ⟨c, o⟩ := p
      cases is with
      | nil => cases hl
      | cons i is =>
        rw [List.cons_append, wpOpsIn_cons]
        have h0 : ops.toArray[i]? = some o := by simpa using he 0
        refine wpOp_in (ro := none) (X := Fin C (Q .normal)) (Tr.step h0 h a w r _ (fun s' a' w' r' k' => ?_) _) hnd fin_out
        exact ih is s' a' w' (by simpa using hl) (fun j => by simpa using he (j + 1)) r' k'
  refine hA _ (List.range k) s a w (by simp; omega) (fun j => ?_) r h
  by_cases hj : j < k
  · rw [List.getElem?_range hj]
    simp only [Option.bind_some, List.getElem?_map, List.getElem?_toArray]
    rw [List.getElem?_take_of_lt hj]
    cases ops[j]? <;> rfl
  · rw [List.getElem?_eq_none (by simp; omega), List.getElem?_map, List.getElem?_eq_none (by simp; omega)]
    rfl

theorem yop {P : Program} {w1 : World} {N : Nat} {names : List Nat} {sl : List (Nat × Value)} {hp hp' : List Blk} {d : Nat} {ty : TypeId} {pos : String} {af : Array Edge} {f x : Operand} {ats : Array TypeId} {l : Nat} {v : Value} {K : St → Prop} (hd : Nat.blt d N = true)
    (hf : Ah sl f = some (.func (.yield l) #[] #[])) (hx : Ah sl x = some v) (hY : ∀ w, HRep ⟨P, w1, 0, names, [], []⟩ hp w → YieldAt Fence.wide 0 P l #[v] w fun e w' => e = .returned (.bool true) ∧ HRep ⟨P, w1, 0, names, [], []⟩ hp' w')
    (k : K ⟨(d, .bool true) :: sl, hp'⟩) : YOp ⟨P, w1, N, names, [], []⟩ ⟨some d, .call ⟨.value f, #[x], ats⟩, ty, pos, af, none⟩ ⟨sl, hp⟩ K := by
  refine ⟨rfl, fun a w r => ?_⟩
  have h1 := r.rs.eval hf
  have h2 := r.rs.eval hx
  obtain ⟨fn, tmps, ars, bd, hrun, hR⟩ := hY w ⟨r.rh.cells, r.rh.nodup, r.rh.own, r.rh.keeps, r.rh.kok, r.rh.kd⟩
  refine ⟨fun _ _ => trivial, ?_⟩
  rw [show (Oper.semAt Fence.wide.round a.eval ⟨some d, .call ⟨.value f, #[x], ats⟩, ty, pos, af, none⟩).run P w = .ok (.round l fn tmps ars bd) w by
    rw [Oper.semAt_eq _ _ _ (by intro c hc; cases hc)]
    simp [execOp, resolve, Deferred.ofValue, h1, h2, invoke, hrun]]
  simp only [Oper.uponIn]
  refine ⟨fun h0 => (by cases h0), RoundIn.mono hR fun e w' ⟨he, hh⟩ => ?_⟩
  subst he
  exact ⟨⟨(d, .bool true) :: sl, hp'⟩, ⟨r.rs.put (some d) (.bool true) fun t ht => by cases ht; exact nblt hd, hh.cells, hh.nodup, hh.own, hh.keeps, hh.kok, hh.kd⟩, k⟩

theorem HRep.base {P : Program} {w : World} {N : Nat} {names : List Nat} {hp : List Blk} (hc : ∀ b ∈ hp, BlkOk w b) (hn : hp.map (·.n) = names) (hd : names.Nodup) : HRep ⟨P, w, N, names, [], []⟩ hp w :=
  ⟨hc, by rw [hn]; exact hd, fun b hb => .inr (by rw [← hn]; exact List.mem_map.2 ⟨b, hb, rfl⟩), Keeps.refl _ _, fun _ h => (by cases h), fun _ _ _ h => (by cases h)⟩
theorem HRep.reN {P : Program} {w w' : World} {N N' : Nat} {names : List Nat} {hp : List Blk} (h : HRep ⟨P, w, N, names, [], []⟩ hp w') : HRep ⟨P, w, N', names, [], []⟩ hp w' :=
  ⟨h.cells, h.nodup, h.own, h.keeps, h.kok, h.kd⟩

theorem wpIn_range {C : Cx} {sl : List (Nat × Value)} {g : Operand} {p0 : Tmp} {assign body : Code} {QQ : Exit → Act → World → Prop} {a : Act} {w : World} {gf : Nat} {lb : Array Value} (hpF : Nat → List Blk) (names : List Nat) (enc : Nat → Value) (K : Nat) (slA : Nat → List (Nat × Value))
    (hrep : Rep C ⟨sl, hpF 0⟩ a w) (hkb : C.kb = []) (hg : Ah sl g = some (.func (.func gf) #[] lb)) (eg : Ay C.P gf) (hp0 : p0 < C.N) (hnames : ∀ i, (hpF i).map (·.n) = names)
    (iter : ∀ (l : Nat) (w1 : World), HRep ⟨C.P, w1, 0, names, [], []⟩ (hpF 0) w1 →
      (∀ i, i < K → ∀ W, HRep ⟨C.P, w1, 0, names, [], []⟩ (hpF i) W → YieldAt Fence.wide 0 C.P l #[enc i] W fun e W' => e = .returned (.bool true) ∧ HRep ⟨C.P, w1, 0, names, [], []⟩ (hpF (i + 1)) W') →
      CallsIn Fence.wide 0 C.P gf (#[.func (.yield l) #[] #[]] ++ lb) w1 fun e W' => (∃ v, e = .returned v) ∧ HRep ⟨C.P, w1, 0, names, [], []⟩ (hpF K) W')
    (hassign : ∀ i, i < K → ∀ l W, HRep ⟨C.P, W, C.N, names, [], []⟩ (hpF i) W → SatI (some l) ⟨C.P, W, C.N, names, [], []⟩ assign ⟨(p0, enc i) :: sl, hpF i⟩ (fun s' => s'.hp = hpF i ∧ s'.sl = slA i))
    (hbody : ∀ i, i < K → ∀ l W, HRep ⟨C.P, W, C.N, names, [], []⟩ (hpF i) W → SatI (some l) ⟨C.P, W, C.N, names, [], []⟩ body ⟨slA i, hpF i⟩ (fun s' => s'.hp = hpF (i + 1)))
    (hdone : ∀ D W, HRep C (hpF K) W → W.heap[D]? = some (.deferred (some [])) → C.W0.heap.size ≤ D → D ∉ names → QQ .normal { a with defers := { target := .collected D, args := #[] } :: a.defers } W) :
    (Code.rangeFunc g #[p0] assign body).wpIn Fence.wide 0 C.P QQ a w := by
  have hnd : names.Nodup := by rw [← hnames 0]; exact hrep.rh.nodup
  have hlt : ∀ k ∈ names, k < w.heap.size := fun k hk => by
    rw [← hnames 0] at hk
    obtain ⟨b, hb, rfl⟩ := List.mem_map.1 hk
    exact (hrep.rh.cells b hb).lt
  have inN : ∀ i, ∀ b ∈ hpF i, b.n ∈ names := fun i b hb => by rw [← hnames i]; exact List.mem_map.2 ⟨b, hb, rfl⟩
  refine wpIn_rangeFunc ?_
  intro fn _
  obtain ⟨rec, hrec⟩ : ∃ rec : LoopState → Option Code → Loop, rec = fun st pe => { state := st, pending := pe, fn, tmps := a.tmps, params := #[p0], assign, body, defers := w.heap.size } := ⟨_, rfl⟩
  obtain ⟨w1, hw1⟩ : ∃ w1, (w.alloc (.deferred (some []))).alloc (.loop (rec .ready none)) = w1 := ⟨_, rfl⟩
  have hsz1 : w1.heap.size = w.heap.size + 2 := by rw [← hw1]; simp
  have hL1 : w1.heap[w.heap.size + 1]? = some (.loop (rec .ready none)) := by
    rw [← hw1]; have := World.alloc_heap_new (w.alloc (.deferred (some []))) (.loop (rec .ready none)); rwa [World.size_alloc] at this
  have hK1 : w1.heap[w.heap.size]? = some (.deferred (some [])) := by
    rw [← hw1]; exact (Below.heap_alloc _ _ _ sP).trans (World.alloc_heap_new w _)
  have hold : ∀ k, k < w.heap.size → w1.heap[k]? = w.heap[k]? := fun k hk => by
    rw [← hw1]; exact (Below.heap_alloc _ _ _ (by simp; omega)).trans (Below.heap_alloc _ _ _ hk)
  have hH : HRep ⟨C.P, w1, 0, names, [], []⟩ (hpF 0) w1 := HRep.base (fun b hb => (hrep.rh.cells b hb).of_heap (hold _ (hrep.rh.cells b hb).lt)) (hnames 0) hnd
  have lN : w.heap.size + 1 ∉ names := fun h => by have := hlt _ h; omega
  have dN : w.heap.size ∉ names := fun h => by have := hlt _ h; omega
  refine ⟨w.heap.size + 1, [{ target := .collected w.heap.size, args := #[] }], w1, { target := .fn (.func gf) lb, args := #[.func (.yield (w.heap.size + 1)) #[] #[]] }, w1, gf,
    #[.func (.yield (w.heap.size + 1)) #[] #[]] ++ lb, w1, ?_, ?_, fun _ _ => trivial, ?_, fun h => (by cases h), ?_⟩
  · rw [← hw1, hrec]; exact run_enterLoop_outer _ _ _ _ _
  · have := hrep.rs.eval hg
    simp only [resolve, this]
    simp [go_sem]
  · have := eg (#[.func (.yield (w.heap.size + 1)) #[] #[]] ++ lb) w1
    simpa [invoke] using this
  refine (iter (w.heap.size + 1) w1 hH fun i hi W hh => ?_).mono ?_
  · -- one round
    have hl : W.heap[w.heap.size + 1]? = some (.loop (rec .ready none)) := (hh.keeps.block _ (by show _ < w1.heap.size; omega) lN).trans hL1
    have hy := run_yield (P := C.P) (args := #[enc i]) hl (by rw [hrec]; rfl)
    rw [hrec] at hy
    have rep0 : Rep ⟨C.P, W, C.N, names, [], []⟩ ⟨(p0, enc i) :: sl, hpF i⟩ { tmps := (#[p0].zip #[enc i]).foldl (fun t (p, v) => t.setIfInBounds p v) a.tmps, defers := [] } W := by
      refine ⟨?_, HRep.base hh.cells (hnames i) hnd⟩
      have s0 : SRep [] C.N sl ⟨a.tmps, []⟩ := ⟨hrep.rs.size, rfl, hrep.rs.slots⟩
      have s1 := s0.put (some p0) (enc i) fun t ht => by cases ht; exact hp0
      have e : (#[p0].zip #[enc i]).foldl (fun t (p, v) => t.setIfInBounds p v) a.tmps = a.tmps.setIfInBounds p0 (enc i) := by simp
      rw [e]
      exact s1
    refine ⟨fn, _, assign, body, hy, roundIn_of_wpIn trivial ?_⟩
    refine wpIn_mono (hassign i hi (w.heap.size + 1) W (HRep.base hh.cells (hnames i) hnd) _ _ rep0) fun e a1 W1 ⟨he, s1, r1, hs1, hs2⟩ => ?_
    subst he
    have hl1 : W1.heap[w.heap.size + 1]? = some (.loop (rec .ready none)) := (r1.rh.keeps.block _ (Array.getElem?_eq_some_iff.1 hl).1 lN).trans hl
    have hlt1 := (Array.getElem?_eq_some_iff.1 hl1).1
    refine ⟨_, run_beginRound hl1 (by rw [hrec]), ?_⟩
    obtain ⟨W2, hW2⟩ : ∃ W2, W1.putObj (w.heap.size + 1) (.loop { rec .ready none with state := .busy }) = W2 := ⟨_, rfl⟩
    rw [hW2]
    have ne1 : ∀ j, ∀ b ∈ hpF j, b.n ≠ w.heap.size + 1 := fun j b hb e => lN (e ▸ inN j b hb)
    have hc2 : ∀ b ∈ hpF i, BlkOk W2 b := fun b hb => by
      rw [← hs1] at hb
      refine (r1.rh.cells b hb).of_heap ?_
      rw [← hW2]
      rw [hs1] at hb
      exact World.putObj_heap_other (ne1 i b hb)
    have hl2 : W2.heap[w.heap.size + 1]? = some (.loop { rec .ready none with state := .busy }) := by rw [← hW2]; exact World.putObj_heap_same hlt1
    have rep2 : Rep ⟨C.P, W2, C.N, names, [], []⟩ ⟨slA i, hpF i⟩ a1 W2 := ⟨by have := r1.rs; rw [hs2] at this; exact this, HRep.base hc2 (hnames i) hnd⟩
    refine wpIn_mono (hbody i hi (w.heap.size + 1) W2 (HRep.base hc2 (hnames i) hnd) _ _ rep2) fun e a3 W3 ⟨he, s3, r3, hs3⟩ => ?_
    subst he
    have hl3 : W3.heap[w.heap.size + 1]? = some (.loop { rec .ready none with state := .busy }) := (r3.rh.keeps.block _ (Array.getElem?_eq_some_iff.1 hl2).1 lN).trans hl2
    have hend := run_endRound (P := C.P) none hl3
    refine ⟨_, _, hend, rfl, ?_⟩
    have hlt3 := (Array.getElem?_eq_some_iff.1 hl3).1
    refine ⟨fun b hb => ?_, by rw [hnames]; exact hnd, fun b hb => .inr (inN _ b hb), ?_, fun _ h => (by cases h), fun _ _ _ h => (by cases h)⟩
    · refine BlkOk.of_heap (r3.rh.cells b (by rw [hs3]; exact hb)) ?_
      exact World.putObj_heap_other (ne1 _ b hb)
    · have k1 := hh.keeps
      have k2 := r1.rh.keeps
      have k3 := r3.rh.keeps
      have os2 : W2.os = W1.os := by rw [← hW2]; rfl
      have tp2 : W2.tape = W1.tape := by rw [← hW2]; rfl
      have ot2 : W2.output = W1.output := by rw [← hW2]; rfl
      have sz2 : W2.heap.size = W1.heap.size := by rw [← hW2]; simp [World.putObj]
      refine ⟨k3.os.trans (os2.trans (k2.os.trans k1.os)), k3.tape.trans (tp2.trans (k2.tape.trans k1.tape)), k3.output.trans (ot2.trans (k2.output.trans k1.output)), ?_, fun j hj hjn => ?_⟩
      · have h1 := k1.size
        have h2 := k2.size
        have h3 := k3.size
        show w1.heap.size ≤ _
        have : (W3.putObj (w.heap.size + 1) (.loop { rec .ready none with state := .ready })).heap.size = W3.heap.size := by simp [World.putObj]
        simp only [World.putObj, Array.size_setIfInBounds]
        simp only at h1 h2 h3
        omega
      · by_cases hjl : j = w.heap.size + 1
        · subst hjl
          rw [hL1]
          refine (World.putObj_heap_same hlt3).trans ?_
          rw [hrec]
          rfl
        · refine (World.putObj_heap_other hjl).trans ?_
          have h1 := k1.size
          have h2 := k2.size
          simp only at h1 h2 hj
          refine (k3.block j (by simp only; omega) hjn).trans ?_
          simp only
          rw [← hW2]
          refine (World.putObj_heap_other hjl).trans ?_
          exact (k2.block j (by simp only; omega) hjn).trans (k1.block j hj hjn)
  · -- behind the iterator
    rintro e W ⟨⟨v, rfl⟩, hh⟩
    have hl : W.heap[w.heap.size + 1]? = some (.loop (rec .ready none)) := (hh.keeps.block _ (by show _ < w1.heap.size; omega) lN).trans hL1
    have hd : W.heap[w.heap.size]? = some (.deferred (some [])) := (hh.keeps.block _ (by simp only; omega) dN).trans hK1
    refine ⟨none, _, by have := run_endLoop (P := C.P) hl (by rw [hrec]; simp); rw [hrec] at this; exact this, ?_⟩
    have kw := hrep.rh.keeps
    refine hdone w.heap.size _ ⟨fun b hb => (hh.cells b hb).of_heap (World.putObj_heap_other fun e => lN (e ▸ inN K b hb)), by rw [hnames]; exact hnd, fun b hb => ?_, ?_, by rw [hkb]; exact fun _ h => (by cases h), by rw [hkb]; exact fun _ _ _ h => (by cases h)⟩
      ((World.putObj_heap_other oM).trans hd) kw.size dN
    · have := inN K b hb
      rw [← hnames 0] at this
      obtain ⟨b0, hb0, e⟩ := List.mem_map.1 this
      rw [← e]
      exact hrep.rh.own b0 hb0
    · have k1 := hh.keeps
      have osw : w1.os = w.os ∧ w1.tape = w.tape ∧ w1.output = w.output := by rw [← hw1]; exact ⟨rfl, rfl, rfl⟩
      refine ⟨k1.os.trans (osw.1.trans kw.os), k1.tape.trans (osw.2.1.trans kw.tape), k1.output.trans (osw.2.2.trans kw.output), ?_, fun j hj hjn => ?_⟩
      · have h1 := k1.size
        have h2 := kw.size
        simp only [World.putObj, Array.size_setIfInBounds]
        simp only at h1
        omega
      · have h2 := kw.size
        have hjN : j ∉ names := fun h => by
          rw [← hnames 0] at h
          obtain ⟨b0, hb0, e⟩ := List.mem_map.1 h
          rcases hrep.rh.own b0 hb0 with h3 | h3
          · omega
          · exact hjn (e ▸ h3)
        refine (World.putObj_heap_other oM).trans ?_
        exact (k1.block j (by simp only; omega) hjN).trans ((hold j oM).trans (kw.block j hj hjn))

def endAtA (P : Program) (N : Nat) (ds : List Deferred) (fn : Func) (R : Value → List Blk → Prop) (s : St) : Prop :=
  ∃ v out, (∀ W names, Res ⟨P, W, N, names, [], ds⟩ fn s v) ∧ (∀ b ∈ out, b ∈ s.hp) ∧ ((s.hp.map (·.n)).Nodup → (out.map (·.n)).Nodup) ∧ R v out
def endQA (P : Program) (N : Nat) (ds : List Deferred) (fn : Func) (R : Value → List Blk → Prop) : Exit → St → Prop
  | .normal, s | .ret, s => endAtA P N ds fn R s
  | _, _ => False
theorem enA_r {P : Program} {N : Nat} {ds : List Deferred} {fn : Func} {R : Value → List Blk → Prop} {s : St} (h : endAtA P N ds fn R s) : endQA P N ds fn R .ret s := h
def RangeSt (P : Program) (W : World) (N : Nat) (fn : Func) (g : Operand) (p0 : Tmp) (assign body tail : Code) (R : Value → List Blk → Prop) (s : St) : Prop :=
  ∃ (gf : Nat) (lb : Array Value) (hpF : Nat → List Blk) (names : List Nat) (enc : Nat → Value) (K : Nat) (slA : List (Nat × Value) → Nat → List (Nat × Value)), s.hp = hpF 0 ∧ Ah s.sl g = some (.func (.func gf) #[] lb) ∧ Ay P gf ∧ p0 < N ∧ (∀ i, (hpF i).map (·.n) = names) ∧
    (∀ (l : Nat) (w1 : World), HRep ⟨P, w1, 0, names, [], []⟩ (hpF 0) w1 →
      (∀ i, i < K → ∀ W, HRep ⟨P, w1, 0, names, [], []⟩ (hpF i) W → YieldAt Fence.wide 0 P l #[enc i] W fun e W' => e = .returned (.bool true) ∧ HRep ⟨P, w1, 0, names, [], []⟩ (hpF (i + 1)) W') →
      CallsIn Fence.wide 0 P gf (#[.func (.yield l) #[] #[]] ++ lb) w1 fun e W' => (∃ v, e = .returned v) ∧ HRep ⟨P, w1, 0, names, [], []⟩ (hpF K) W') ∧
    (∀ i, i < K → ∀ l W, HRep ⟨P, W, N, names, [], []⟩ (hpF i) W → SatI (some l) ⟨P, W, N, names, [], []⟩ assign ⟨(p0, enc i) :: s.sl, hpF i⟩ (fun s' => s'.hp = hpF i ∧ s'.sl = slA s.sl i)) ∧
    (∀ i, i < K → ∀ l W, HRep ⟨P, W, N, names, [], []⟩ (hpF i) W → SatI (some l) ⟨P, W, N, names, [], []⟩ body ⟨slA s.sl i, hpF i⟩ (fun s' => s'.hp = hpF (i + 1))) ∧
    (∀ D W2, Sat ⟨P, W2, N, names, [], [{ target := .collected D, args := #[] }]⟩ tail ⟨s.sl, hpF K⟩ (endQA P N [{ target := .collected D, args := #[] }] fn R))

theorem calls_range {P : Program} {f : FuncId} {fn : Func} {R0 R1 assign body tail : Code} {id : Nat} {g : Operand} {p0 : Tmp} {args : List Value} {W : World} {R : Value → List Blk → Prop}
    (hf : P.funcs[f]? = some fn) (hb : fn.body = some (.seq R0 (.seq (.seq R1 (.block id (.rangeFunc g #[p0] assign body))) tail))) (N : Nat) (hN : fn.ntmps = N) (hlen : Nat.ble args.length N = true)
    (h : Sat ⟨P, W, N, [], [], []⟩ R0 ⟨argSlots 0 args, []⟩ (thenQ (fun s' => Sat ⟨P, W, N, [], [], []⟩ R1 s' (thenQ (RangeSt P W N fn g p0 assign body tail R) (fun _ _ => False))) (fun _ _ => False))) :
    Calls P f args.toArray W fun e W' => ∃ v out, e = .returned v ∧ R v out ∧ Ret [] out W W' := by
  have hlen := Nat.le_of_ble_eq_true hlen
  subst hN
  refine callsIn_wide.1 (callsIn_of_wp_marks (F := Fence.wide) (n := 0) hf hb trivial ?_)
  have rep0 : Rep ⟨P, W, fn.ntmps, [], [], []⟩ ⟨argSlots 0 args, []⟩ { tmps := args.toArray ++ Array.replicate (fn.ntmps - args.toArray.size) undef, defers := [] } W := by
    refine ⟨⟨?_, rfl, fun t v ht => ?_⟩, HRep.nil _⟩
    · simp; omega
    · have := argSlots_look args 0 t v ht
      rw [Array.getElem?_append]
      have hlt : t < args.length := by
        rcases Nat.lt_or_ge t args.length with h1 | h1
        · exact h1
        · rw [List.getElem?_eq_none oM] at this; cases this.2
      simp only [List.size_toArray]
      rw [if_pos hlt]
      simpa using this.2
  refine wpIn_seq (wpIn_wide.2 (wp_mono (h _ _ rep0) fun e a w ⟨s, r, q⟩ => ?_))
  cases e with
  | normal =>
    refine wpIn_seq (wpIn_seq (wpIn_wide.2 (wp_mono (q a w r) fun e a1 w1 ⟨s1, r1, q1⟩ => ?_)))
    cases e with
    | normal =>
      obtain ⟨gf, lb, hpF, names, enc, K, slA, hs, hg, eg, hp0, hnames, iter, hassign, hbody, htail⟩ := q1
      obtain ⟨sl, hp⟩ := s1
      simp only at hs hg hassign htail
      subst hs
      refine wpIn_block (wpIn_range (C := ⟨P, W, fn.ntmps, [], [], []⟩) hpF names enc K (slA sl) r1 rfl hg eg hp0 hnames iter hassign hbody fun D W2 hh hD hDl hDn => ?_)
      refine wpIn_wide.2 ?_
      have hnd : names.Nodup := by rw [← hnames K]; exact hh.nodup
      have rep2 : Rep ⟨P, W2, fn.ntmps, names, [], [{ target := .collected D, args := #[] }]⟩ ⟨sl, hpF K⟩ { a1 with defers := { target := .collected D, args := #[] } :: a1.defers } W2 := by
        refine ⟨⟨r1.rs.size, ?_, r1.rs.slots⟩, hh.cells, hh.nodup, fun b hb => .inr ?_, Keeps.refl _ _, fun _ h => (by cases h), fun _ _ _ h => (by cases h)⟩
        · show _ :: a1.defers = _
          rw [r1.rs.defers]
        · show b.n ∈ names
          rw [← hnames K]; exact List.mem_map.2 ⟨b, hb, rfl⟩
      refine wp_mono (htail D W2 _ _ rep2) fun e a3 W3 ⟨s3, r3, q3⟩ => ?_
      have own : ∀ b : Blk, (W2.heap.size ≤ b.n ∨ b.n ∈ names) → W.heap.size ≤ b.n := fun b hb => by
        rcases hb with h1 | h1
        · exact Nat.le_trans hh.keeps.size h1
        · rw [← hnames K] at h1
          obtain ⟨b0, hb0, e⟩ := List.mem_map.1 h1
          rcases hh.own b0 hb0 with h2 | h2
          · rw [← e]; exact h2
          · cases h2
      have fin : endAtA P fn.ntmps [{ target := .collected D, args := #[] }] fn R s3 → LeavesInM Fence.wide 0 P fn a3.tmps (fun e W' => ∃ v out, e = .returned v ∧ R v out ∧ Ret [] out W W') a3.defers .returning W3 := by
        rintro ⟨v, out, hr, hsub, hnd3, hR⟩
        have hd3 : a3.defers = [{ target := .collected D, args := #[] }] := r3.rs.defers
        rw [hd3]
        have hD3 : W3.heap[D]? = some (.deferred (some [])) := (r3.rh.keeps.block D (Array.getElem?_eq_some_iff.1 hD).1 hDn).trans hD
        refine ⟨by simp, .inl ⟨D, _, rfl, run_takeDeferred hD3, ?_⟩⟩
        have hDout : ∀ b ∈ s3.hp, b.n ≠ D := fun b hb e => by
          obtain ⟨full, fr, hbk⟩ := r3.rh.cells b hb
          have := hbk.heap
          rw [e, hD3] at this
          cases this
        have rep4 : Rep ⟨P, W3.putObj D (.deferred none), fn.ntmps, s3.hp.map (·.n), [], [{ target := .collected D, args := #[] }]⟩ s3 a3 (W3.putObj D (.deferred none)) :=
          ⟨⟨r3.rs.size, r3.rs.defers, r3.rs.slots⟩, fun b hb => (r3.rh.cells b hb).of_heap (World.putObj_heap_other (hDout b hb)), r3.rh.nodup, fun b hb => .inr (List.mem_map.2 ⟨b, hb, rfl⟩), Keeps.refl _ _, fun _ h => (by cases h), fun _ _ _ h => (by cases h)⟩
        refine ⟨v, ?_, v, out, rfl, hR, ⟨?_, fun b hb => rep4.rh.cells b (hsub b hb), hnd3 r3.rh.nodup, fun b hb => .inl (own b (r3.rh.own b (hsub b hb)))⟩⟩
        · exact hr _ _ _ _ rep4
        · have k1 := hh.keeps
          have k2 := r3.rh.keeps
          refine ⟨k2.os.trans k1.os, k2.tape.trans k1.tape, k2.output.trans k1.output, ?_, fun j hj hjn => ?_⟩
          · have h1 := k1.size
            have h2 := k2.size
            simp only [World.putObj, Array.size_setIfInBounds]
            simp only at h1 h2
            omega
          · simp only at hDl
            refine (World.putObj_heap_other oM).trans ?_
            have h1 := k1.size
            simp only at h1
            refine (k2.block j (by simp only; omega) (fun hjn2 => ?_)).trans (k1.block j hj hjn)
            have := own ⟨j, [], 0, 0⟩ (.inr hjn2)
            simp only at this
            omega
      cases e with
      | normal => exact fin q3
      | ret => exact fin q3
      | _ => exact q3.elim
    | _ => exact q1.elim
  | _ => exact q.elim
end Hw
end

section
namespace Go.Proofs.YtpacobmjjjillaaGreat
open Go Hw

theorem mk_chunk (p : Option Addr) (n c : Nat) : Meets Tryz.prog 201 [.slice p n c, i64 128] [] (fun _ => True) (fun v out => ∃ b1 b2, v = .func (.func 235) #[] #[ptr b1 0, ptr b2 0] ∧ out = [⟨b1, [.slice p n c], 39, 1⟩, ⟨b2, [i64 128], 3, 1⟩]) := by
 intro W hW
 refine Ab Tryz.func201 J 9 Tryz.ntmps201 J (.sr (.box1 J J J ?_))
 intro n2 hn2 hf2
 refine .box1 J J J ?_
 intro n3 hn3 hf3
 refine .a J J J (.na (.seq (.sr (.load1 J J J Y3 J Z0 (by rfl) ?_))))
 refine .lss J J J J J (.na (.cond_f J dE (.skip (Ae (.sr (.makeFunc J J J J (.a J J J (.na (.ret (An (Be (out := (⟨n2, [.slice p n c], 39, 1⟩ :: (⟨n3, [i64 128], 3, 1⟩ :: []))) (Ag J J) (Ai rM (Ai rM Au)) ?_)))))))))))
 exact ⟨n2, n3, rfl, by simp⟩

def encC (q i : Nat) : Value := .slice (some ⟨q, 128 * i, none⟩) 128 128
theorem encC_eq (q i : Nat) : (.slice (some ⟨q, if 128 * i + 128 = 128 * i then 0 else 0 + 128 * i * 1, none⟩) (128 * i + 128 - 128 * i) (128 * i + 128 - 128 * i) : Value) = encC q i := by
  have e1 : 128 * i + 128 - 128 * i = 128 := by omega
  have e2 : 0 + 128 * i * 1 = 128 * i := by omega
  rw [if_neg oM, e1, e2]; rfl

theorem chunk_iter (l b1 b2 q n c K : Nat) (X : Nat → List Blk) (names : List Nat) (hnk : n = 128 * K) (hnc : n ≤ c) (hbig : n ≤ 1000000) : Meets Tryz.prog 235 [.func (.yield l) #[] #[], ptr b1 0, ptr b2 0] names (fun W => HRep ⟨Tryz.prog, W, 0, names, [], []⟩ (⟨b1, [.slice (some ⟨q, 0, none⟩) n c], 39, 1⟩ :: ⟨b2, [i64 128], 3, 1⟩ :: X 0) W ∧ ∀ i, i < K → ∀ W2, HRep ⟨Tryz.prog, W, 0, names, [], []⟩ (⟨b1, [.slice (some ⟨q, 0, none⟩) n c], 39, 1⟩ :: ⟨b2, [i64 128], 3, 1⟩ :: X i) W2 → YieldAt Fence.wide 0 Tryz.prog l #[encC q i] W2 fun e W3 => e = .returned (.bool true) ∧ HRep ⟨Tryz.prog, W, 0, names, [], []⟩ (⟨b1, [.slice (some ⟨q, 0, none⟩) n c], 39, 1⟩ :: ⟨b2, [i64 128], 3, 1⟩ :: X (i + 1)) W3) (fun v out => v = .tuple #[] ∧ out = ⟨b1, [.slice (some ⟨q, 0, none⟩) n c], 39, 1⟩ :: ⟨b2, [i64 128], 3, 1⟩ :: X K) := by
 intro W hW
 refine Ba (hp0 := ⟨b1, [.slice (some ⟨q, 0, none⟩) n c], 39, 1⟩ :: ⟨b2, [i64 128], 3, 1⟩ :: X 0) Tryz.func235 J 31 Tryz.ntmps235 J (HRep.reN hW.1) (.sr (.a J J J (.na (.block (.loop (ι := Nat) (fun i => ⟨[(0, .func (.yield l) #[] #[]), (1, ptr b1 0), (2, ptr b2 0), (4, i64 (128 * (i : Int)))], (⟨b1, [.slice (some ⟨q, 0, none⟩) n c], 39, 1⟩ :: (⟨b2, [i64 128], 3, 1⟩ :: (X i ++ [])))⟩) (fun i => i ≤ K) (fun i => K - i) (0) ?_ ?_ ?_)))))
 · exact Nat.zero_le _
 · exact Bh (wk1 rfl (wk1 rfl (wk1 rfl (wk1 rfl wk0)))) (Ai rM (Ai rM (B6 (by repeat (exact sg_end)) Au)))
 ·
  rintro i hi
  refine .seq (.sr (.m J J J (.load1 J J J Y39 J Z0 (by rfl) ?_)))
  refine .lenSl J J J Y39 (.lss J J J J J (.na (.condP J (fun hc0 => ?_) (fun hc0 => ?_))))
  ·
   have hi3 : i < K := by omega
   refine .skip (Ae (.seq (.block (.seq (.draw [(1, 0), (1, 1), (0, 2), (0, 3), (0, 4), (0, 5), (0, 6)] Ar zK (.load1 J J J Y3 J Z1 (by rfl) ?_))))))
   refine .load1 J J J Y39 J Z0 (by rfl) ?_
   refine .m J J J (.sliceLoN (128*i) J J J J oM oM oM Y39 Sz5 (.lenSl J J J Y39 (.min2 J J J J (show Value.int .i64 (if ((n - 128 * i : Nat) : Int) < (128 : Int) then ((n - 128 * i : Nat) : Int) else (128 : Int)) = i64 128 from by rw [if_neg oM]) ?_)))
   refine .a J J J (.na (.seq (.regionY 10 J zK (.m J J J (.load1 J J J Y39 J Z0 (by rfl) ?_)))))
   refine .m J J J (.m J J J (.m J J J (.aI J J J J oM (.m J J J (.m J J J (.aI J J J J oM (.slice3 (128*i) (128*i+128) (128*i+128) J J J J J J oM oM oM oM oM oM Y39 Sz5 (.nil (yop J J (congrArg some (encC_eq q i)) (fun w h => hW.2 i hi3 w (by rw [List.append_nil] at h; exact h)) ?_)))))))))
   refine .not J J J (.na (.cond_f J (rfl) (.skip (Bj (Ae (.region (.m J J J (.load1 J J J Y3 J Z1 (by rfl) ?_))))))))
   refine .aI J J J J oM (.a J J J (.na ?_))
   exact ⟨i + 1, by omega, by omega, Bh (wk1 rfl (wk1 rfl (wk1 rfl (wk1 (congrArg (fun z => some (i64 z)) oM) wk0)))) (Ai rM (Ai rM (B6 (by repeat (exact sg_end)) Au)))⟩
  ·
   have hi3 : i = K := by omega
   refine .exit (A1 (A1 (B5 (en_n (Be (out := (⟨b1, [.slice (some ⟨q, 0, none⟩) n c], 39, 1⟩ :: (⟨b2, [i64 128], 3, 1⟩ :: (X i ++ [])))) (res_none J) (Ai rM (Ai rM (B6 sG Au))) ?_)))))
   rw [hi3]; exact ⟨rfl, by simp⟩

theorem chunk_seq {l b1 b2 q n c K : Nat} {X : Nat → List Blk} {names : List Nat} (hnk : n = 128 * K) (hnc : n ≤ c) (hbig : n ≤ 1000000) (hnm : ∀ i, (⟨b1, [.slice (some ⟨q, 0, none⟩) n c], 39, 1⟩ :: ⟨b2, [i64 128], 3, 1⟩ :: X i).map (·.n) = names) (w1 : World) (hh : HRep ⟨Tryz.prog, w1, 0, names, [], []⟩ (⟨b1, [.slice (some ⟨q, 0, none⟩) n c], 39, 1⟩ :: ⟨b2, [i64 128], 3, 1⟩ :: X 0) w1)
    (hy : ∀ i, i < K → ∀ W2, HRep ⟨Tryz.prog, w1, 0, names, [], []⟩ (⟨b1, [.slice (some ⟨q, 0, none⟩) n c], 39, 1⟩ :: ⟨b2, [i64 128], 3, 1⟩ :: X i) W2 → YieldAt Fence.wide 0 Tryz.prog l #[encC q i] W2 fun e W3 => e = .returned (.bool true) ∧ HRep ⟨Tryz.prog, w1, 0, names, [], []⟩ (⟨b1, [.slice (some ⟨q, 0, none⟩) n c], 39, 1⟩ :: ⟨b2, [i64 128], 3, 1⟩ :: X (i + 1)) W3) :
    CallsIn Fence.wide 0 Tryz.prog 235 (#[.func (.yield l) #[] #[]] ++ #[ptr b1 0, ptr b2 0]) w1 fun e W' => (∃ v, e = .returned v) ∧ HRep ⟨Tryz.prog, w1, 0, names, [], []⟩ (⟨b1, [.slice (some ⟨q, 0, none⟩) n c], 39, 1⟩ :: ⟨b2, [i64 128], 3, 1⟩ :: X K) W' :=
  callsIn_wide.2 ((chunk_iter l b1 b2 q n c K X names hnk hnc hbig w1 ⟨hh, hy⟩).mono fun e W' ⟨v, out, he, ⟨_, ho⟩, hr⟩ => ⟨⟨v, he⟩, by subst ho; exact HRep.ofRet hr (hnm K)⟩)
theorem take_len {xs : List UInt8} {i K : Nat} (h : xs.length = 128 * K) (hi : i < K) : ((xs.drop (128 * i)).take 128).length = 128 := by simp; omega

theorem sha_whole (st : List UInt64) (hst : st.length = 8) (k : List UInt64) (hk : Hid (kW = k)) (hk80 : k.length = 80) (p : Option Addr) (n c : Nat) (ss : List Sl) (ls : List (List UInt8)) (hss : ss.length = n) (hls : ls.length = n) (hsl : ∀ j, j < n → (ss.getD j Sl.nil).n = (ls.getD j []).length ∧ ((ss.getD j Sl.nil).p = none → (ss.getD j Sl.nil).n = 0)) (F : List UInt8) (hF : ls.flatten = F) (htot : F.length ≤ 90000) (hn : n ≤ 1000000)  : Meets Tryz.prog 127 [agg (Af st), .slice p n c] [] (fun W => SeesP W p (ss.map Sl.v) ∧ ∀ j, j < n → SeesP W (ss.getD j Sl.nil).p (Aa (ls.getD j []))) (fun v out => v = agg (Af (allW k st F)) ∧ out = []) := by
  intro W hW
  have hpl := padB_length F
  have hpz := padZ_lt F.length
  have hpm := padB_mod F
  have hst2 : (runW k st (padB F) ((padB F).length / 128)).length = 8 := by rw [runW_length]; exact hst
  refine calls_range Tryz.func127 rfl 16 Tryz.ntmps127 rfl ?_
  refine Sat.region ?_
  refine Tr.boxA rfl rfl ?_
  intro n2 hn2 hf2
  refine Tr.alloc (cs := (Af (List.replicate 8 0))) rfl Zr135 rfl ?_
  intro n4 hn4 hf4
  refine Tr.nil ?_
  refine Ae ?_
  refine Sat.region ?_
  refine Tr.m rfl rfl rfl ?_
  refine Tr.call4 rfl rfl rfl rfl rfl Body202 (sha_padded p n c ss ls hss hls hsl F hF htot hn) (fun w h => ⟨Ax h rfl hW.1, fun j hj => Ax h rfl (hW.2 j hj)⟩) ?_
  rintro v7 out7 ⟨s7, rfl, hac7⟩
  obtain ⟨q7, c7, rfl, hc7, rfl⟩ := acc_pos hac7 oM
  refine Tr.call4 rfl rfl rfl rfl rfl Body201 (mk_chunk (some ⟨q7, 0, none⟩) (padB F).length c7) tV ?_
  rintro v8 out8 ⟨b1, b2, rfl, rfl⟩
  refine Tr.nil ?_
  refine Ae ?_
  refine ⟨_, _, fun i => ⟨b1, [.slice (some ⟨q7, 0, none⟩) (padB F).length c7], 39, 1⟩ :: ⟨b2, [i64 128], 3, 1⟩ :: [⟨q7, Aa (padB F), 5, c7 * 1⟩, ⟨n4, Af (List.replicate 8 0), 135, (Af (List.replicate 8 0)).length⟩, ⟨n2, Af (runW k st (padB F) i), 135, (Af st).length⟩], [b1, b2, q7, n4, n2], encC q7, ((padB F).length / 128), fun sl i => (5, encC q7 i) :: (9, encC q7 i) :: sl, rfl, rfl, Body235, dE, fun _ => rfl, ?_, ?_, ?_, ?_⟩
  ·
    intro l w1 hh hy
    exact chunk_seq (X := fun i => [⟨q7, Aa (padB F), 5, c7 * 1⟩, ⟨n4, Af (List.replicate 8 0), 135, (Af (List.replicate 8 0)).length⟩, ⟨n2, Af (runW k st (padB F) i), 135, (Af st).length⟩]) hpm hc7 oM (fun _ => rfl) w1 hh hy
  ·
    intro i hi l W2 hh
    refine SatI.region zK ?_
    refine Tr.a rfl rfl rfl ?_
    refine Tr.nil ?_
    exact ⟨rfl, rfl⟩
  ·
    intro i hi l W2 hh
    obtain ⟨A, hA⟩ : ∃ A, Hid (schA ((padB F).drop (128 * i) |>.take 128) 128 = A) := ⟨_, ⟨rfl⟩⟩
    obtain ⟨w, hwp⟩ : ∃ w, Hid (schB A 64 = w) := ⟨_, ⟨rfl⟩⟩
    obtain ⟨R, hR⟩ : ∃ R, Hid (rnds k w (W8.of (runW k st (padB F) i)) 80 = R) := ⟨_, ⟨rfl⟩⟩
    have hw : w.length = 80 := by rw [← hwp.out, schB_length, ← hA.out]; exact schA_length _ 128
    have e1 : addUp (runW k st (padB F) i) R.l 8 = runW k st (padB F) (i + 1) := by rw [runW, pieceW, schW, hA.out, hwp.out, hR.out]
    refine SatI.block ?_
    refine SatI.draw [(1, 0), (0, 1), (0, 2), (1, 3), (3, 4), (4, 5)] Ar zK zK ?_
    refine Tr.lA rfl rfl rfl Dc rfl Sz135 Z4 (by rw [List.length_map, runW_length]; exact hst) ?_
    refine Tr.m rfl rfl rfl ?_
    refine Tr.s2a rfl rfl rfl Tryz.underlying191 oM ?_
    refine Tr.lN (Aa ((padB F).drop (128 * i) |>.take 128)) rfl rfl rfl Tryz.underlying191 rfl Sz191 Z2 (by rw [← List.map_drop, ← List.map_take]) (by rw [List.length_map]; exact take_len hpm hi) ?_
    refine Tr.cV rfl rfl rfl rfl Body203 (sha_Piece (runW k st (padB F) i) (by rw [runW_length]; exact hst) ((padB F).drop (128 * i) |>.take 128) (take_len hpm hi) A w k R hA hwp hw hk hk80 hR) tV ?_
    refine Tr.sA rfl rfl rfl rfl zB Sz135 (by (rw [List.length_map, Cg, runW_length]; exact hst)) Z4 (by (rw [List.length_map, runW_length]; exact hst)) (by exact upd4) ?_
    refine Tr.nil ?_
    rw [e1]
  ·
    intro D W2
    refine Sat.seq ?_
    refine Sat.region ?_
    refine Tr.lA rfl rfl rfl Dc rfl Sz135 Z4 (by (simp [hst2]; done)) ?_
    refine Tr.sA rfl rfl rfl rfl zB Sz135 (by (simp [hst2]; done)) Z3 sP (by exact upd3) ?_
    refine Tr.nil ?_
    refine Ae ?_
    refine Sat.ret ?_
    refine enA_r ?_
    refine ⟨_, [], fun W names => Ao rfl rfl Dc rfl Sz135 Z3 (by simp [hst2]), sP, sP, ?_⟩
    exact ⟨rfl, rfl⟩

theorem startW_length : startW.length = 8 := rfl
def xorUp : Nat → List UInt64
  | 0 => startW
  | i + 1 => (xorUp i).set i ((xorUp i).getD i 0 ^^^ 11936128518282651045)
theorem xorUp_length : ∀ i, (xorUp i).length = 8
  | 0 => rfl
  | i + 1 => by rw [xorUp, List.length_set, xorUp_length i]
def shaTag : List UInt8 := [83, 72, 65, 45, 53, 49, 50, 47, 50, 53, 54]
def shaI : List UInt64 := allW kW (xorUp 8) shaTag
def sha256 (l : List UInt8) : List UInt8 := (sumUp (allW kW shaI l) 64).take 32
theorem sha256_length (l : List UInt8) : (sha256 l).length = 32 := by rw [sha256, List.length_take, Cz]; rfl

theorem sha_StartShort (k s0 i0 : List UInt64) (G : List UInt8) (hk : Hid (kW = k)) (hk80 : k.length = 80) (hs0 : Hid (xorUp 8 = s0)) (hs8 : s0.length = 8) (hG : Hid (shaTag = G)) (hGl : G.length = 11) (hi0 : Hid (allW k s0 G = i0)) (hi8 : i0.length = 8)  : Meets Tryz.prog 128 [] [] (fun _ => True) (fun v out => v = agg (Af i0) ∧ out = []) := by
 intro W hW
 refine Ab Tryz.func128 J 18 Tryz.ntmps128 J (.sr (.alloc (cs := (Af (List.replicate 8 0))) J Zr135 J ?_))
 intro n0 hn0 hf0
 refine .nsr (.cV J J J J Body204 (sha_Start) tV (.alloc (cs := (Af (List.replicate 8 0))) J Zr135 J ?_))
 intro n1 hn1 hf1
 refine .sA J J J J zB Sz135 (by (simp [startW_length]; done)) Z0 sP zU ?_
 refine .na (.seq (.sr (.m J J J (.na (.block (.loop (ι := Nat) (fun j => ⟨[(0, ptr n0 0), (1, ptr n1 0), (4, i64 (j : Int))], [⟨n1, Af (xorUp j), 135, 8⟩, ⟨n0, Af (List.replicate 8 0), 135, 8⟩]⟩) (fun j => j ≤ 8) (fun j => 8 - j) (0) ?_ ?_ ?_))))))
 · omega
 · exact Bh (wk1 rfl (wk1 rfl (wk1 rfl wk0))) (Ai rM (Ai rM Au))
 ·
  rintro j hi
  have hlj := xorUp_length j
  refine .sr (.lss J J J J J (.na (.seq (.condP J (fun hc0 => ?_) (fun hc0 => ?_)))))
  ·
   refine .skip (Ae (.seq (.block (.sr (.m J J J (.a J J J (.na (.region (.m J J J (.i1 J J J J Dc Ap _ J oM (.load1 J J J Y22 J Z0 (by exact A3 oM) ?_)))))))))))
   refine .xor_u64 J J J (show Ah _ _ = some (u64 11936128518282651045) from rfl) (.i1 J J J J Dc Ap _ J oM (.s1 J J J J J Ap Z0 (by (simp [xorUp_length]; omega)) (by exact A9 _ _ _) zU ?_))
   refine .nil (Bj (Ae (.region (.aI J J J J oM (.m J J J (.na ?_))))))
   exact ⟨j + 1, by omega, by omega, Bh (wk1 rfl (wk1 rfl (wk1 rfl wk0))) (Ai rM (Ai rM Au))⟩
  ·
   obtain rfl : j = 8 := by omega
   rw [hs0.out]
   clear hlj
   refine .exit (A1 (A1 (B5 (Ae (.sr (.lA J J J Dc J Sz135 Z0 (by (simp [hs8]; done)) ?_))))))
   refine .mkRow (z := u8 0) [u8 83, u8 72, u8 65, u8 45, u8 53, u8 49, u8 50, u8 47, u8 50, u8 53, u8 54] (Aa shaTag) J J J Y39 Sz5 Zr5 J J (by intro v hv; simp only [List.mem_cons, List.not_mem_nil, or_false] at hv; rcases hv with rfl | rfl | rfl | rfl | rfl | rfl | rfl | rfl | rfl | rfl | rfl <;> rfl) dE J ?_
   intro q14
   rw [hG.out]
   refine .constB J J J J Y39 Y5 Z0 ?_
   refine .mkRow (z := .slice none 0 0) [.slice (some ⟨q14, 0, none⟩) 11 11] [.slice (some ⟨q14, 0, none⟩) 11 11] rfl J J Y133 Co Zr39 J J (by intro v hv; rw [List.mem_singleton.1 hv]; rfl) dE J ?_
   intro q16
   refine .cV J J J J Body127 (sha_whole s0 hs8 k hk hk80 (some ⟨q16, 0, none⟩) 1 1 [⟨some ⟨q14, 0, none⟩, 11, 11⟩] [G] rfl J (fun j hj => (by obtain rfl : j = 0 := oM; exact ⟨by simp [hGl], fun e => by cases e⟩)) G sP oM dE) (fun w h => ⟨SeesP.of (Ak h Z0), fun j hj => (by obtain rfl : j = 0 := oM; exact SeesP.of (Ak h Z1))⟩) ?_
   rw [hi0.out]
   refine .sA J J J J zB Sz135 (by (simp [hi8]; done)) Z3 sP (by exact upd3) ?_
   refine .na (.ret (An ?_))
   refine ⟨_, [], Ao J J Dc J Sz135 Z3 (by simp [hi8]), sP, sP, ?_, rfl⟩
   rfl

theorem sha_Sum (k s0 i0 : List UInt64) (G : List UInt8) (hk : Hid (kW = k)) (hk80 : k.length = 80) (hs0 : Hid (xorUp 8 = s0)) (hs8 : s0.length = 8) (hG : Hid (shaTag = G)) (hGl : G.length = 11) (hi0 : Hid (allW k s0 G = i0)) (hi8 : i0.length = 8) (p : Option Addr) (n c : Nat) (ss : List Sl) (ls : List (List UInt8)) (hss : ss.length = n) (hls : ls.length = n) (hsl : ∀ j, j < n → (ss.getD j Sl.nil).n = (ls.getD j []).length ∧ ((ss.getD j Sl.nil).p = none → (ss.getD j Sl.nil).n = 0)) (F : List UInt8) (hF : ls.flatten = F) (htot : F.length ≤ 90000) (hn : n ≤ 1000000) (r : List UInt64) (hr : Hid (allW k i0 F = r)) (s : List UInt8) (hs : Hid (sumUp r 64 = s))  : Meets Tryz.prog 68 [.slice p n c] [] (fun W => SeesP W p (ss.map Sl.v) ∧ ∀ j, j < n → SeesP W (ss.getD j Sl.nil).p (Aa (ls.getD j []))) (fun v out => v = agg (Aa (s.take 32)) ∧ out = []) := by
 intro W hW
 have hr8 : r.length = 8 := by rw [← hr.out, allW_length]; exact hi8
 have hs64 : s.length = 64 := by rw [← hs.out]; exact Cz r 64
 have hs32 : (s.take 32).length = 32 := by rw [List.length_take, hs64]; rfl
 refine Ab Tryz.func68 J 11 Tryz.ntmps68 J (.sr (.alloc (cs := (Aa (List.replicate 32 0))) J Zr24 J ?_))
 intro n2 hn2 hf2
 refine .nsr (.cV J J J J Body128 (sha_StartShort k s0 i0 G hk hk80 hs0 hs8 hG hGl hi0 hi8) tV (.m J J J (.cV J J J J Body127 (sha_whole i0 hi8 k hk hk80 p n c ss ls hss hls hsl F hF htot hn) (fun w h => ⟨Ax h J hW.1, fun j hj => Ax h J (hW.2 j hj)⟩) ?_)))
 rw [hr.out]
 refine .cV J J J J Body126 (sha_sum r hr8 s hs) tV (.alloc (cs := (Aa (List.replicate 64 0))) J Zr26 J ?_)
 intro n3 hn3 hf3
 refine .sA J J J J zE Sz26 (by (simp [hs64]; done)) Z0 sP zU ?_
 refine .nsr (.sliceArrHi 32 J J J J J dE dE Y26 Sz5 (.s2a J J J Y24 oM (.lN (Aa (s.take 32)) J J J Y24 J Bm Z0 (by rw [List.drop_zero, ← List.map_take]) (by rw [List.length_map]; exact hs32) ?_)))
 refine .sA J J J J zE Bm (by (simp [hs64]; done)) Z1 sP zV ?_
 refine .na (.ret (An ?_))
 refine ⟨_, [], Ao J J Y24 J Bm Z1 (by simp [hs64]), sP, sP, ?_, rfl⟩
 rfl

end Go.Proofs.YtpacobmjjjillaaGreat
end

section
namespace Go.Proofs.YtpacobmjjjillaaGreat
open Go Hw

theorem DB.head_small {D : DB} (h : D.check = 0) : D.ls.length ≤ 16 ∧ D.ds.length ≤ 512 := by
  unfold DB.check at h
  by_cases h1 : D.head = true
  · rw [if_pos h1] at h; cases h
  · unfold DB.head at h1
    simp at h1
    omega
theorem DB.bytes_small {D : DB} (h : D.check = 0) (hd : D.ok) : D.bytes.length ≤ 5000 := by
  have hs := D.head_small h
  have hz1 := Cp D.seq.toNat
  have hz2 := Cp (UInt64.ofNat D.ls.length).toNat
  have hz3 := Cp (UInt64.ofNat D.ds.length).toNat
  have hfl := Cl hd.ls (Nat.le_refl D.ls.length)
  rw [List.take_length] at hfl
  simp only [DB.bytes, DB.body, List.length_append, Br, hd.w, hd.prev, hd.sg, hfl]
  omega
def bytesR (D : DB) : List UInt8 := if D.check = 0 then D.bytes else []
theorem db_check (B : Block) (D : DB) : Meets Tryz.prog 38 [agg B.cells] [] (fun W => BlockIs W B D) (fun v out => v = i64 D.check ∧ out = []) :=
  fun W hW => by rw [← hW.check]; exact block_check B hW.ok D.ls W hW.ls
theorem db_bytes (B : Block) (D : DB) : Meets Tryz.prog 42 [agg B.cells] [] (fun W => BlockIs W B D) (fun v out => ∃ s, v = .tuple #[s.v, i64 D.check] ∧ Acc s out (Aa (bytesR D)) 5 (bytesR D).length 1) := fun W hW => by
  unfold bytesR
  by_cases h : D.check = 0
  · rw [if_pos h]
    refine (bytes_ok B hW.ok D.ls D.ds (by rw [hW.check]; exact h) W ⟨hW.ls, hW.ds⟩).mono fun e W' ⟨v, out, h1, ⟨q, c, N, h2, h3, h4, h5, h6⟩, h7⟩ => ⟨v, out, h1, ⟨⟨some ⟨q, 0, none⟩, N, c⟩, ?_, ?_⟩, h7⟩
    · rw [h]; exact h4
    · rw [h6]
      rw [hW.bytes] at h2 ⊢
      rw [← h2]
      exact Acc.some h5 (by rw [Aa, List.length_map, ← h2]; omega)
  · rw [if_neg h]
    refine (bytes_bad B hW.ok D.ls D.ds (by rw [hW.check]; exact h) W ⟨hW.ls, hW.ds⟩).mono fun e W' ⟨v, out, h1, ⟨h2, h3⟩, h7⟩ => ⟨v, out, h1, ⟨Sl.nil, ?_, ?_⟩, h7⟩
    · rw [h2, hW.check]; rfl
    · rw [h3]; exact Acc.none
def nameD (D : DB) : List UInt8 := if D.check = 0 then sha256 D.bytes else List.replicate 32 0
theorem nameD_length (D : DB) : (nameD D).length = 32 := by
  unfold nameD
  split
  · exact sha256_length _
  · rfl
def sameD (A B : DB) : Bool := decide (A.w = B.w) && (decide ((A.seq.toNat : Int) = (B.seq.toNat : Int)) && (decide (A.prev = B.prev) && (decide (A.ls = B.ls) && (decide (A.ds = B.ds) && decide (A.sg = B.sg)))))
theorem sameD_eq (A B : DB) : sameD A B = decide (A = B) := by
  obtain ⟨a1, a2, a3, a4, a5, a6⟩ := A
  obtain ⟨b1, b2, b3, b4, b5, b6⟩ := B
  have e : ((a2.toNat : Int) = (b2.toNat : Int)) ↔ a2 = b2 := by
    constructor
    · intro h; exact UInt64.toNat_inj.1 oM
    · intro h; rw [h]
  rw [Bool.eq_iff_iff]
  simp [sameD, e]
theorem db_same (A B : Block) (D E : DB) (hn : D.ls.length ≤ 1000000) : Meets Tryz.prog 44 [agg A.cells, agg B.cells] [] (fun W => BlockIs W A D ∧ BlockIs W B E) (fun v out => v = .bool (decide (D = E)) ∧ out = []) := fun W hW => by
  have := block_same A B hW.1.ok hW.2.ok D.ls E.ls D.ds E.ds (by rw [← hW.1.ls.len]; exact hn) W ⟨⟨hW.1.ls, hW.1.ds⟩, hW.2.ls, hW.2.ds⟩
  rw [← sameD_eq, show sameD D E = sameB A B D.ls E.ls D.ds E.ds by simp only [sameD, sameB, hW.1.w, hW.2.w, hW.1.seq, hW.2.seq, hW.1.prev, hW.2.prev, hW.1.sg, hW.2.sg]]
  exact this
theorem db_kit (A B : Block) (D E : DB) (hn : D.ls.length ≤ 1000000) : Meets Tryz.prog 39 [agg A.cells, agg B.cells] [] (fun W => BlockIs W A D ∧ BlockIs W B E) (fun v out => v = .bool (decide (D = E)) ∧ out = []) := fun W hW => by
  have := kit_block A B hW.1.ok hW.2.ok D.ls E.ls D.ds E.ds (by rw [← hW.1.ls.len]; exact hn) W ⟨⟨hW.1.ls, hW.1.ds⟩, hW.2.ls, hW.2.ds⟩
  rw [← sameD_eq, show sameD D E = sameB A B D.ls E.ls D.ds E.ds by simp only [sameD, sameB, hW.1.w, hW.2.w, hW.1.seq, hW.2.seq, hW.1.prev, hW.2.prev, hW.1.sg, hW.2.sg]]
  exact this
theorem BlockIs.ext {C : Cx} {hp : List Blk} {w : World} {B : Block} {D : DB} (hh : HRep C hp w) (hl : C.lent = []) (h : BlockIs C.W0 B D) : BlockIs w B D :=
  ⟨h.ok, h.w, h.seq, h.prev, rows_ext hh hl h.ls, bytes_ext hh hl h.ds, h.sg⟩

theorem db_name (B : Block) (D : DB) : Meets Tryz.prog 45 [agg B.cells] [] (fun W => BlockIs W B D) (fun v out => v = agg (Aa (nameD D)) ∧ out = []) := by
 intro W hW
 have hok := hW.ok
 obtain ⟨k, hk⟩ : ∃ k, Hid (kW = k) := ⟨_, ⟨rfl⟩⟩
 obtain ⟨s0, hs0⟩ : ∃ s0, Hid (xorUp 8 = s0) := ⟨_, ⟨rfl⟩⟩
 obtain ⟨G, hG⟩ : ∃ G, Hid (shaTag = G) := ⟨_, ⟨rfl⟩⟩
 obtain ⟨i0, hi0⟩ : ∃ i0, Hid (allW k s0 G = i0) := ⟨_, ⟨rfl⟩⟩
 have hk80 : k.length = 80 := by rw [← hk.out]; rfl
 have hs8 : s0.length = 8 := by rw [← hs0.out]; exact xorUp_length 8
 have hGl : G.length = 11 := by rw [← hG.out]; rfl
 have hi8 : i0.length = 8 := by rw [← hi0.out, allW_length]; exact hs8
 obtain ⟨r, hr⟩ : ∃ r, Hid (allW k i0 (D.bytes) = r) := ⟨_, ⟨rfl⟩⟩
 obtain ⟨s, hs⟩ : ∃ s, Hid (sumUp r 64 = s) := ⟨_, ⟨rfl⟩⟩
 have hsd : Hid (s.take 32 = sha256 (D.bytes)) := ⟨by rw [← hs.out, ← hr.out, ← hi0.out, ← hG.out, ← hs0.out, ← hk.out]; rfl⟩
 have hs64 : s.length = 64 := by rw [← hs.out]; exact Cz r 64
 have hs32 : (s.take 32).length = 32 := by rw [List.length_take, hs64]; rfl
 refine Ab Tryz.func45 J 16 Tryz.ntmps45 J (.sr (.boxA J J ?_))
 intro n1 hn1 hf1
 refine .alloc (cs := (Aa (List.replicate 32 0))) J Zr24 J ?_
 intro n2 hn2 hf2
 refine .nsr (.lA J J J Y53 J Bw Z1 (Block.length zA) ?_)
 refine .call4 J J J J J Body42 (db_bytes B D) (fun w h => hW.ext h J) ?_
 rintro v7 out7 ⟨s7, rfl, hac7⟩
 refine .m J J J (.eX J J J J (.eX J J J J (.a J J J (.a J J J (.na (.seq (.sr (.m J J J (two (fun r hr k => Tr.nei J J J J hr k) (fun hs2_10 => ?_) (fun hs2_10 => ?_))))))))))
 ·
  have hs2_1 := nd_t hs2_10
  skip
  refine .na (.cond_t J J (.sr (.build (cs := Aa (List.replicate 32 0)) J J J (fun w => by kernel_rfl) ?_)))
  refine .sA J J J J zE Bm sP mR sP (by (repeat (first | exact upd0 | apply Upd.seg))) ?_
  refine .na (.ret (Bg (An ?_)))
  refine ⟨_, [], Ao J J Y24 J Bm mR sP, sP, sP, ?_, rfl⟩
  (rw [nameD, if_neg hs2_1]; done)
 ·
  have hs2_1 := nd_f hs2_10
  have h0 : D.check = 0 := by omega
  have hb7 : bytesR D = D.bytes := if_pos h0
  refine .na (.cond_f J J (.skip (Ae (.sr (.m J J J (.mkRow (z := .slice none 0 0) [s7.v] [s7.v] rfl J J Y133 Co Zr39 J J (by intro v hv; rw [List.mem_singleton.1 hv]; rfl) dE J ?_))))))
  intro q14
  refine .cV J J J J Body68 (sha_Sum k s0 i0 G hk hk80 hs0 hs8 hG hGl hi0 hi8 (some ⟨q14, 0, none⟩) 1 1 [s7] [D.bytes] rfl J (fun j hj => (by obtain rfl : j = 0 := oM; exact ⟨by simp [hac7.num, hb7], fun e => hac7.nil e⟩)) D.bytes sP (by have := D.bytes_small h0 hW.dok; omega) dE r hr s hs) (fun w h => ⟨SeesP.of (Ak h Z0), fun j hj => (by obtain rfl : j = 0 := oM; exact (by have := hac7.see (Lies.of h (by repeat (first | exact Bt | refine in_there ?_))); rw [hb7] at this; exact this))⟩) ?_
  refine .sA J J J J zE Bm (by (simp [hs64]; done)) mR sP uU ?_
  refine .na (.ret (An ?_))
  refine ⟨_, [], Ao J J Y24 J Bm mR (by simp [hs64]), sP, sP, ?_, rfl⟩
  (rw [nameD, if_pos h0, hsd.out]; done)

end Go.Proofs.YtpacobmjjjillaaGreat
end

section
namespace Hw
open Go Go.RowKit

theorem flat_get {m : Nat} : ∀ {cs : List (List Value)} {i j : Nat} {l : List Value}, (∀ l ∈ cs, l.length = m) → cs[i]? = some l → j < l.length → cs.flatten[i * m + j]? = l[j]?
  | [], i, j, l, _, h, _ => by simp at h
  | x :: cs, 0, j, l, hl, h, hj => by
    simp only [List.getElem?_cons_zero, Option.some.injEq] at h
    subst h
    rw [Nat.zero_mul, Nat.zero_add, List.flatten_cons, List.getElem?_append_left hj]
  | x :: cs, i + 1, j, l, hl, h, hj => by
    rw [List.getElem?_cons_succ] at h
    have hx := hl x sP
    rw [List.flatten_cons, List.getElem?_append_right (by rw [hx, Nat.add_mul]; omega), hx, show (i + 1) * m + j - m = i * m + j by rw [Nat.add_mul]; omega]
    exact flat_get (fun y hy => hl y (by simp [hy])) h hj
theorem sees_elem {w : World} {b o m i : Nat} {cs : List (List Value)} {l : List Value} (hl : ∀ l ∈ cs, l.length = m) (hs : Cc w b o cs.flatten) (hi : cs[i]? = some l) : Cc w b (o + i * m) l := fun j v hj => by
  have hlt : j < l.length := (List.getElem?_eq_some_iff.1 hj).1
  have := hs (i * m + j) v (by rw [flat_get hl hi hlt]; exact hj)
  rwa [Nat.add_assoc]

structure SeqIs {R D : Type} (cells : R → List Value) (k : Nat) (Is : World → R → D → Prop) (W : World) (s : Sl) (rs : List R) (ds : List D) : Prop where
  nr : rs.length = s.n
  nd : ds.length = s.n
  is : ∀ (i : Nat) (r : R) (d : D), rs[i]? = some r → ds[i]? = some d → Is W r d
  len : ∀ r ∈ rs, (cells r).length = k
  cap : s.n ≤ s.c
  see : SeesP W s.p (rs.map cells).flatten
  max : s.n ≤ maxLen
  nil : s.p = none → s.c = 0
section
variable {R D : Type} {cells : R → List Value} {k : Nat} {Is : World → R → D → Prop} {W w : World} {s : Sl} {rs : List R} {ds : List D}
theorem SeqIs.flat (h : SeqIs cells k Is W s rs ds) : (rs.map cells).flatten.length = s.n * k := by
  rw [← h.nr]
  have hl := h.len
  clear h
  induction rs with
  | nil => simp
  | cons r rs ih => rw [List.map_cons, List.flatten_cons, List.length_append, ih (fun x hx => hl x (by simp [hx])), hl r sP, List.length_cons, Nat.add_mul]; omega
theorem SeqIs.at (h : SeqIs cells k Is W s rs ds) (hk : 0 < k) {i : Nat} (hi : i < s.n) : ∃ b o r d, s.p = some ⟨b, o, none⟩ ∧ rs[i]? = some r ∧ ds[i]? = some d ∧ Is W r d ∧ (cells r).length = k ∧ Cc W b (o + i * k) (cells r) := by
  have h1 : i < rs.length := by rw [h.nr]; exact hi
  have h2 : i < ds.length := by rw [h.nd]; exact hi
  have h3 : 0 < s.n * k := Nat.mul_pos oM hk
  obtain ⟨b, o, hp, hs⟩ := h.see.at (by rw [h.flat]; exact h3)
  have e1 := List.getElem?_eq_getElem h1
  have e2 := List.getElem?_eq_getElem h2
  refine ⟨b, o, rs[i], ds[i], hp, e1, e2, h.is i _ _ e1 e2, h.len _ (List.getElem_mem h1), ?_⟩
  exact sees_elem (cs := rs.map cells) (fun l hl => by obtain ⟨r, hr, rfl⟩ := List.mem_map.1 hl; exact h.len r hr) hs (by rw [List.getElem?_map, e1]; rfl)
theorem SeqIs.ext {C : Cx} {hp : List Blk} (hh : HRep C hp w) (hl : C.lent = []) (hIs : ∀ r d, Is C.W0 r d → Is w r d) (h : SeqIs cells k Is C.W0 s rs ds) : SeqIs cells k Is w s rs ds :=
  ⟨h.nr, h.nd, fun i r d h1 h2 => hIs r d (h.is i r d h1 h2), h.len, h.cap, Ax hh hl h.see, h.max, h.nil⟩
theorem SeqIs.none : SeqIs cells k Is W Sl.nil [] [] :=
  ⟨rfl, rfl, fun i r d h => (by simp at h), fun r h => (by cases h), Nat.le_refl _, SeesP.nil, Nat.zero_le _, fun _ => rfl⟩
theorem acc_seq {bl : List Blk} {E : TypeId} {n : Nat} (h : Acc s bl (rs.map cells).flatten E n k) (hl : Lies bl w) (hr : rs.length = n) (hd : ds.length = n) (hlen : ∀ r ∈ rs, (cells r).length = k) (hm : n ≤ 1000000) (his : ∀ (i : Nat) (r : R) (d : D), rs[i]? = some r → ds[i]? = some d → Is w r d) : SeqIs cells k Is w s rs ds :=
  ⟨by rw [h.num, hr], by rw [h.num, hd], his, hlen, h.cap, h.see hl, by rw [h.num]; unfold maxLen; omega, h.nilc⟩
end

structure OwnSeq {R D : Type} (cells : R → List Value) (k : Nat) (Is : World → R → D → Prop) (E : TypeId) (s : Sl) (bl bl2 : List Blk) (rs : List R) (ds : List D) (n : Nat) : Prop where
  acc : Acc s bl (rs.map cells).flatten E n k
  nr : rs.length = n
  nd : ds.length = n
  len : ∀ r ∈ rs, (cells r).length = k
  is : ∀ W2, Lies bl2 W2 → ∀ (i : Nat) (r : R) (d : D), rs[i]? = some r → ds[i]? = some d → Is W2 r d
section
variable {R D : Type} {cells : R → List Value} {k : Nat} {Is : World → R → D → Prop} {w : World} {E : TypeId} {s s' : Sl} {bl bl' bl2 bl3 : List Blk} {rs : List R} {ds : List D} {n : Nat}
theorem OwnSeq.none : OwnSeq cells k Is E Sl.nil [] [] [] [] 0 := ⟨Acc.none, rfl, rfl, fun r h => (by cases h), fun W2 _ i r d h => (by simp at h)⟩
theorem OwnSeq.seq (h : OwnSeq cells k Is E s bl bl2 rs ds n) (h1 : Lies bl w) (h2 : Lies bl2 w) (hm : n ≤ 1000000) : SeqIs cells k Is w s rs ds := acc_seq h.acc h1 h.nr h.nd h.len hm (h.is w h2)
end

section
variable {C : Cx} {ops : Array Oper} {rest : List (Nat × Oper)} {sl : List (Nat × Value)} {hp : List Blk} {Q : St → Prop} {c d : Nat} {ty : TypeId} {pos : String} {af : Array Edge} {g : Option (Nat × Bool)}
variable {f : Operand} {fid : FuncId} {ars : List Operand} {ats : Array TypeId} {vs us : List Value} {fst cap : Array Value}
end

section
variable {H : Type} {enc : TypeId × Value → H} {P : Program} {W : World} {base : Nat} {sp : Nat → Bool} {held : Bool}
end
end Hw
end

section
namespace Go.Proofs.YtpacobmjjjillaaGreat
open Go Hw

theorem Acc.hrep {P : Program} {W : World} {N : Nat} {s : Sl} {bl : List Blk} {cells : List Value} {E : TypeId} {n size : Nat} (h : Hw.Acc s bl cells E n size) (hl : Lies bl W) : HRep ⟨P, W, N, bl.map (·.n), [], []⟩ bl W :=
  ⟨hl, by rcases h with ⟨_, rfl, _⟩ | ⟨q, c, _, _, _, rfl⟩ <;> simp, fun b hb => .inr (List.mem_map.2 ⟨b, hb, rfl⟩), Keeps.refl _ _, fun _ h => (by cases h), fun _ _ _ h => (by cases h)⟩
end Go.Proofs.YtpacobmjjjillaaGreat
end

section
namespace Ed

abbrev ClsOf {C : Type → Type} {a : Type} (_ : C a) : Type → Type := C
abbrev CommRing : Type → Type := ClsOf Dyadic.instCommRing
structure Cv (R : Type) [CommRing R] where
  d : R
  i : R
  inv : R → R
  one_ne : (1 : R) ≠ 0
  two_ne : (1 : R) + 1 ≠ 0
  mul_inv : ∀ a : R, a ≠ 0 → a * inv a = 1
  inv_zero : inv 0 = 0
  i_sq : i * i = -1
  nsq : ∀ z : R, z * z ≠ d

structure Pt (R : Type) where
  x : R
  y : R

section
variable {R : Type} [CommRing R] (C : Cv R)
theorem Cv.no_zero (C : Cv R) {a b : R} (ha : a ≠ 0) (hb : b ≠ 0) : a * b ≠ 0 := fun h => by
  have h1 := C.mul_inv a ha
  have h2 := C.mul_inv b hb
  exact C.one_ne (by grind)
theorem Cv.zero_or (C : Cv R) {a b : R} (h : a * b = 0) : a = 0 ∨ b = 0 := by
  by_cases ha : a = 0
  · exact .inl ha
  · by_cases hb : b = 0
    · exact .inr hb
    · exact absurd h (C.no_zero ha hb)
theorem Cv.cancel (C : Cv R) {a u v : R} (ha : a ≠ 0) (h : a * u = a * v) : u = v := by
  have h1 := C.mul_inv a ha
  grind
def Cv.on (P : Pt R) : Prop := P.y * P.y - P.x * P.x = 1 + C.d * P.x * P.x * P.y * P.y
def Cv.e (P Q : Pt R) : R := C.d * P.x * Q.x * P.y * Q.y
def Cv.add (P Q : Pt R) : Pt R := ⟨(P.x * Q.y + Q.x * P.y) * C.inv (1 + C.e P Q), (P.y * Q.y + P.x * Q.x) * C.inv (1 - C.e P Q)⟩
def zero : Pt R := ⟨0, 1⟩
def neg (P : Pt R) : Pt R := ⟨-P.x, P.y⟩

theorem Cv.sq_no {u v : R} (hv : v ≠ 0) (h : u * u = C.d * (v * v)) : False := by
  have h1 := C.mul_inv v hv
  exact C.nsq (u * C.inv v) (by grind)
theorem Cv.complete {P Q : Pt R} (hP : C.on P) (hQ : C.on Q) : C.e P Q * C.e P Q ≠ 1 := fun h => by
  obtain ⟨x1, y1⟩ := P
  obtain ⟨x2, y2⟩ := Q
  simp only [on, e] at *
  have hi := C.i_sq
  have h1 : (C.i * x1 + C.d * x1 * x2 * y1 * y2 * y1) * (C.i * x1 + C.d * x1 * x2 * y1 * y2 * y1) = C.d * ((x1 * y1 * (C.i * x2 + y2)) * (x1 * y1 * (C.i * x2 + y2))) := by grind
  have h2 : (C.i * x1 - C.d * x1 * x2 * y1 * y2 * y1) * (C.i * x1 - C.d * x1 * x2 * y1 * y2 * y1) = C.d * ((x1 * y1 * (C.i * x2 - y2)) * (x1 * y1 * (C.i * x2 - y2))) := by grind
  have n1 : x1 ≠ 0 := fun e => C.one_ne (by rw [e] at h; grind)
  have n2 : y1 ≠ 0 := fun e => C.one_ne (by rw [e] at h; grind)
  have n3 : y2 ≠ 0 := fun e => C.one_ne (by rw [e] at h; grind)
  have n4 := C.no_zero n1 n2
  by_cases h3 : C.i * x2 + y2 = 0
  · by_cases h4 : C.i * x2 - y2 = 0
    · have h5 : (1 + 1) * y2 = 0 := by grind
      rcases C.zero_or h5 with h6 | h6
      · exact C.two_ne h6
      · exact n3 h6
    · exact C.sq_no (C.no_zero n4 h4) h2
  · exact C.sq_no (C.no_zero n4 h3) h1
theorem Cv.plus_ne {P Q : Pt R} (hP : C.on P) (hQ : C.on Q) : 1 + C.e P Q ≠ 0 := fun h => C.complete hP hQ (by grind)
theorem Cv.minus_ne {P Q : Pt R} (hP : C.on P) (hQ : C.on Q) : 1 - C.e P Q ≠ 0 := fun h => C.complete hP hQ (by grind)

theorem Cv.on_zero : C.on (zero : Pt R) := by simp only [on, zero]; grind
theorem Cv.on_neg {P : Pt R} (h : C.on P) : C.on (neg P) := by simp only [on, neg] at *; grind
theorem Cv.add_zero (P : Pt R) : C.add P zero = P := by
  obtain ⟨x, y⟩ := P
  have h1 := C.mul_inv 1 C.one_ne
  have h2 : C.e ⟨x, y⟩ ⟨0, 1⟩ = 0 := by simp only [e]; grind
  simp only [add, zero, h2]
  rw [show (1 : R) + 0 = 1 by grind, show (1 : R) - 0 = 1 by grind]
  congr 1 <;> grind
theorem Cv.e_comm (P Q : Pt R) : C.e P Q = C.e Q P := by simp only [e]; grind
theorem Cv.add_comm (P Q : Pt R) : C.add P Q = C.add Q P := by
  simp only [add, C.e_comm P Q]
  congr 1 <;> grind
theorem Cv.on_add {P Q : Pt R} (hP : C.on P) (hQ : C.on Q) : C.on (C.add P Q) := by
  have h1 := C.mul_inv _ (C.plus_ne hP hQ)
  have h2 := C.mul_inv _ (C.minus_ne hP hQ)
  obtain ⟨x1, y1⟩ := P
  obtain ⟨x2, y2⟩ := Q
  simp only [on, add, e] at *
  generalize C.inv (1 + C.d * x1 * x2 * y1 * y2) = a at *
  generalize C.inv (1 - C.d * x1 * x2 * y1 * y2) = b at *
  have k : ((y1*y2+x1*x2)*(1 + C.d*x1*x2*y1*y2))*((y1*y2+x1*x2)*(1 + C.d*x1*x2*y1*y2)) - ((x1*y2+x2*y1)*(1 - C.d*x1*x2*y1*y2))*((x1*y2+x2*y1)*(1 - C.d*x1*x2*y1*y2)) = ((1 + C.d*x1*x2*y1*y2)*(1 - C.d*x1*x2*y1*y2))*((1 + C.d*x1*x2*y1*y2)*(1 - C.d*x1*x2*y1*y2)) + C.d*((x1*y2+x2*y1)*(x1*y2+x2*y1))*((y1*y2+x1*x2)*(y1*y2+x1*x2)) := by grind
  generalize C.d * x1 * x2 * y1 * y2 = ee at *
  generalize y1*y2+x1*x2 = B at *
  generalize x1*y2+x2*y1 = A at *
  clear hP hQ
  have e1 : (a * b) * (a * b) * (B * (1 + ee) * (B * (1 + ee)) - A * (1 - ee) * (A * (1 - ee))) = B * b * (B * b) - A * a * (A * a) := by grind
  have e2 : (a * b) * (a * b) * ((1 + ee) * (1 - ee) * ((1 + ee) * (1 - ee)) + C.d * (A * A) * (B * B)) = 1 + C.d * (A * a) * (A * a) * (B * b) * (B * b) := by grind
  rw [← e1, ← e2, k]

theorem Cv.frac (C : Cv R) {X Y n m k l : R} (hm : m ≠ 0) (hl : l ≠ 0) (h1 : X * m = n) (h2 : Y * l = k) (h : n * l = k * m) : X = Y :=
  C.cancel (C.no_zero hm hl) (by grind)
theorem Cv.third {P Q S : Pt R} (hP : C.on P) (hQ : C.on Q) (hS : C.on S) :
    (C.add (C.add P Q) S).x * ((1 - C.e P Q) * (1 + C.e P Q) + C.d * S.x * S.y * (P.x * Q.y + Q.x * P.y) * (P.y * Q.y + P.x * Q.x)) = (P.x * Q.y + Q.x * P.y) * S.y * (1 - C.e P Q) + S.x * (P.y * Q.y + P.x * Q.x) * (1 + C.e P Q) ∧
    (C.add (C.add P Q) S).y * ((1 - C.e P Q) * (1 + C.e P Q) - C.d * S.x * S.y * (P.x * Q.y + Q.x * P.y) * (P.y * Q.y + P.x * Q.x)) = (P.y * Q.y + P.x * Q.x) * S.y * (1 + C.e P Q) + S.x * (P.x * Q.y + Q.x * P.y) * (1 - C.e P Q) ∧
    (1 - C.e P Q) * (1 + C.e P Q) + C.d * S.x * S.y * (P.x * Q.y + Q.x * P.y) * (P.y * Q.y + P.x * Q.x) ≠ 0 ∧ (1 - C.e P Q) * (1 + C.e P Q) - C.d * S.x * S.y * (P.x * Q.y + Q.x * P.y) * (P.y * Q.y + P.x * Q.x) ≠ 0 := by
  have p1 := C.plus_ne hP hQ
  have p2 := C.minus_ne hP hQ
  have hA := C.on_add hP hQ
  have p3 := C.plus_ne hA hS
  have p4 := C.minus_ne hA hS
  have h1 := C.mul_inv _ p1
  have h2 := C.mul_inv _ p2
  have h3 := C.mul_inv _ p3
  have h4 := C.mul_inv _ p4
  have m1 := C.no_zero (C.no_zero p2 p1) p3
  have m2 := C.no_zero (C.no_zero p2 p1) p4
  generalize he : C.e P Q = ee at *
  have eA : C.e (C.add P Q) S = C.d * ((P.x * Q.y + Q.x * P.y) * C.inv (1 + ee)) * S.x * ((P.y * Q.y + P.x * Q.x) * C.inv (1 - ee)) * S.y := by rw [← he]; rfl
  have xA : (C.add (C.add P Q) S).x = ((P.x * Q.y + Q.x * P.y) * C.inv (1 + ee) * S.y + S.x * ((P.y * Q.y + P.x * Q.x) * C.inv (1 - ee))) * C.inv (1 + C.e (C.add P Q) S) := by rw [← he]; rfl
  have yA : (C.add (C.add P Q) S).y = ((P.y * Q.y + P.x * Q.x) * C.inv (1 - ee) * S.y + (P.x * Q.y + Q.x * P.y) * C.inv (1 + ee) * S.x) * C.inv (1 - C.e (C.add P Q) S) := by rw [← he]; rfl
  rw [xA, yA]
  generalize C.inv (1 + C.e (C.add P Q) S) = u at *
  generalize C.inv (1 - C.e (C.add P Q) S) = v at *
  rw [eA] at h3 h4 m1 m2
  generalize C.inv (1 + ee) = a at *
  generalize C.inv (1 - ee) = b at *
  generalize P.x * Q.y + Q.x * P.y = A at *
  generalize P.y * Q.y + P.x * Q.x = B at *
  clear he eA xA yA hA p3 p4 hP hQ hS
  have k1 : (1 - ee) * (1 + ee) + C.d * S.x * S.y * A * B = (1 - ee) * (1 + ee) * (1 + C.d * (A * a) * S.x * (B * b) * S.y) := by grind
  have k2 : (1 - ee) * (1 + ee) - C.d * S.x * S.y * A * B = (1 - ee) * (1 + ee) * (1 - C.d * (A * a) * S.x * (B * b) * S.y) := by grind
  rw [k1, k2]
  refine ⟨?_, ?_, m1, m2⟩
  · generalize (1 + C.d * (A * a) * S.x * (B * b) * S.y) = w at *
    have : (A * a * S.y + S.x * (B * b)) * u * ((1 - ee) * (1 + ee) * w) = (A * ((1 + ee) * a) * (1 - ee) * S.y + S.x * (B * ((1 - ee) * b)) * (1 + ee)) * (w * u) := by grind
    rw [this, h1, h2, h3]; grind
  · generalize (1 - C.d * (A * a) * S.x * (B * b) * S.y) = w at *
    have : (B * b * S.y + A * a * S.x) * v * ((1 - ee) * (1 + ee) * w) = (B * ((1 - ee) * b) * (1 + ee) * S.y + S.x * (A * ((1 + ee) * a)) * (1 - ee)) * (w * v) := by grind
    rw [this, h1, h2, h4]; grind
theorem Cv.add_assoc {P Q S : Pt R} (hP : C.on P) (hQ : C.on Q) (hS : C.on S) : C.add (C.add P Q) S = C.add P (C.add Q S) := by
  rw [C.add_comm P (C.add Q S)]
  obtain ⟨a1, a2, a3, a4⟩ := C.third hP hQ hS
  obtain ⟨b1, b2, b3, b4⟩ := C.third hQ hS hP
  have hx : (C.add (C.add P Q) S).x = (C.add (C.add Q S) P).x := by
    refine C.frac a3 b3 a1 b1 ?_
    clear a1 a2 a3 a4 b1 b2 b3 b4
    simp only [on, e] at *
    grind
  have hy : (C.add (C.add P Q) S).y = (C.add (C.add Q S) P).y := by
    refine C.frac a4 b4 a2 b2 ?_
    clear a1 a2 a3 a4 b1 b2 b3 b4 hx
    simp only [on, e] at *
    grind
  revert hx hy
  generalize C.add (C.add P Q) S = U
  generalize C.add (C.add Q S) P = V
  obtain ⟨x, y⟩ := U
  obtain ⟨z, w⟩ := V
  rintro rfl rfl
  rfl
end
section
variable {R : Type} [CommRing R] (C : Cv R)
theorem Cv.zero_add (P : Pt R) : C.add zero P = P := by rw [C.add_comm, C.add_zero]
def Cv.mul : Nat → Pt R → Pt R
  | 0, _ => zero
  | n + 1, P => C.add (Cv.mul n P) P
theorem Cv.on_mul {P : Pt R} (h : C.on P) : ∀ n, C.on (C.mul n P)
  | 0 => C.on_zero
  | n + 1 => C.on_add (Cv.on_mul h n) h
theorem Cv.mul_one (P : Pt R) : C.mul 1 P = P := C.zero_add P
theorem Cv.mul_add {P : Pt R} (h : C.on P) (m : Nat) : ∀ n, C.mul (m + n) P = C.add (C.mul m P) (C.mul n P)
  | 0 => (C.add_zero _).symm
  | n + 1 => by
    show C.add (C.mul (m + n) P) P = C.add (C.mul m P) (C.add (C.mul n P) P)
    rw [Cv.mul_add h m n, C.add_assoc (C.on_mul h m) (C.on_mul h n) h]
theorem Cv.swap4 {P Q S T : Pt R} (hP : C.on P) (hQ : C.on Q) (hS : C.on S) (hT : C.on T) : C.add (C.add P Q) (C.add S T) = C.add (C.add P S) (C.add Q T) := by
  rw [C.add_assoc hP hQ (C.on_add hS hT), ← C.add_assoc hQ hS hT, C.add_comm Q S, C.add_assoc hS hQ hT, ← C.add_assoc hP hS (C.on_add hQ hT)]
theorem Cv.mul_zero : ∀ n, C.mul n (zero : Pt R) = zero
  | 0 => rfl
  | n + 1 => by show C.add (C.mul n zero) zero = zero; rw [Cv.mul_zero n, C.add_zero]
theorem Cv.mul_two {P : Pt R} (h : C.on P) (n : Nat) : C.mul (2 * n) P = C.add (C.mul n P) (C.mul n P) := by rw [Nat.two_mul, C.mul_add h]
theorem Cv.below_ne (C : Cv R) (Y : R) : C.d * (Y * Y) + 1 ≠ 0 := fun h => by
  have hi := C.i_sq
  by_cases hY : Y = 0
  · rw [hY] at h
    exact C.one_ne (by grind)
  · exact C.sq_no (u := C.i) (v := Y) hY (by grind)
theorem Cv.on_read {x Y u : R} (h2 : (C.d * (Y * Y) + 1) * u = 1) (h3 : x * x = (Y * Y - 1) * u) : C.on ⟨x, Y⟩ := by
  show Y * Y - x * x = 1 + C.d * x * x * Y * Y
  have h4 : x * x * (C.d * (Y * Y) + 1) = Y * Y - 1 := by
    rw [h3]
    have : (Y * Y - 1) * u * (C.d * (Y * Y) + 1) = (Y * Y - 1) * ((C.d * (Y * Y) + 1) * u) := by grind
    rw [this, h2]; grind
  grind
theorem Cv.on_iff (P : Pt R) : C.on P ↔ P.y * P.y - P.x * P.x = 1 + C.d * (P.x * P.x * (P.y * P.y)) := by
  have e : C.d * P.x * P.x * P.y * P.y = C.d * (P.x * P.x * (P.y * P.y)) := by grind
  simp only [on, e]
theorem sq_neg (x : R) : -x * -x = x * x := by grind
structure Wd (R : Type) where
  x : R
  y : R
  z : R
  t : R
structure Wd.rep (w : Wd R) (P : Pt R) : Prop where
  z : w.z ≠ 0
  x : w.x = P.x * w.z
  y : w.y = P.y * w.z
  t : w.t = P.x * P.y * w.z
def Wd.fin (e f g h : R) : Wd R := ⟨e * f, g * h, f * g, e * h⟩
def Wd.add (d : R) (w p : Wd R) : Wd R :=
  Wd.fin ((w.y + w.x) * (p.y + p.x) - (w.y - w.x) * (p.y - p.x)) (w.z * p.z + w.z * p.z - w.t * (d + d) * p.t) (w.z * p.z + w.z * p.z + w.t * (d + d) * p.t) ((w.y + w.x) * (p.y + p.x) + (w.y - w.x) * (p.y - p.x))
def Wd.dbl (w : Wd R) : Wd R :=
  Wd.fin (w.x * w.x + w.y * w.y - (w.x + w.y) * (w.x + w.y)) (w.z * w.z + w.z * w.z + (w.x * w.x - w.y * w.y)) (w.x * w.x - w.y * w.y) (w.x * w.x + w.y * w.y)
def Wd.of (P : Pt R) : Wd R := ⟨P.x, P.y, 1, P.x * P.y⟩
theorem Cv.rep_of (C : Cv R) (P : Pt R) : (Wd.of P).rep P := ⟨C.one_ne, by simp only [Wd.of]; grind, by simp only [Wd.of]; grind, by simp only [Wd.of]; grind⟩
theorem Cv.rep_add {w p : Wd R} {P Q : Pt R} (hw : w.rep P) (hp : p.rep Q) (hP : C.on P) (hQ : C.on Q) : (Wd.add C.d w p).rep (C.add P Q) := by
  have p1 := C.plus_ne hP hQ
  have p2 := C.minus_ne hP hQ
  have h1 := C.mul_inv _ p1
  have h2 := C.mul_inv _ p2
  obtain ⟨w1, w2, w3, w4⟩ := hw
  obtain ⟨q1, q2, q3, q4⟩ := hp
  have hzz := C.no_zero w1 q1
  have hz2 := C.no_zero (C.no_zero C.two_ne hzz) (C.no_zero C.two_ne hzz)
  have hz3 := C.no_zero hz2 (C.no_zero p2 p1)
  obtain ⟨x, y, z, t⟩ := w
  obtain ⟨x', y', z', t'⟩ := p
  simp only at *
  subst w2 w3 w4 q2 q3 q4
  have e1 : C.e P Q = C.d * P.x * Q.x * P.y * Q.y := rfl
  simp only [Cv.add, Wd.add, Wd.fin]
  generalize C.inv (1 + C.e P Q) = a at *
  generalize C.inv (1 - C.e P Q) = b at *
  have f1 : z * z' + z * z' - P.x * P.y * z * (C.d + C.d) * (Q.x * Q.y * z') = (1 + 1) * (z * z') * (1 - C.e P Q) := by rw [e1]; grind
  have f2 : z * z' + z * z' + P.x * P.y * z * (C.d + C.d) * (Q.x * Q.y * z') = (1 + 1) * (z * z') * (1 + C.e P Q) := by rw [e1]; grind
  have f3 : (P.y * z + P.x * z) * (Q.y * z' + Q.x * z') - (P.y * z - P.x * z) * (Q.y * z' - Q.x * z') = (1 + 1) * (z * z') * (P.x * Q.y + Q.x * P.y) := by grind
  have f4 : (P.y * z + P.x * z) * (Q.y * z' + Q.x * z') + (P.y * z - P.x * z) * (Q.y * z' - Q.x * z') = (1 + 1) * (z * z') * (P.y * Q.y + P.x * Q.x) := by grind
  rw [f1, f2, f3, f4]
  generalize P.x * Q.y + Q.x * P.y = A at *
  generalize P.y * Q.y + P.x * Q.x = B at *
  generalize C.e P Q = ee at *
  generalize (1 + 1) * (z * z') = k at *
  constructor <;> simp only
  · intro h; exact hz3 (by grind)
  · have : A * a * (k * (1 - ee) * (k * (1 + ee))) = k * A * (k * (1 - ee)) * ((1 + ee) * a) := by grind
    rw [this, h1]; grind
  · have : B * b * (k * (1 - ee) * (k * (1 + ee))) = k * (1 + ee) * (k * B) * ((1 - ee) * b) := by grind
    rw [this, h2]; grind
  · have : A * a * (B * b) * (k * (1 - ee) * (k * (1 + ee))) = k * A * (k * B) * ((1 + ee) * a) * ((1 - ee) * b) := by grind
    rw [this, h1, h2]; grind
theorem Cv.rep_dbl {w : Wd R} {P : Pt R} (hw : w.rep P) (hP : C.on P) : (Wd.dbl w).rep (C.add P P) := by
  have p1 := C.plus_ne hP hP
  have p2 := C.minus_ne hP hP
  have h1 := C.mul_inv _ p1
  have h2 := C.mul_inv _ p2
  obtain ⟨w1, w2, w3, w4⟩ := hw
  have hzz := C.no_zero w1 w1
  have hz2 := C.no_zero hzz hzz
  have hz3 := C.no_zero hz2 (C.no_zero p2 p1)
  obtain ⟨x, y, z, t⟩ := w
  simp only at *
  subst w2 w3 w4
  have e1 : P.y * P.y - P.x * P.x = 1 + C.e P P := by
    have h := hP
    simp only [on] at h
    rw [h]; rfl
  simp only [Cv.add, Wd.dbl, Wd.fin]
  generalize C.inv (1 + C.e P P) = a at *
  generalize C.inv (1 - C.e P P) = b at *
  generalize C.e P P = ee at *
  have f1 : z * z + z * z + (P.x * z * (P.x * z) - P.y * z * (P.y * z)) = (z * z) * (1 - ee) := by grind
  have f2 : P.x * z * (P.x * z) - P.y * z * (P.y * z) = - ((z * z) * (1 + ee)) := by grind
  have f3 : P.x * z * (P.x * z) + P.y * z * (P.y * z) - (P.x * z + P.y * z) * (P.x * z + P.y * z) = - ((z * z) * (P.x * P.y + P.x * P.y)) := by grind
  have f4 : P.x * z * (P.x * z) + P.y * z * (P.y * z) = (z * z) * (P.y * P.y + P.x * P.x) := by grind
  rw [f1, f2, f3, f4]
  clear f1 f2 f3 f4 e1
  generalize P.x * P.y + P.x * P.y = A at *
  generalize P.y * P.y + P.x * P.x = B at *
  generalize z * z = k at *
  constructor <;> simp only
  · intro h; exact hz3 (by grind)
  · have : A * a * (k * (1 - ee) * -(k * (1 + ee))) = -(k * A) * (k * (1 - ee)) * ((1 + ee) * a) := by grind
    rw [this, h1]; grind
  · have : B * b * (k * (1 - ee) * -(k * (1 + ee))) = -(k * (1 + ee)) * (k * B) * ((1 - ee) * b) := by grind
    rw [this, h2]; grind
  · have : A * a * (B * b) * (k * (1 - ee) * -(k * (1 + ee))) = -(k * A) * (k * B) * ((1 + ee) * a) * ((1 - ee) * b) := by grind
    rw [this, h1, h2]; grind
theorem Cv.rep_pt {w : Wd R} {P : Pt R} (hw : w.rep P) : (⟨w.x * C.inv w.z, w.y * C.inv w.z⟩ : Pt R) = P := by
  have h1 := C.mul_inv _ hw.z
  rw [hw.x, hw.y]
  obtain ⟨x, y⟩ := P
  simp only
  congr 1 <;> grind

structure Fr (R : Type) where
  x : R
  y : R
  z : R
structure Fr.rep (w : Fr R) (P : Pt R) : Prop where
  z : w.z ≠ 0
  x : w.x = P.x * w.z
  y : w.y = P.y * w.z
def Fr.add (d : R) (p q : Fr R) : Fr R :=
  ⟨p.z * q.z * ((p.z * q.z * (p.z * q.z) - d * (p.x * q.x * (p.y * q.y))) * ((p.x + p.y) * (q.x + q.y) - (p.x * q.x + p.y * q.y))), p.z * q.z * ((p.z * q.z * (p.z * q.z) + d * (p.x * q.x * (p.y * q.y))) * (p.x * q.x + p.y * q.y)), (p.z * q.z * (p.z * q.z) - d * (p.x * q.x * (p.y * q.y))) * (p.z * q.z * (p.z * q.z) + d * (p.x * q.x * (p.y * q.y)))⟩
def Fr.of (P : Pt R) : Fr R := ⟨P.x, P.y, 1⟩
theorem Cv.far_of (C : Cv R) (P : Pt R) : (Fr.of P).rep P := ⟨C.one_ne, by simp only [Fr.of]; grind, by simp only [Fr.of]; grind⟩
theorem Cv.far_add {w p : Fr R} {P Q : Pt R} (hw : w.rep P) (hp : p.rep Q) (hP : C.on P) (hQ : C.on Q) : (Fr.add C.d w p).rep (C.add P Q) := by
  have p1 := C.plus_ne hP hQ
  have p2 := C.minus_ne hP hQ
  have h1 := C.mul_inv _ p1
  have h2 := C.mul_inv _ p2
  obtain ⟨w1, w2, w3⟩ := hw
  obtain ⟨q1, q2, q3⟩ := hp
  have hzz := C.no_zero w1 q1
  have hz2 := C.no_zero (C.no_zero hzz hzz) (C.no_zero hzz hzz)
  have hz3 := C.no_zero hz2 (C.no_zero p2 p1)
  obtain ⟨x, y, z⟩ := w
  obtain ⟨x', y', z'⟩ := p
  simp only at *
  subst w2 w3 q2 q3
  have e1 : C.e P Q = C.d * P.x * Q.x * P.y * Q.y := rfl
  simp only [Cv.add, Fr.add]
  generalize C.inv (1 + C.e P Q) = a at *
  generalize C.inv (1 - C.e P Q) = b at *
  have f1 : z * z' * (z * z') - C.d * (P.x * z * (Q.x * z') * (P.y * z * (Q.y * z'))) = z * z' * (z * z') * (1 - C.e P Q) := by rw [e1]; grind
  have f2 : z * z' * (z * z') + C.d * (P.x * z * (Q.x * z') * (P.y * z * (Q.y * z'))) = z * z' * (z * z') * (1 + C.e P Q) := by rw [e1]; grind
  have f3 : (P.x * z + P.y * z) * (Q.x * z' + Q.y * z') - (P.x * z * (Q.x * z') + P.y * z * (Q.y * z')) = z * z' * (P.x * Q.y + Q.x * P.y) := by grind
  have f4 : P.x * z * (Q.x * z') + P.y * z * (Q.y * z') = z * z' * (P.y * Q.y + P.x * Q.x) := by grind
  rw [f3, f1, f2, f4]
  clear f1 f2 f3 f4
  generalize P.x * Q.y + Q.x * P.y = A at *
  generalize P.y * Q.y + P.x * Q.x = B at *
  generalize C.e P Q = ee at *
  generalize z * z' = k at *
  constructor <;> simp only
  · intro h; exact hz3 (by grind)
  · have : A * a * (k * k * (1 - ee) * (k * k * (1 + ee))) = k * (k * k * (1 - ee) * (k * A)) * ((1 + ee) * a) := by grind
    rw [this, h1]; grind
  · have : B * b * (k * k * (1 - ee) * (k * k * (1 + ee))) = k * (k * k * (1 + ee) * (k * B)) * ((1 - ee) * b) := by grind
    rw [this, h2]; grind
theorem Cv.far_pt {w : Fr R} {P : Pt R} (hw : w.rep P) : (⟨w.x * C.inv w.z, w.y * C.inv w.z⟩ : Pt R) = P := by
  have h1 := C.mul_inv _ hw.z
  rw [hw.x, hw.y]
  obtain ⟨x, y⟩ := P
  simp only
  congr 1 <;> grind

def Cv.lin (a b : Nat) (P Q : Pt R) : Pt R := C.add (C.mul a P) (C.mul b Q)
theorem Cv.on_lin {P Q : Pt R} (hP : C.on P) (hQ : C.on Q) (a b : Nat) : C.on (C.lin a b P Q) := C.on_add (C.on_mul hP a) (C.on_mul hQ b)
theorem Cv.lin_two {P Q : Pt R} (hP : C.on P) (hQ : C.on Q) (a b : Nat) : C.lin (2 * a) (2 * b) P Q = C.add (C.lin a b P Q) (C.lin a b P Q) := by
  simp only [lin]
  rw [C.mul_two hP, C.mul_two hQ, C.swap4 (C.on_mul hP a) (C.on_mul hP a) (C.on_mul hQ b) (C.on_mul hQ b)]
theorem Cv.lin_left {P Q : Pt R} (hP : C.on P) (hQ : C.on Q) (a b : Nat) : C.lin (a + 1) b P Q = C.add (C.lin a b P Q) P := by
  simp only [lin]
  show C.add (C.add (C.mul a P) P) (C.mul b Q) = _
  rw [C.add_assoc (C.on_mul hP a) hP (C.on_mul hQ b), C.add_comm P, ← C.add_assoc (C.on_mul hP a) (C.on_mul hQ b) hP]
theorem Cv.lin_right {P Q : Pt R} (hP : C.on P) (hQ : C.on Q) (a b : Nat) : C.lin a (b + 1) P Q = C.add (C.lin a b P Q) Q := by
  simp only [lin]
  show C.add (C.mul a P) (C.add (C.mul b Q) Q) = _
  rw [← C.add_assoc (C.on_mul hP a) (C.on_mul hQ b) hQ]
theorem Cv.lin_both {P Q : Pt R} (hP : C.on P) (hQ : C.on Q) (a b : Nat) : C.lin (a + 1) (b + 1) P Q = C.add (C.lin a b P Q) (C.add P Q) := by
  rw [C.lin_right hP hQ, C.lin_left hP hQ, C.add_assoc (C.on_lin hP hQ a b) hP hQ]
theorem Cv.lin_zero (P Q : Pt R) : C.lin 0 0 P Q = zero := C.add_zero _
end
end Ed
end

section
namespace Hw
open Go

def le : List UInt8 → Nat
  | [] => 0
  | b :: l => b.toNat + 256 * le l

def leb : Nat → Nat → List UInt8
  | 0, _ => []
  | k + 1, n => UInt8.ofNat n :: leb k (n / 256)

def w64 (n : Nat) : UInt64 := UInt64.ofNat n

def wv (l : List UInt64) : Nat := l.foldl (fun a x => a * 2 ^ 64 + x.toNat) 0

def A6 (n : Nat) : List UInt64 := [w64 (n / 2 ^ 192), w64 (n / 2 ^ 128), w64 (n / 2 ^ 64), w64 n]

theorem Aj : ∀ k n, (leb k n).length = k
  | 0, _ => rfl
  | k + 1, n => by simp [leb, Aj k]

theorem le_leb : ∀ k n, le (leb k n) = n % 256 ^ k
  | 0, n => by simp [le, leb, Nat.mod_one]
  | k + 1, n => by
    rw [leb, le, le_leb k, Nat.pow_succ, Nat.mul_comm (256 ^ k) 256, Nat.mod_mul]
    simp

theorem le_lt : ∀ l : List UInt8, le l < 256 ^ l.length
  | [] => by simp [le]
  | b :: l => by
    have := le_lt l
    have := b.toNat_lt
    rw [le, List.length_cons, Nat.pow_succ]
    omega

theorem le32 {l : List UInt8} (h : l.length = 32) : le l < 2 ^ 256 := by
  have := le_lt l; rw [h] at this; exact this

theorem leb_le : ∀ l : List UInt8, leb l.length (le l) = l
  | [] => rfl
  | b :: l => by
    have h := b.toNat_lt
    have h1 : (b.toNat + 256 * le l) / 256 = le l := by omega
    have h2 : UInt8.ofNat (b.toNat + 256 * le l) = b := by
      apply UInt8.toNat_inj.1
      rw [UInt8.toNat_ofNat']
      omega
    rw [le, List.length_cons, leb, h1, h2, leb_le l]

theorem le_append : ∀ a b : List UInt8, le (a ++ b) = le a + 256 ^ a.length * le b
  | [], b => by simp [le]
  | x :: a, b => by
    have : 256 ^ a.length * 256 * le b = 256 * (256 ^ a.length * le b) := by rw [Nat.mul_comm (256 ^ a.length) 256, Nat.mul_assoc]
    rw [List.cons_append, le, le_append a b, le, List.length_cons, Nat.pow_succ, this]
    omega

theorem Bl (n : Nat) : (w64 n).toNat = n % 2 ^ 64 := by simp [w64]

theorem wv4 (a b c d : UInt64) : wv [a, b, c, d] = ((a.toNat * 2 ^ 64 + b.toNat) * 2 ^ 64 + c.toNat) * 2 ^ 64 + d.toNat := by
  simp [wv]

theorem Bd (n : Nat) : (A6 n).length = 4 := rfl

theorem wv_take_succ (l : List UInt64) (k : Nat) (h : k < l.length) : wv (l.take (k + 1)) = wv (l.take k) * 2 ^ 64 + (l.getD k 0).toNat := by
  rw [List.take_succ_eq_append_getElem h, wv, List.foldl_append]
  simp [wv, List.getD, h]

theorem words4_wv {l : List UInt64} (h : l.length = 4) : A6 (wv l) = l := by
  match l, h with
  | [a, b, c, d], _ =>
    have ha := a.toNat_lt; have hb := b.toNat_lt; have hc := c.toNat_lt; have hd := d.toNat_lt
    rw [wv4]
    simp only [A6]
    have e1 : w64 ((((a.toNat * 2 ^ 64 + b.toNat) * 2 ^ 64 + c.toNat) * 2 ^ 64 + d.toNat) / 2 ^ 192) = a := by
      apply UInt64.toNat_inj.1; rw [Bl]; omega
    have e2 : w64 ((((a.toNat * 2 ^ 64 + b.toNat) * 2 ^ 64 + c.toNat) * 2 ^ 64 + d.toNat) / 2 ^ 128) = b := by
      apply UInt64.toNat_inj.1; rw [Bl]; omega
    have e3 : w64 ((((a.toNat * 2 ^ 64 + b.toNat) * 2 ^ 64 + c.toNat) * 2 ^ 64 + d.toNat) / 2 ^ 64) = c := by
      apply UInt64.toNat_inj.1; rw [Bl]; omega
    have e4 : w64 ((((a.toNat * 2 ^ 64 + b.toNat) * 2 ^ 64 + c.toNat) * 2 ^ 64 + d.toNat)) = d := by
      apply UInt64.toNat_inj.1; rw [Bl]; omega
    rw [e1, e2, e3, e4]

theorem wv_words4 (n : Nat) : wv (A6 n) = n % 2 ^ 256 := by
  rw [A6, wv4]
  simp only [Bl]
  omega

theorem words4_mod (n : Nat) : A6 (n % 2 ^ 256) = A6 n := by
  rw [← wv_words4, words4_wv rfl]

def L : Nat := 7237005577332262213973186563042994240857116359379907606001950938285454250989


def cmp1 (x y : UInt64) : Int := if x.toNat < y.toNat then -1 else if y.toNat < x.toNat then 1 else 0

def cmpW : List UInt64 → List UInt64 → Int
  | x :: xs, y :: ys => if cmp1 x y = 0 then cmpW xs ys else cmp1 x y
  | _, _ => 0

theorem cmp1_self (x : UInt64) : cmp1 x x = 0 := by simp [cmp1]

theorem cmpW_at : ∀ (k : Nat) (xs ys : List UInt64), (∀ j, j < k → xs.getD j 0 = ys.getD j 0) → k < xs.length → k < ys.length → cmp1 (xs.getD k 0) (ys.getD k 0) ≠ 0 → cmpW xs ys = cmp1 (xs.getD k 0) (ys.getD k 0)
  | _, [], _, _, h, _, _ => by simp at h
  | _, _, [], _, _, h, _ => by simp at h
  | 0, x :: xs, y :: ys, _, _, _, hc => by
    simp at hc
    simp [cmpW, hc]
  | k + 1, x :: xs, y :: ys, h, hx, hy, hc => by
    have h0 := h 0 oM
    simp at h0
    subst h0
    have := cmpW_at k xs ys (fun j hj => by have := h (j + 1) oM; simpa using this) (by simpa using hx) (by simpa using hy) (by simpa using hc)
    simpa [cmpW, cmp1_self] using this

theorem cmpW_all : ∀ (xs ys : List UInt64), xs.length = ys.length → (∀ j, j < xs.length → xs.getD j 0 = ys.getD j 0) → cmpW xs ys = 0
  | [], _, _, _ => by simp [cmpW]
  | _ :: _, [], h, _ => by simp at h
  | x :: xs, y :: ys, hl, h => by
    have h0 := h 0 sP
    simp at h0
    subst h0
    have := cmpW_all xs ys (by simpa using hl) (fun j hj => by have := h (j + 1) (by simp; omega); simpa using this)
    simpa [cmpW, cmp1_self] using this

theorem cmp1_eq {x y : UInt64} (h : cmp1 x y = 0) : x = y := by
  apply UInt64.toNat_inj.1
  unfold cmp1 at h
  split at h
  · simp at h
  · split at h
    · simp at h
    · omega

theorem cmpW_lt {w m : List UInt64} (hw : w.length = 4) (hm : m.length = 4) : cmpW w m < 0 ↔ wv w < wv m := by
  match w, hw, m, hm with
  | [a, b, c, d], _, [e, f, g, h], _ =>
    rw [wv4, wv4]
    have ha := a.toNat_lt; have hb := b.toNat_lt; have hc := c.toNat_lt; have hd := d.toNat_lt
    have he := e.toNat_lt; have hf := f.toNat_lt; have hg := g.toNat_lt; have hh := h.toNat_lt
    simp only [cmpW, cmp1]
    repeat' split
    all_goals omega

def mulHi (x y : UInt64) : UInt64 :=
  let x0 := x &&& 4294967295
  let x1 := As x 32
  let y0 := y &&& 4294967295
  let y1 := As y 32
  let t := x1 * y0 + As (x0 * y0) 32
  x1 * y1 + As t 32 + As ((t &&& 4294967295) + x0 * y1) 32

theorem A7 (x : UInt64) (n : Nat) : (As x n).toNat = x.toNat / 2 ^ n := by
  have h : x.toNat / 2 ^ n ≤ x.toNat := Nat.div_le_self _ _
  have := x.toNat_lt
  rw [As, UInt64.toNat_ofNat', Nat.mod_eq_of_lt oM]
theorem Cf (x : UInt64) (n : Nat) : (A2 x n).toNat = x.toNat * 2 ^ n % 2 ^ 64 := by rw [A2, UInt64.toNat_ofNat']
theorem and32_toNat (x : UInt64) : (x &&& 4294967295).toNat = x.toNat % 4294967296 := by
  rw [UInt64.toNat_and]
  exact Nat.and_two_pow_sub_one_eq_mod x.toNat 32

theorem mulHi_toNat (x y : UInt64) : (mulHi x y).toNat = x.toNat * y.toNat / 2 ^ 64 := by
  have hx := x.toNat_lt; have hy := y.toNat_lt
  have key := mul64_arith (x.toNat : Int) (y.toNat : Int) oM oM oM oM
  simp only [mulHi, UInt64.toNat_add, UInt64.toNat_mul, A7, and32_toNat]
  have e : ((x.toNat * y.toNat / 2 ^ 64 : Nat) : Int) = (x.toNat : Int) * y.toNat / 18446744073709551616 := by simp
  apply Int.ofNat.inj
  show ((_ : Nat) : Int) = ((_ : Nat) : Int)
  rw [e, ← key]
  simp

end Hw
end

section
namespace Hw
open Go

def PF : Nat := 57896044618658097711785492504343953926634992332820282019728792003956564819949
def LOW : UInt64 := 2251799813685247
theorem low_toNat (x : UInt64) : (x &&& LOW).toNat = x.toNat % 2251799813685248 := by
  rw [UInt64.toNat_and]
  exact Nat.and_two_pow_sub_one_eq_mod x.toNat 51
theorem or_add {x y : UInt64} {k m : Nat} (hx : x.toNat < 2 ^ k) (hy : y.toNat = 2 ^ k * m) : (x ||| y).toNat = x.toNat + y.toNat := by
  rw [UInt64.toNat_or, hy, Nat.or_comm, ← Nat.two_pow_add_eq_or_of_lt hx]
  omega
structure W5 where
  a : UInt64
  b : UInt64
  c : UInt64
  d : UInt64
  e : UInt64
def W5.l (w : W5) : List UInt64 := [w.a, w.b, w.c, w.d, w.e]
def W5.v (w : W5) : Nat := w.a.toNat + 2251799813685248 * w.b.toNat + 5070602400912917605986812821504 * w.c.toNat + 11417981541647679048466287755595961091061972992 * w.d.toNat + 25711008708143844408671393477458601640355247900524685364822016 * w.e.toNat

def ldF (q0 q1 q2 q3 : UInt64) : W5 :=
  ⟨q0 &&& LOW, (As q0 51 ||| A2 q1 13) &&& LOW, (As q1 38 ||| A2 q2 26) &&& LOW, (As q2 25 ||| A2 q3 39) &&& LOW, As q3 12⟩
theorem mid_word (x y : UInt64) (s : Nat) (hs : s ≤ 64) : (As x (64 - s) ||| A2 y s).toNat = x.toNat / 2 ^ (64 - s) + y.toNat * 2 ^ s % 2 ^ 64 := by
  have hx : x.toNat / 2 ^ (64 - s) < 2 ^ s := by
    rw [Nat.div_lt_iff_lt_mul (Nat.pow_pos dE), ← Nat.pow_add, show s + (64 - s) = 64 by omega]
    exact x.toNat_lt
  have e : y.toNat * 2 ^ s % 2 ^ 64 = 2 ^ s * (y.toNat % 2 ^ (64 - s)) := by
    have h := Nat.mul_mod_mul_left (2 ^ s) y.toNat (2 ^ (64 - s))
    rw [← Nat.pow_add, show s + (64 - s) = 64 by omega, Nat.mul_comm] at h
    exact h
  rw [or_add (k := s) (m := y.toNat % 2 ^ (64 - s)) (by rw [A7]; exact hx) (by rw [Cf, e]), A7, Cf]
structure W5.lt (w : W5) (n m : Nat) : Prop where
  a : w.a.toNat < n
  b : w.b.toNat < n
  c : w.c.toNat < n
  d : w.d.toNat < n
  e : w.e.toNat < m
theorem ldF_lt (q0 q1 q2 q3 : UInt64) : (ldF q0 q1 q2 q3).lt 2251799813685248 4503599627370496 := by
  have := q3.toNat_lt
  refine ⟨?_, ?_, ?_, ?_, ?_⟩ <;> simp only [ldF, low_toNat, A7] <;> omega
theorem ld_arith (q0 q1 q2 q3 : Nat) (h0 : q0 < 2 ^ 64) (h1 : q1 < 2 ^ 64) (h2 : q2 < 2 ^ 64) (h3 : q3 < 2 ^ 64) :
    q0 % 2251799813685248 + 2251799813685248 * ((q0 / 2 ^ 51 + q1 * 2 ^ 13 % 2 ^ 64) % 2251799813685248) + 5070602400912917605986812821504 * ((q1 / 2 ^ 38 + q2 * 2 ^ 26 % 2 ^ 64) % 2251799813685248) + 11417981541647679048466287755595961091061972992 * ((q2 / 2 ^ 25 + q3 * 2 ^ 39 % 2 ^ 64) % 2251799813685248) + 25711008708143844408671393477458601640355247900524685364822016 * (q3 / 2 ^ 12)
    = q0 + 18446744073709551616 * q1 + 340282366920938463463374607431768211456 * q2 + 6277101735386680763835789423207666416102355444464034512896 * q3 := by
  have e1 : (q0 / 2 ^ 51 + q1 * 2 ^ 13 % 2 ^ 64) % 2251799813685248 = q0 / 2251799813685248 + 8192 * (q1 % 274877906944) := by omega
  have e2 : (q1 / 2 ^ 38 + q2 * 2 ^ 26 % 2 ^ 64) % 2251799813685248 = q1 / 274877906944 + 67108864 * (q2 % 33554432) := by omega
  have e3 : (q2 / 2 ^ 25 + q3 * 2 ^ 39 % 2 ^ 64) % 2251799813685248 = q2 / 33554432 + 549755813888 * (q3 % 4096) := by omega
  rw [e1, e2, e3]
  omega
theorem ldF_v (q0 q1 q2 q3 : UInt64) : (ldF q0 q1 q2 q3).v = q0.toNat + 18446744073709551616 * q1.toNat + 340282366920938463463374607431768211456 * q2.toNat + 6277101735386680763835789423207666416102355444464034512896 * q3.toNat := by
  have h1 := mid_word q0 q1 13 dE
  have h2 := mid_word q1 q2 26 dE
  have h3 := mid_word q2 q3 39 dE
  simp only [W5.v, ldF, low_toNat]
  rw [show (As q0 51 ||| A2 q1 13).toNat = _ from h1, show (As q1 38 ||| A2 q2 26).toNat = _ from h2, show (As q2 25 ||| A2 q3 39).toNat = _ from h3, A7]
  exact ld_arith _ _ _ _ q0.toNat_lt q1.toNat_lt q2.toNat_lt q3.toNat_lt

def carF (w : W5) : W5 :=
  ⟨(w.a &&& LOW) + 19 * As w.e 51, (w.b &&& LOW) + As w.a 51, (w.c &&& LOW) + As w.b 51, (w.d &&& LOW) + As w.c 51, (w.e &&& LOW) + As w.d 51⟩
structure W5.carried (w : W5) (n : Nat) : Prop where
  a : w.a.toNat < 2251799813685248 + 155648
  b : w.b.toNat < 2251799813685248 + 8192
  c : w.c.toNat < 2251799813685248 + 8192
  d : w.d.toNat < 2251799813685248 + 8192
  e : w.e.toNat < 2251799813685248 + 8192
theorem carF_a (w : W5) : (carF w).a.toNat = w.a.toNat % 2251799813685248 + 19 * (w.e.toNat / 2251799813685248) := by
  have := w.e.toNat_lt
  simp only [carF, UInt64.toNat_add, UInt64.toNat_mul, low_toNat, A7]
  rw [show (19 : UInt64).toNat = 19 from rfl]
  omega
theorem carF_b (w : W5) : (carF w).b.toNat = w.b.toNat % 2251799813685248 + w.a.toNat / 2251799813685248 := by
  have := w.a.toNat_lt
  simp only [carF, UInt64.toNat_add, low_toNat, A7]
  omega
theorem carF_c (w : W5) : (carF w).c.toNat = w.c.toNat % 2251799813685248 + w.b.toNat / 2251799813685248 := by
  have := w.b.toNat_lt
  simp only [carF, UInt64.toNat_add, low_toNat, A7]
  omega
theorem carF_d (w : W5) : (carF w).d.toNat = w.d.toNat % 2251799813685248 + w.c.toNat / 2251799813685248 := by
  have := w.c.toNat_lt
  simp only [carF, UInt64.toNat_add, low_toNat, A7]
  omega
theorem carF_e (w : W5) : (carF w).e.toNat = w.e.toNat % 2251799813685248 + w.d.toNat / 2251799813685248 := by
  have := w.d.toNat_lt
  simp only [carF, UInt64.toNat_add, low_toNat, A7]
  omega
theorem carF_small (w : W5) : (carF w).carried 0 := by
  have h1 := w.a.toNat_lt; have h2 := w.b.toNat_lt; have h3 := w.c.toNat_lt; have h4 := w.d.toNat_lt; have h5 := w.e.toNat_lt
  refine ⟨?_, ?_, ?_, ?_, ?_⟩
  · rw [carF_a]; omega
  · rw [carF_b]; omega
  · rw [carF_c]; omega
  · rw [carF_d]; omega
  · rw [carF_e]; omega
theorem carF_v (w : W5) : (carF w).v + PF * (w.e.toNat / 2251799813685248) = w.v := by
  simp only [W5.v, carF_a, carF_b, carF_c, carF_d, carF_e, PF]
  omega
theorem carF_mod (w : W5) : (carF w).v % PF = w.v % PF := by rw [← carF_v w, Nat.add_mul_mod_self_left]

def ccF (w : W5) : UInt64 := As (w.e + As (w.d + As (w.c + As (w.b + As (w.a + 19) 51) 51) 51) 51) 51
def fixF (w : W5) (c : UInt64) : W5 :=
  ⟨(w.a + 19 * c) &&& LOW, (w.b + As (w.a + 19 * c) 51) &&& LOW, (w.c + As (w.b + As (w.a + 19 * c) 51) 51) &&& LOW,
   (w.d + As (w.c + As (w.b + As (w.a + 19 * c) 51) 51) 51) &&& LOW, (w.e + As (w.d + As (w.c + As (w.b + As (w.a + 19 * c) 51) 51) 51) 51) &&& LOW⟩
def stF (w : W5) : W5 := fixF (carF w) (ccF (carF w))
theorem cc_arith (a b c d e : Nat) : (e + (d + (c + (b + (a + 19) / 2251799813685248) / 2251799813685248) / 2251799813685248) / 2251799813685248) / 2251799813685248 =
    (a + 2251799813685248 * b + 5070602400912917605986812821504 * c + 11417981541647679048466287755595961091061972992 * d + 25711008708143844408671393477458601640355247900524685364822016 * e + 19) / 57896044618658097711785492504343953926634992332820282019728792003956564819968 := by omega
theorem ccF_v {w : W5} (h : w.carried 0) : (ccF w).toNat = (w.v + 19) / 57896044618658097711785492504343953926634992332820282019728792003956564819968 := by
  obtain ⟨h1, h2, h3, h4, h5⟩ := h
  simp only [ccF, A7, UInt64.toNat_add, show (19 : UInt64).toNat = 19 from rfl, W5.v]
  rw [← cc_arith]
  omega
theorem fix_five (x b c d e : Nat) :
    x % 2251799813685248 + 2251799813685248 * ((b + x / 2251799813685248) % 2251799813685248) + 5070602400912917605986812821504 * ((c + (b + x / 2251799813685248) / 2251799813685248) % 2251799813685248) + 11417981541647679048466287755595961091061972992 * ((d + (c + (b + x / 2251799813685248) / 2251799813685248) / 2251799813685248) % 2251799813685248) + 25711008708143844408671393477458601640355247900524685364822016 * ((e + (d + (c + (b + x / 2251799813685248) / 2251799813685248) / 2251799813685248) / 2251799813685248) % 2251799813685248)
    = (x + 2251799813685248 * b + 5070602400912917605986812821504 * c + 11417981541647679048466287755595961091061972992 * d + 25711008708143844408671393477458601640355247900524685364822016 * e) % 57896044618658097711785492504343953926634992332820282019728792003956564819968 := by omega
theorem fix_red {v k : Nat} (hk : k = (v + 19) / 57896044618658097711785492504343953926634992332820282019728792003956564819968) (hb : v < 2 * 57896044618658097711785492504343953926634992332820282019728792003956564819949) : (v + 19 * k) % 57896044618658097711785492504343953926634992332820282019728792003956564819968 = v % 57896044618658097711785492504343953926634992332820282019728792003956564819949 := by
  have h : k = 0 ∨ k = 1 := by omega
  rcases h with rfl | rfl <;> omega
theorem fixF_lt (w : W5) (c : UInt64) : (fixF w c).lt 2251799813685248 2251799813685248 := by
  refine ⟨?_, ?_, ?_, ?_, ?_⟩ <;> simp only [fixF, low_toNat] <;> exact Nat.mod_lt _ dE
theorem carried_lt {w : W5} (h : w.carried 0) : w.v < 2 * 57896044618658097711785492504343953926634992332820282019728792003956564819949 := by
  obtain ⟨h1, h2, h3, h4, h5⟩ := h
  simp only [W5.v]
  omega
theorem fix_words {w : W5} (h : w.carried 0) {k : UInt64} (hk : k.toNat ≤ 1) : (w.a + 19 * k).toNat = w.a.toNat + 19 * k.toNat ∧
    (w.b + As (w.a + 19 * k) 51).toNat = w.b.toNat + (w.a.toNat + 19 * k.toNat) / 2251799813685248 ∧
    (w.c + As (w.b + As (w.a + 19 * k) 51) 51).toNat = w.c.toNat + (w.b.toNat + (w.a.toNat + 19 * k.toNat) / 2251799813685248) / 2251799813685248 ∧
    (w.d + As (w.c + As (w.b + As (w.a + 19 * k) 51) 51) 51).toNat = w.d.toNat + (w.c.toNat + (w.b.toNat + (w.a.toNat + 19 * k.toNat) / 2251799813685248) / 2251799813685248) / 2251799813685248 ∧
    (w.e + As (w.d + As (w.c + As (w.b + As (w.a + 19 * k) 51) 51) 51) 51).toNat = w.e.toNat + (w.d.toNat + (w.c.toNat + (w.b.toNat + (w.a.toNat + 19 * k.toNat) / 2251799813685248) / 2251799813685248) / 2251799813685248) / 2251799813685248 := by
  obtain ⟨h1, h2, h3, h4, h5⟩ := h
  have g1 : (w.a + 19 * k).toNat = w.a.toNat + 19 * k.toNat := by simp only [UInt64.toNat_add, UInt64.toNat_mul, show (19 : UInt64).toNat = 19 from rfl]; omega
  have g2 : (w.b + As (w.a + 19 * k) 51).toNat = w.b.toNat + (w.a.toNat + 19 * k.toNat) / 2251799813685248 := by rw [UInt64.toNat_add, A7, g1]; omega
  have g3 : (w.c + As (w.b + As (w.a + 19 * k) 51) 51).toNat = w.c.toNat + (w.b.toNat + (w.a.toNat + 19 * k.toNat) / 2251799813685248) / 2251799813685248 := by rw [UInt64.toNat_add, A7, g2]; omega
  have g4 : (w.d + As (w.c + As (w.b + As (w.a + 19 * k) 51) 51) 51).toNat = w.d.toNat + (w.c.toNat + (w.b.toNat + (w.a.toNat + 19 * k.toNat) / 2251799813685248) / 2251799813685248) / 2251799813685248 := by rw [UInt64.toNat_add, A7, g3]; omega
  exact ⟨g1, g2, g3, g4, by rw [UInt64.toNat_add, A7, g4]; omega⟩
theorem fix_v {w : W5} (h : w.carried 0) {k : UInt64} (hk : k.toNat ≤ 1) : (fixF w k).v = (w.v + 19 * k.toNat) % 57896044618658097711785492504343953926634992332820282019728792003956564819968 := by
  obtain ⟨g1, g2, g3, g4, g5⟩ := fix_words h hk
  have e : (fixF w k).v = (w.a.toNat + 19 * k.toNat) % 2251799813685248 + 2251799813685248 * ((w.b.toNat + (w.a.toNat + 19 * k.toNat) / 2251799813685248) % 2251799813685248) + 5070602400912917605986812821504 * ((w.c.toNat + (w.b.toNat + (w.a.toNat + 19 * k.toNat) / 2251799813685248) / 2251799813685248) % 2251799813685248) + 11417981541647679048466287755595961091061972992 * ((w.d.toNat + (w.c.toNat + (w.b.toNat + (w.a.toNat + 19 * k.toNat) / 2251799813685248) / 2251799813685248) / 2251799813685248) % 2251799813685248) + 25711008708143844408671393477458601640355247900524685364822016 * ((w.e.toNat + (w.d.toNat + (w.c.toNat + (w.b.toNat + (w.a.toNat + 19 * k.toNat) / 2251799813685248) / 2251799813685248) / 2251799813685248) / 2251799813685248) % 2251799813685248) := by
    simp only [W5.v, fixF, low_toNat, g1, g2, g3, g4, g5]
  rw [e, fix_five]
  clear e g1 g2 g3 g4 g5
  have e2 : w.v + 19 * k.toNat = w.a.toNat + 19 * k.toNat + 2251799813685248 * w.b.toNat + 5070602400912917605986812821504 * w.c.toNat + 11417981541647679048466287755595961091061972992 * w.d.toNat + 25711008708143844408671393477458601640355247900524685364822016 * w.e.toNat := by rw [W5.v]; omega
  rw [e2]
theorem fixF_v {w : W5} (h : w.carried 0) : (fixF w (ccF w)).v = w.v % PF := by
  have hc := ccF_v h
  have hb := carried_lt h
  have hk : (ccF w).toNat ≤ 1 := by omega
  rw [fix_v h hk]
  exact fix_red hc hb
theorem stF_v (w : W5) : (stF w).v = w.v % PF := by rw [stF, fixF_v (carF_small w), carF_mod]
def stB5 (w : W5) : List UInt8 := leb 8 (w.a ||| A2 w.b 51).toNat ++ leb 8 (As w.b 13 ||| A2 w.c 38).toNat ++ leb 8 (As w.c 26 ||| A2 w.d 25).toNat ++ leb 8 (As w.d 39 ||| A2 w.e 12).toNat
theorem leb_split (m : Nat) : ∀ n x, leb (n + m) x = leb n x ++ leb m (x / 256 ^ n)
  | 0, x => by simp [leb]
  | n + 1, x => by
    rw [show n + 1 + m = (n + m) + 1 by omega, leb, leb, leb_split m n (x / 256), Nat.div_div_eq_div_mul, Nat.pow_succ, Nat.mul_comm 256]
    rfl
theorem leb_low256 (k : Nat) (x : Nat) : leb k (x % 256 ^ k) = leb k x := by
  have h := leb_le (leb k x)
  rw [Aj, le_leb] at h
  exact h
theorem leb_32 (x : Nat) : leb 32 x = leb 8 (x % 18446744073709551616) ++ (leb 8 (x / 18446744073709551616 % 18446744073709551616) ++ (leb 8 (x / 340282366920938463463374607431768211456 % 18446744073709551616) ++ leb 8 (x / 6277101735386680763835789423207666416102355444464034512896))) := by
  have e : ∀ x, leb 8 (x % 18446744073709551616) = leb 8 x := fun x => leb_low256 8 x
  rw [e, e, e]
  have h1 := leb_split 24 8 x
  have h2 := leb_split 16 8 (x / 256 ^ 8)
  have h3 := leb_split 8 8 (x / 256 ^ 8 / 256 ^ 8)
  rw [Nat.div_div_eq_div_mul] at h2 h3
  rw [Nat.div_div_eq_div_mul] at h3
  exact h1.trans (congrArg _ (h2.trans (congrArg _ h3)))
theorem leb4 (q0 q1 q2 q3 : Nat) (h0 : q0 < 2 ^ 64) (h1 : q1 < 2 ^ 64) (h2 : q2 < 2 ^ 64) : leb 8 q0 ++ leb 8 q1 ++ leb 8 q2 ++ leb 8 q3 = leb 32 (q0 + 18446744073709551616 * q1 + 340282366920938463463374607431768211456 * q2 + 6277101735386680763835789423207666416102355444464034512896 * q3) := by
  rw [leb_32, List.append_assoc, List.append_assoc]
  have a0 : (q0 + 18446744073709551616 * q1 + 340282366920938463463374607431768211456 * q2 + 6277101735386680763835789423207666416102355444464034512896 * q3) % 18446744073709551616 = q0 := by omega
  have a1 : (q0 + 18446744073709551616 * q1 + 340282366920938463463374607431768211456 * q2 + 6277101735386680763835789423207666416102355444464034512896 * q3) / 18446744073709551616 % 18446744073709551616 = q1 := by omega
  have a2 : (q0 + 18446744073709551616 * q1 + 340282366920938463463374607431768211456 * q2 + 6277101735386680763835789423207666416102355444464034512896 * q3) / 340282366920938463463374607431768211456 % 18446744073709551616 = q2 := by omega
  have a3 : (q0 + 18446744073709551616 * q1 + 340282366920938463463374607431768211456 * q2 + 6277101735386680763835789423207666416102355444464034512896 * q3) / 6277101735386680763835789423207666416102355444464034512896 = q3 := by omega
  rw [a0, a1, a2, a3]
theorem stB5_eq {w : W5} (h : w.lt 2251799813685248 2251799813685248) : stB5 w = leb 32 w.v := by
  obtain ⟨h1, h2, h3, h4, h5⟩ := h
  have m0 : (w.a ||| A2 w.b 51).toNat = w.a.toNat + w.b.toNat * 2 ^ 51 % 2 ^ 64 := by
    rw [or_add (k := 51) (m := w.b.toNat % 2 ^ 13) oM (by rw [Cf]; omega), Cf]
  have m1 := mid_word w.b w.c 38 dE
  have m1' : (As w.b 13 ||| A2 w.c 38).toNat = w.b.toNat / 2 ^ 13 + w.c.toNat * 2 ^ 38 % 2 ^ 64 := by
    rw [or_add (k := 38) (m := w.c.toNat % 2 ^ 26) (by rw [A7]; omega) (by rw [Cf]; omega), Cf, A7]
  have m2' : (As w.c 26 ||| A2 w.d 25).toNat = w.c.toNat / 2 ^ 26 + w.d.toNat * 2 ^ 25 % 2 ^ 64 := by
    rw [or_add (k := 25) (m := w.d.toNat % 2 ^ 39) (by rw [A7]; omega) (by rw [Cf]; omega), Cf, A7]
  have m3' : (As w.d 39 ||| A2 w.e 12).toNat = w.d.toNat / 2 ^ 39 + w.e.toNat * 2 ^ 12 % 2 ^ 64 := by
    rw [or_add (k := 12) (m := w.e.toNat % 2 ^ 52) (by rw [A7]; omega) (by rw [Cf]; omega), Cf, A7]
  rw [stB5, leb4 _ _ _ _ (UInt64.toNat_lt _) (UInt64.toNat_lt _) (UInt64.toNat_lt _), m0, m1', m2', m3']
  congr 1
  simp only [W5.v]
  omega
theorem store_eq (w : W5) : stB5 (stF w) = leb 32 (w.v % PF) := by
  have h : (stF w).lt 2251799813685248 2251799813685248 := fixF_lt _ _
  rw [stB5_eq h, stF_v]

def wv2 (s : UInt64 × UInt64) : Nat := s.1.toNat * 18446744073709551616 + s.2.toNat
def plF (s : UInt64 × UInt64) (a b : UInt64) : UInt64 × UInt64 :=
  (w64 (s.1.toNat + (mulHi a b).toNat + (w64 ((s.2.toNat + (a * b).toNat + (0 : UInt64).toNat) / 2 ^ 64)).toNat), w64 (s.2.toNat + (a * b).toNat + (0 : UInt64).toNat))
theorem plF_v {s : UInt64 × UInt64} {a b : UInt64} {n : Nat} (hn : a.toNat * b.toNat = n) (h : wv2 s + n < 340282366920938463463374607431768211456) : wv2 (plF s a b) = wv2 s + n := by
  have h1 := s.1.toNat_lt
  have h2 := s.2.toNat_lt
  simp only [wv2, plF, Bl, mulHi_toNat, UInt64.toNat_mul, show (0 : UInt64).toNat = 0 from rfl, hn] at h ⊢
  omega
def upF (s : UInt64 × UInt64) : UInt64 := A2 s.1 13 ||| As s.2 51
theorem upF_v {s : UInt64 × UInt64} (h : wv2 s < 41538374868278621028243970633760768) : (upF s).toNat = wv2 s / 2251799813685248 := by
  have h2 := s.2.toNat_lt
  simp only [wv2] at h ⊢
  have e : (upF s).toNat = s.2.toNat / 2 ^ 51 + s.1.toNat * 2 ^ 13 % 2 ^ 64 := by
    rw [upF, UInt64.or_comm, or_add (k := 13) (m := s.1.toNat % 2 ^ 51) (by rw [A7]; omega) (by rw [Cf]; omega), Cf, A7]
  rw [e]
  omega
theorem low_v (s : UInt64 × UInt64) : (s.2 &&& LOW).toNat = wv2 s % 2251799813685248 := by
  rw [low_toNat, wv2]; omega
abbrev s0F (a b : W5) := plF (plF (plF (plF (plF (0, 0) a.a b.a) (19 * a.b) b.e) (19 * a.c) b.d) (19 * a.d) b.c) (19 * a.e) b.b
abbrev s1F (a b : W5) := plF (plF (plF (plF (plF (0, 0) a.a b.b) a.b b.a) (19 * a.c) b.e) (19 * a.d) b.d) (19 * a.e) b.c
abbrev s2F (a b : W5) := plF (plF (plF (plF (plF (0, 0) a.a b.c) a.b b.b) a.c b.a) (19 * a.d) b.e) (19 * a.e) b.d
abbrev s3F (a b : W5) := plF (plF (plF (plF (plF (0, 0) a.a b.d) a.b b.c) a.c b.b) a.d b.a) (19 * a.e) b.e
abbrev s4F (a b : W5) := plF (plF (plF (plF (plF (0, 0) a.a b.e) a.b b.d) a.c b.c) a.d b.b) a.e b.a
def mulF (a b : W5) : W5 := carF ⟨((s0F a b).2 &&& LOW) + 19 * upF (s4F a b), ((s1F a b).2 &&& LOW) + upF (s0F a b), ((s2F a b).2 &&& LOW) + upF (s1F a b), ((s3F a b).2 &&& LOW) + upF (s2F a b), ((s4F a b).2 &&& LOW) + upF (s3F a b)⟩
theorem times19 {x : UInt64} (h : x.toNat < 18014398509481984) : (19 * x).toNat = 19 * x.toNat := by
  rw [UInt64.toNat_mul, show (19 : UInt64).toNat = 19 from rfl]; omega
theorem mul_bound {x y : Nat} (hx : x < 18014398509481984) (hy : y < 18014398509481984) : x * y < 324518553658426726783156020576256 := by
  have := Nat.mul_lt_mul'' hx hy
  exact this
theorem prod_poly (X a b c d e a' b' c' d' e' : Int) : (a + X * b + X * X * c + X * X * X * d + X * X * X * X * e) * (a' + X * b' + X * X * c' + X * X * X * d' + X * X * X * X * e') =
    (a * a' + 19 * (b * e') + 19 * (c * d') + 19 * (d * c') + 19 * (e * b')) + X * (a * b' + b * a' + 19 * (c * e') + 19 * (d * d') + 19 * (e * c')) + X * X * (a * c' + b * b' + c * a' + 19 * (d * e') + 19 * (e * d')) + X * X * X * (a * d' + b * c' + c * b' + d * a' + 19 * (e * e')) + X * X * X * X * (a * e' + b * d' + c * c' + d * b' + e * a') +
    (X * X * X * X * X - 19) * ((b * e' + c * d' + d * c' + e * b') + X * (c * e' + d * d' + e * c') + X * X * (d * e' + e * d') + X * X * X * (e * e')) := by
  grind
theorem prod_nat (a b c d e a' b' c' d' e' : Nat) : (a + 2251799813685248 * b + 5070602400912917605986812821504 * c + 11417981541647679048466287755595961091061972992 * d + 25711008708143844408671393477458601640355247900524685364822016 * e) * (a' + 2251799813685248 * b' + 5070602400912917605986812821504 * c' + 11417981541647679048466287755595961091061972992 * d' + 25711008708143844408671393477458601640355247900524685364822016 * e') =
    (a * a' + 19 * (b * e') + 19 * (c * d') + 19 * (d * c') + 19 * (e * b')) + 2251799813685248 * (a * b' + b * a' + 19 * (c * e') + 19 * (d * d') + 19 * (e * c')) + 5070602400912917605986812821504 * (a * c' + b * b' + c * a' + 19 * (d * e') + 19 * (e * d')) + 11417981541647679048466287755595961091061972992 * (a * d' + b * c' + c * b' + d * a' + 19 * (e * e')) + 25711008708143844408671393477458601640355247900524685364822016 * (a * e' + b * d' + c * c' + d * b' + e * a') +
    PF * ((b * e' + c * d' + d * c' + e * b') + 2251799813685248 * (c * e' + d * d' + e * c') + 5070602400912917605986812821504 * (d * e' + e * d') + 11417981541647679048466287755595961091061972992 * (e * e')) := by
  have h := prod_poly 2251799813685248 a b c d e a' b' c' d' e'
  apply Int.ofNat.inj
  simp only [PF]
  show ((_ : Nat) : Int) = ((_ : Nat) : Int)
  simp only [Int.natCast_add, Int.natCast_mul]
  exact h
theorem s_add {s : UInt64 × UInt64} {a b : UInt64} {m n : Nat} (hs : wv2 s = m) (hn : a.toNat * b.toNat = n) (h : m + n < 340282366920938463463374607431768211456) : wv2 (plF s a b) = m + n := by
  rw [plF_v hn (by rw [hs]; exact h), hs]
theorem wv2_zero : wv2 (0, 0) = 0 := rfl
theorem carry_sum (s0 s1 s2 s3 s4 : Nat) : (s0 % 2251799813685248 + 19 * (s4 / 2251799813685248)) + 2251799813685248 * (s1 % 2251799813685248 + s0 / 2251799813685248) + 5070602400912917605986812821504 * (s2 % 2251799813685248 + s1 / 2251799813685248) + 11417981541647679048466287755595961091061972992 * (s3 % 2251799813685248 + s2 / 2251799813685248) + 25711008708143844408671393477458601640355247900524685364822016 * (s4 % 2251799813685248 + s3 / 2251799813685248) + PF * (s4 / 2251799813685248) =
    s0 + 2251799813685248 * s1 + 5070602400912917605986812821504 * s2 + 11417981541647679048466287755595961091061972992 * s3 + 25711008708143844408671393477458601640355247900524685364822016 * s4 := by
  simp only [PF]
  omega
structure W5.fit (w : W5) : Prop where
  a : w.a.toNat < 18014398509481984
  b : w.b.toNat < 18014398509481984
  c : w.c.toNat < 18014398509481984
  d : w.d.toNat < 18014398509481984
  e : w.e.toNat < 18014398509481984
theorem W5.lt.fit {w : W5} (h : w.lt 2251799813685248 4503599627370496) : w.fit := by
  obtain ⟨h1, h2, h3, h4, h5⟩ := h
  constructor <;> omega
theorem W5.carried.fit {w : W5} (h : w.carried 0) : w.fit := by
  obtain ⟨h1, h2, h3, h4, h5⟩ := h
  constructor <;> omega
theorem mulF_v {a b : W5} (ha : a.fit) (hb : b.fit) : (mulF a b).v % PF = (a.v * b.v) % PF := by
  obtain ⟨a0, a1, a2, a3, a4⟩ := ha
  obtain ⟨b0, b1, b2, b3, b4⟩ := hb
  have m : ∀ {x y : UInt64}, x.toNat < 18014398509481984 → y.toNat < 18014398509481984 → ∃ n, x.toNat * y.toNat = n ∧ n < 324518553658426726783156020576256 := fun hx hy => ⟨_, rfl, mul_bound hx hy⟩
  have m19 : ∀ {x y : UInt64} {n : Nat}, x.toNat < 18014398509481984 → x.toNat * y.toNat = n → (19 * x).toNat * y.toNat = 19 * n := fun hx hn => by rw [times19 hx, Nat.mul_assoc, hn]
  obtain ⟨p00, e00, l00⟩ := m a0 b0; obtain ⟨p01, e01, l01⟩ := m a0 b1; obtain ⟨p02, e02, l02⟩ := m a0 b2; obtain ⟨p03, e03, l03⟩ := m a0 b3; obtain ⟨p04, e04, l04⟩ := m a0 b4
  obtain ⟨p10, e10, l10⟩ := m a1 b0; obtain ⟨p11, e11, l11⟩ := m a1 b1; obtain ⟨p12, e12, l12⟩ := m a1 b2; obtain ⟨p13, e13, l13⟩ := m a1 b3; obtain ⟨p14, e14, l14⟩ := m a1 b4
  obtain ⟨p20, e20, l20⟩ := m a2 b0; obtain ⟨p21, e21, l21⟩ := m a2 b1; obtain ⟨p22, e22, l22⟩ := m a2 b2; obtain ⟨p23, e23, l23⟩ := m a2 b3; obtain ⟨p24, e24, l24⟩ := m a2 b4
  obtain ⟨p30, e30, l30⟩ := m a3 b0; obtain ⟨p31, e31, l31⟩ := m a3 b1; obtain ⟨p32, e32, l32⟩ := m a3 b2; obtain ⟨p33, e33, l33⟩ := m a3 b3; obtain ⟨p34, e34, l34⟩ := m a3 b4
  obtain ⟨p40, e40, l40⟩ := m a4 b0; obtain ⟨p41, e41, l41⟩ := m a4 b1; obtain ⟨p42, e42, l42⟩ := m a4 b2; obtain ⟨p43, e43, l43⟩ := m a4 b3; obtain ⟨p44, e44, l44⟩ := m a4 b4
  have hv : a.v * b.v = _ := prod_nat a.a.toNat a.b.toNat a.c.toNat a.d.toNat a.e.toNat b.a.toNat b.b.toNat b.c.toNat b.d.toNat b.e.toNat
  rw [e00, e01, e02, e03, e04, e10, e11, e12, e13, e14, e20, e21, e22, e23, e24, e30, e31, e32, e33, e34, e40, e41, e42, e43, e44] at hv
  have k0 : wv2 (s0F a b) = p00 + 19 * p14 + 19 * p23 + 19 * p32 + 19 * p41 := by
    have := s_add (s_add (s_add (s_add (s_add wv2_zero e00 oM) (m19 a1 e14) oM) (m19 a2 e23) oM) (m19 a3 e32) oM) (m19 a4 e41) oM
    rw [Nat.zero_add] at this; exact this
  have k1 : wv2 (s1F a b) = p01 + p10 + 19 * p24 + 19 * p33 + 19 * p42 := by
    have := s_add (s_add (s_add (s_add (s_add wv2_zero e01 oM) e10 oM) (m19 a2 e24) oM) (m19 a3 e33) oM) (m19 a4 e42) oM
    rw [Nat.zero_add] at this; exact this
  have k2 : wv2 (s2F a b) = p02 + p11 + p20 + 19 * p34 + 19 * p43 := by
    have := s_add (s_add (s_add (s_add (s_add wv2_zero e02 oM) e11 oM) e20 oM) (m19 a3 e34) oM) (m19 a4 e43) oM
    rw [Nat.zero_add] at this; exact this
  have k3 : wv2 (s3F a b) = p03 + p12 + p21 + p30 + 19 * p44 := by
    have := s_add (s_add (s_add (s_add (s_add wv2_zero e03 oM) e12 oM) e21 oM) e30 oM) (m19 a4 e44) oM
    rw [Nat.zero_add] at this; exact this
  have k4 : wv2 (s4F a b) = p04 + p13 + p22 + p31 + p40 := by
    have := s_add (s_add (s_add (s_add (s_add wv2_zero e04 oM) e13 oM) e22 oM) e31 oM) e40 oM
    rw [Nat.zero_add] at this; exact this
  clear e00 e01 e02 e03 e04 e10 e11 e12 e13 e14 e20 e21 e22 e23 e24 e30 e31 e32 e33 e34 e40 e41 e42 e43 e44
  rw [← k0, ← k1, ← k2, ← k3, ← k4] at hv
  have n0 : wv2 (s0F a b) < 25312447185357284689086169604947968 := by omega
  have n1 : wv2 (s1F a b) < 25312447185357284689086169604947968 := by omega
  have n2 : wv2 (s2F a b) < 25312447185357284689086169604947968 := by omega
  have n3 : wv2 (s3F a b) < 25312447185357284689086169604947968 := by omega
  have n4 : wv2 (s4F a b) < 1622592768292133633915780102881280 + 1 := by omega
  clear k0 k1 k2 k3 k4
  rw [mulF, carF_mod]
  have f : (⟨((s0F a b).2 &&& LOW) + 19 * upF (s4F a b), ((s1F a b).2 &&& LOW) + upF (s0F a b), ((s2F a b).2 &&& LOW) + upF (s1F a b), ((s3F a b).2 &&& LOW) + upF (s2F a b), ((s4F a b).2 &&& LOW) + upF (s3F a b)⟩ : W5).v + PF * (wv2 (s4F a b) / 2251799813685248) =
      wv2 (s0F a b) + 2251799813685248 * wv2 (s1F a b) + 5070602400912917605986812821504 * wv2 (s2F a b) + 11417981541647679048466287755595961091061972992 * wv2 (s3F a b) + 25711008708143844408671393477458601640355247900524685364822016 * wv2 (s4F a b) := by
    rw [← carry_sum]
    clear hv
    have u0 := upF_v (s := s0F a b) oM; have u1 := upF_v (s := s1F a b) oM; have u2 := upF_v (s := s2F a b) oM; have u3 := upF_v (s := s3F a b) oM; have u4 := upF_v (s := s4F a b) oM
    have v0 := low_v (s0F a b); have v1 := low_v (s1F a b); have v2 := low_v (s2F a b); have v3 := low_v (s3F a b); have v4 := low_v (s4F a b)
    have c0 : (((s0F a b).2 &&& LOW) + 19 * upF (s4F a b)).toNat = wv2 (s0F a b) % 2251799813685248 + 19 * (wv2 (s4F a b) / 2251799813685248) := by
      rw [UInt64.toNat_add, UInt64.toNat_mul, v0, u4, show (19 : UInt64).toNat = 19 from rfl]; omega
    have c1 : (((s1F a b).2 &&& LOW) + upF (s0F a b)).toNat = wv2 (s1F a b) % 2251799813685248 + wv2 (s0F a b) / 2251799813685248 := by
      rw [UInt64.toNat_add, v1, u0]; omega
    have c2 : (((s2F a b).2 &&& LOW) + upF (s1F a b)).toNat = wv2 (s2F a b) % 2251799813685248 + wv2 (s1F a b) / 2251799813685248 := by
      rw [UInt64.toNat_add, v2, u1]; omega
    have c3 : (((s3F a b).2 &&& LOW) + upF (s2F a b)).toNat = wv2 (s3F a b) % 2251799813685248 + wv2 (s2F a b) / 2251799813685248 := by
      rw [UInt64.toNat_add, v3, u2]; omega
    have c4 : (((s4F a b).2 &&& LOW) + upF (s3F a b)).toNat = wv2 (s4F a b) % 2251799813685248 + wv2 (s3F a b) / 2251799813685248 := by
      rw [UInt64.toNat_add, v4, u3]; omega
    simp only [W5.v, c0, c1, c2, c3, c4]
  rw [hv, ← f, Nat.add_mul_mod_self_left, Nat.add_mul_mod_self_left]
end Hw
end

section
namespace Hw
open Go
set_option maxRecDepth 100000

def modW : List UInt64 := [1152921504606846976, 0, 1503914060200516822, 6346243789798364141]
theorem modW_length : modW.length = 4 := rfl
def dblW (w : List UInt64) (b : UInt64) : List UInt64 :=
  [A2 (w.getD 0 0) 1 ||| As (w.getD 1 0) 63, A2 (w.getD 1 0) 1 ||| As (w.getD 2 0) 63, A2 (w.getD 2 0) 1 ||| As (w.getD 3 0) 63, A2 (w.getD 3 0) 1 ||| b]
theorem dblW_length (w : List UInt64) (b : UInt64) : (dblW w b).length = 4 := rfl
def ldW (a : List UInt8) : Nat → List UInt64
  | 0 => List.replicate 4 0
  | k + 1 => (ldW a k).set (k / 8) (A2 ((ldW a k).getD (k / 8) 0) 8 ||| (a.getD (31 - k) 0).toUInt64)
theorem ldW_length (a : List UInt8) : ∀ k, (ldW a k).length = 4
  | 0 => rfl
  | k + 1 => by simp [ldW, ldW_length a k]
def stB (w : List UInt64) : Nat → List UInt8
  | 0 => List.replicate 32 0
  | k + 1 => (stB w k).set (31 - k) (As (w.getD (k / 8) 0) (56 - 8 * (k % 8))).toUInt8
theorem stB_length (w : List UInt64) : ∀ k, (stB w k).length = 32
  | 0 => rfl
  | k + 1 => by simp [stB, stB_length w k]
def mnsW (w m : List UInt64) : Nat → List UInt64 × UInt64
  | 0 => (w, 0)
  | t + 1 =>
    let p := mnsW w m t
    let x := (p.1.getD (3 - t) 0).toNat
    let y := (m.getD (3 - t) 0).toNat
    (p.1.set (3 - t) (w64 (x + 2 ^ 64 - y - p.2.toNat)), if x < y + p.2.toNat then 1 else 0)
theorem mnsW_length (w m : List UInt64) : ∀ t, (mnsW w m t).1.length = w.length
  | 0 => rfl
  | t + 1 => by simp [mnsW, mnsW_length w m t]
theorem mnsW_borrow (w m : List UInt64) : ∀ t, (mnsW w m t).2.toNat ≤ 1
  | 0 => by simp [mnsW]
  | t + 1 => by simp only [mnsW]; split <;> simp
def sub64E : Array Value → Sem Value := fun args => do
  let (x, y, b) ← Extern.MathBitsCarry.three "Sub64" args
  pure (Extern.MathBitsCarry.pair ((x + Extern.MathBitsCarry.m64 - y - b) % Extern.MathBitsCarry.m64) (if x < y + b then 1 else 0))

theorem le_take_drop (l : List UInt8) (k : Nat) (h : k ≤ l.length) : le l = le (l.take k) + 256 ^ k * le (l.drop k) := by
  have := le_append (l.take k) (l.drop k)
  rw [List.take_append_drop] at this
  rw [this, List.length_take, Nat.min_eq_left h]

theorem le_drop (l : List UInt8) (k : Nat) (h : k ≤ l.length) : le l / 256 ^ k = le (l.drop k) := by
  have h1 := le_lt (l.take k)
  rw [List.length_take, Nat.min_eq_left h] at h1
  rw [le_take_drop l k h, Nat.add_mul_div_left _ _ (Nat.pow_pos dE), Nat.div_eq_of_lt h1, Nat.zero_add]

theorem acc8 (x : UInt64) (b : UInt8) : A2 x 8 ||| b.toUInt64 = w64 (x.toNat * 256 + b.toNat) := by
  apply UInt64.toNat_inj.1
  have hb := b.toNat_lt
  have hx := x.toNat_lt
  rw [UInt64.toNat_or, Cf, Bl, UInt8.toNat_toUInt64]
  have e : x.toNat * 2 ^ 8 % 2 ^ 64 = 2 ^ 8 * (x.toNat % 2 ^ 56) := by omega
  rw [e, Nat.two_pow_add_eq_or_of_lt oM (x.toNat % 2 ^ 56) |>.symm]
  omega

theorem w64_acc (m b : Nat) : w64 ((w64 m).toNat * 256 + b) = w64 (m * 256 + b) := by
  apply UInt64.toNat_inj.1
  rw [Bl, Bl, Bl]
  omega

theorem w64_mod {m n : Nat} (h : m % 2 ^ 64 = n % 2 ^ 64) : w64 m = w64 n := by
  apply UInt64.toNat_inj.1
  rw [Bl, Bl, h]

theorem ldW_exp (a0 a1 a2 a3 a4 a5 a6 a7 a8 a9 a10 a11 a12 a13 a14 a15 a16 a17 a18 a19 a20 a21 a22 a23 a24 a25 a26 a27 a28 a29 a30 a31 : UInt8) : ldW [a0, a1, a2, a3, a4, a5, a6, a7, a8, a9, a10, a11, a12, a13, a14, a15, a16, a17, a18, a19, a20, a21, a22, a23, a24, a25, a26, a27, a28, a29, a30, a31] 32 = A6 (le [a0, a1, a2, a3, a4, a5, a6, a7, a8, a9, a10, a11, a12, a13, a14, a15, a16, a17, a18, a19, a20, a21, a22, a23, a24, a25, a26, a27, a28, a29, a30, a31]) := by
  have d24 := le_drop [a0, a1, a2, a3, a4, a5, a6, a7, a8, a9, a10, a11, a12, a13, a14, a15, a16, a17, a18, a19, a20, a21, a22, a23, a24, a25, a26, a27, a28, a29, a30, a31] 24 (Nat.le_of_ble_eq_true rfl)
  have d16 := le_drop [a0, a1, a2, a3, a4, a5, a6, a7, a8, a9, a10, a11, a12, a13, a14, a15, a16, a17, a18, a19, a20, a21, a22, a23, a24, a25, a26, a27, a28, a29, a30, a31] 16 (Nat.le_of_ble_eq_true rfl)
  have d8 := le_drop [a0, a1, a2, a3, a4, a5, a6, a7, a8, a9, a10, a11, a12, a13, a14, a15, a16, a17, a18, a19, a20, a21, a22, a23, a24, a25, a26, a27, a28, a29, a30, a31] 8 (Nat.le_of_ble_eq_true rfl)
  rw [A6, show (2 : Nat) ^ 192 = 256 ^ 24 by decide, show (2 : Nat) ^ 128 = 256 ^ 16 by decide, show (2 : Nat) ^ 64 = 256 ^ 8 by decide, d24, d16, d8]
  clear d24 d16 d8
  simp only [ldW, List.drop_succ_cons, List.drop_zero, le, List.getD_cons_succ, List.getD_cons_zero, List.set_cons_succ, List.set_cons_zero, List.replicate, Nat.reduceDiv, Nat.reduceSub, acc8]
  simp only [w64_acc, UInt64.toNat_zero]
  simp only [List.cons.injEq, and_true]
  refine ⟨w64_mod ?_, w64_mod ?_, w64_mod ?_, w64_mod ?_⟩ <;> omega

theorem ldW_eq {a : List UInt8} (h : a.length = 32) : ldW a 32 = A6 (le a) := by
  obtain ⟨f, hf⟩ : ∃ f : Nat → UInt8, a = (List.range 32).map f := ⟨fun i => a.getD i 0, by
    apply List.ext_getElem (by simp [h])
    intro i h1 h2
    simp [List.getD, h1]⟩
  subst hf
  exact ldW_exp (f 0) (f 1) (f 2) (f 3) (f 4) (f 5) (f 6) (f 7) (f 8) (f 9) (f 10) (f 11) (f 12) (f 13) (f 14) (f 15) (f 16) (f 17) (f 18) (f 19) (f 20) (f 21) (f 22) (f 23) (f 24) (f 25) (f 26) (f 27) (f 28) (f 29) (f 30) (f 31)

theorem leb_get : ∀ (k n i : Nat), i < k → (leb k n)[i]? = some (UInt8.ofNat (n / 256 ^ i))
  | 0, _, _, h => by omega
  | k + 1, n, 0, _ => by simp [leb]
  | k + 1, n, i + 1, h => by
    rw [leb, List.getElem?_cons_succ, leb_get k _ i oM, Nat.div_div_eq_div_mul, Nat.pow_succ, Nat.mul_comm]

theorem stB_get (w : List UInt64) : ∀ (k i : Nat), k ≤ 32 → i < 32 → (stB w k)[i]? = some (if 31 - i < k then (As (w.getD ((31 - i) / 8) 0) (56 - 8 * ((31 - i) % 8))).toUInt8 else 0)
  | 0, i, _, h => by
    simp only [stB]
    rw [List.getElem?_replicate, if_pos h]; rfl
  | k + 1, i, hk, h => by
    rw [stB, List.getElem?_set]
    by_cases he : 31 - k = i
    · have e : 31 - i = k := by omega
      subst he
      rw [if_pos rfl, if_pos (by rw [stB_length]; omega), e, if_pos oM]
    · rw [if_neg he, stB_get w k i oM h]
      congr 1
      by_cases h1 : 31 - i < k
      · rw [if_pos h1, if_pos oM]
      · rw [if_neg h1, if_neg oM]

theorem byte_at (m s : Nat) (h : s + 8 ≤ 64) : m % 2 ^ 64 / 2 ^ s % 256 = m / 2 ^ s % 256 := by
  have e : (2 : Nat) ^ 64 = 2 ^ s * 2 ^ (64 - s) := by rw [← Nat.pow_add]; congr 1; omega
  rw [e, Nat.mod_mul_right_div_self]
  have e2 : (256 : Nat) ∣ 2 ^ (64 - s) := by
    refine ⟨2 ^ (56 - s), ?_⟩
    rw [show (256 : Nat) = 2 ^ 8 by decide, ← Nat.pow_add]; congr 1; omega
  exact Nat.mod_mod_of_dvd _ e2

theorem stB_eq (n : Nat) : stB (A6 n) 32 = leb 32 n := by
  apply List.ext_getElem?
  intro i
  rcases Nat.lt_or_ge i 32 with h | h
  · rw [leb_get 32 n i h, stB_get _ 32 i oM h, if_pos oM]
    congr 1
    apply UInt8.toNat_inj.1
    rw [UInt64.toNat_toUInt8, A7, UInt8.toNat_ofNat']
    have key : ∀ j s : Nat, j < 4 → s + 8 ≤ 64 → ((A6 n).getD j 0).toNat / 2 ^ s % 2 ^ 8 = n / 2 ^ (64 * (3 - j) + s) % 2 ^ 8 := by
      intro j s hj hs
      have : (A6 n).getD j 0 = w64 (n / 2 ^ (64 * (3 - j))) := by
        match j, hj with
        | 0, _ => rfl
        | 1, _ => rfl
        | 2, _ => rfl
        | 3, _ => simp [A6]
      rw [this, Bl, Nat.pow_add, ← Nat.div_div_eq_div_mul]
      exact byte_at _ s hs
    have := key ((31 - i) / 8) (56 - 8 * ((31 - i) % 8)) oM oM
    rw [this, show (256 : Nat) = 2 ^ 8 by decide, ← Nat.pow_mul]
    congr 3
    omega
  · rw [List.getElem?_eq_none (by rw [stB_length]; exact h), List.getElem?_eq_none (by rw [Aj]; exact h)]

theorem dblW_eq (n : Nat) (b : UInt64) (hb : b.toNat ≤ 1) : dblW (A6 n) b = A6 (2 * n + b.toNat) := by
  have two : ∀ (x y : Nat), A2 (w64 x) 1 ||| As (w64 y) 63 = w64 (2 * x + y % 2 ^ 64 / 2 ^ 63) := by
    intro x y
    apply UInt64.toNat_inj.1
    rw [UInt64.toNat_or, Cf, A7, Bl, Bl, Bl]
    have e : x % 2 ^ 64 * 2 ^ 1 % 2 ^ 64 = 2 ^ 1 * (x % 2 ^ 63) := by omega
    rw [e, Nat.two_pow_add_eq_or_of_lt oM (x % 2 ^ 63) |>.symm]
    omega
  have one : A2 (w64 n) 1 ||| b = w64 (2 * n + b.toNat) := by
    apply UInt64.toNat_inj.1
    rw [UInt64.toNat_or, Cf, Bl, Bl]
    have e : n % 2 ^ 64 * 2 ^ 1 % 2 ^ 64 = 2 ^ 1 * (n % 2 ^ 63) := by omega
    rw [e, Nat.two_pow_add_eq_or_of_lt oM (n % 2 ^ 63) |>.symm]
    omega
  simp only [dblW, A6, List.getD_cons_succ, List.getD_cons_zero, two, one, List.cons.injEq, and_true]
  refine ⟨w64_mod ?_, w64_mod ?_, w64_mod ?_⟩ <;> omega

theorem mnsW_eq {w m : List UInt64} (hw : w.length = 4) (hm : m.length = 4) : (mnsW w m 4).1 = A6 (wv w + 2 ^ 256 - wv m) := by
  match w, hw, m, hm with
  | [a, b, c, d], _, [e, f, g, h], _ =>
    rw [wv4, wv4]
    have ha := a.toNat_lt; have hb := b.toNat_lt; have hc := c.toNat_lt; have hd := d.toNat_lt
    have he := e.toNat_lt; have hf := f.toNat_lt; have hg := g.toNat_lt; have hh := h.toNat_lt
    simp only [mnsW, A6, Nat.sub_zero, Nat.reduceSub, List.getD_cons_succ, List.getD_cons_zero, List.set_cons_succ, List.set_cons_zero, List.cons.injEq, and_true, UInt64.toNat_zero, Nat.add_zero]
    generalize hx1 : (if d.toNat < h.toNat then (1 : UInt64) else 0) = x1
    have y1 : (d.toNat < h.toNat ∧ x1.toNat = 1) ∨ (¬ d.toNat < h.toNat ∧ x1.toNat = 0) := by subst hx1; split <;> simp [*]
    generalize hx2 : (if c.toNat < g.toNat + x1.toNat then (1 : UInt64) else 0) = x2
    have y2 : (c.toNat < g.toNat + x1.toNat ∧ x2.toNat = 1) ∨ (¬ c.toNat < g.toNat + x1.toNat ∧ x2.toNat = 0) := by subst hx2; split <;> simp [*]
    generalize hx3 : (if b.toNat < f.toNat + x2.toNat then (1 : UInt64) else 0) = x3
    have y3 : (b.toNat < f.toNat + x2.toNat ∧ x3.toNat = 1) ∨ (¬ b.toNat < f.toNat + x2.toNat ∧ x3.toNat = 0) := by subst hx3; split <;> simp [*]
    clear hx1 hx2 hx3
    refine ⟨w64_mod ?_, w64_mod ?_, w64_mod ?_, w64_mod ?_⟩ <;> omega

theorem modW_eq : modW = A6 L := by decide
theorem res_step (A x t : Nat) (hx : x < 2 ^ 64) (ht : t < 64) : let m := (A * 2 ^ t + x / 2 ^ (64 - t)) % L
    (if 2 * m + x / 2 ^ (63 - t) % 2 < L then 2 * m + x / 2 ^ (63 - t) % 2 else 2 * m + x / 2 ^ (63 - t) % 2 - L) = (A * 2 ^ (t + 1) + x / 2 ^ (63 - t)) % L := by
  intro m
  have e1 : x / 2 ^ (64 - t) = x / 2 ^ (63 - t) / 2 := by
    rw [Nat.div_div_eq_div_mul, ← Nat.pow_succ]; congr 2; omega
  have e2 : x / 2 ^ (63 - t) = 2 * (x / 2 ^ (64 - t)) + x / 2 ^ (63 - t) % 2 := by omega
  have e3 : A * 2 ^ (t + 1) + x / 2 ^ (63 - t) = 2 * (A * 2 ^ t + x / 2 ^ (64 - t)) + x / 2 ^ (63 - t) % 2 := by
    rw [Nat.pow_succ]
    have : A * (2 ^ t * 2) = 2 * (A * 2 ^ t) := by rw [← Nat.mul_assoc, Nat.mul_comm]
    omega
  rw [e3]
  show (if 2 * m + _ < L then _ else _) = _
  have hm : m = (A * 2 ^ t + x / 2 ^ (64 - t)) % L := rfl
  clear_value m
  generalize A * 2 ^ t + x / 2 ^ (64 - t) = B at hm ⊢
  generalize x / 2 ^ (63 - t) = y
  have hL : L = 7237005577332262213973186563042994240857116359379907606001950938285454250989 := rfl
  have hy : y % 2 < 2 := Nat.mod_lt _ dE
  generalize y % 2 = z at hy ⊢
  have hd := Nat.div_add_mod B L
  rw [← hm] at hd
  have hlt : m < L := by rw [hm]; exact Nat.mod_lt _ dE
  generalize B / L = q at hd
  have e4 : 2 * B + z = L * (2 * q) + (2 * m + z) := by
    have : L * (2 * q) = 2 * (L * q) := by rw [← Nat.mul_assoc, Nat.mul_comm L 2, Nat.mul_assoc]
    omega
  rw [e4, Nat.mul_add_mod]
  split
  · rename_i h; rw [Nat.mod_eq_of_lt h]
  · rename_i h; rw [Nat.mod_eq_sub_mod oM, Nat.mod_eq_of_lt oM]


def innM (x : UInt64) (y : List UInt64) (i : Nat) (l : List UInt64) : Nat → List UInt64 × UInt64
  | 0 => (l, 0)
  | q + 1 =>
    let p := innM x y i l q
    let t := x.toNat * (y.getD (3 - q) 0).toNat + (p.1.getD (i + (3 - q) + 1) 0).toNat + p.2.toNat
    (p.1.set (i + (3 - q) + 1) (w64 t), w64 (t / 2 ^ 64))

def outM (x y l : List UInt64) : Nat → List UInt64
  | 0 => l
  | p + 1 =>
    let r := innM (x.getD (3 - p) 0) y (3 - p) (outM x y l p) 4
    r.1.set (3 - p) (r.1.getD (3 - p) 0 + r.2)

theorem innM_length (x : UInt64) (y : List UInt64) (i : Nat) (l : List UInt64) : ∀ q, (innM x y i l q).1.length = l.length
  | 0 => rfl
  | q + 1 => by simp [innM, innM_length x y i l q]

theorem outM_length (x y l : List UInt64) : ∀ p, (outM x y l p).length = l.length
  | 0 => rfl
  | p + 1 => by simp [outM, innM_length, outM_length x y l p]

theorem mul_lt (x y : UInt64) : x.toNat * y.toNat ≤ 340282366920938463426481119284349108225 :=
  Nat.mul_le_mul (show x.toNat ≤ 18446744073709551615 from Nat.le_of_lt_succ x.toNat_lt) (show y.toNat ≤ 18446744073709551615 from Nat.le_of_lt_succ y.toNat_lt)

theorem ma_lo (x y l c : UInt64) : w64 ((w64 ((x * y).toNat + l.toNat + (0 : UInt64).toNat)).toNat + c.toNat + (0 : UInt64).toNat) = w64 (x.toNat * y.toNat + l.toNat + c.toNat) := by
  apply w64_mod
  rw [Bl, UInt64.toNat_mul, UInt64.toNat_zero]
  omega

theorem ma_hi (x y l c : UInt64) : mulHi x y + w64 (((x * y).toNat + l.toNat + (0 : UInt64).toNat) / 2 ^ 64) + w64 (((w64 ((x * y).toNat + l.toNat + (0 : UInt64).toNat)).toNat + c.toNat + (0 : UInt64).toNat) / 2 ^ 64) = w64 ((x.toNat * y.toNat + l.toNat + c.toNat) / 2 ^ 64) := by
  have h := mul_lt x y
  have hl := l.toNat_lt; have hc := c.toNat_lt
  apply UInt64.toNat_inj.1
  simp only [UInt64.toNat_add, mulHi_toNat, Bl, UInt64.toNat_mul, UInt64.toNat_zero]
  generalize x.toNat * y.toNat = p at h ⊢
  omega

theorem row_val (p0 p1 p2 p3 l0 l1 l2 l3 u0 u1 u2 u3 : Nat) (h3 : u3 = p3 + l3) (h2 : u2 = p2 + l2 + u3 / 2 ^ 64) (h1 : u1 = p1 + l1 + u2 / 2 ^ 64) (h0 : u0 = p0 + l0 + u1 / 2 ^ 64) :
    (((u0 % 2 ^ 64) * 2 ^ 64 + u1 % 2 ^ 64) * 2 ^ 64 + u2 % 2 ^ 64) * 2 ^ 64 + u3 % 2 ^ 64 + u0 / 2 ^ 64 * 2 ^ 256 = ((p0 * 2 ^ 64 + p1) * 2 ^ 64 + p2) * 2 ^ 64 + p3 + (((l0 * 2 ^ 64 + l1) * 2 ^ 64 + l2) * 2 ^ 64 + l3) := by
  omega

theorem dist4 (x y0 y1 y2 y3 : Nat) : x * (((y0 * 2 ^ 64 + y1) * 2 ^ 64 + y2) * 2 ^ 64 + y3) = ((x * y0 * 2 ^ 64 + x * y1) * 2 ^ 64 + x * y2) * 2 ^ 64 + x * y3 := by
  grind

def wv8 (a b c d e f g h : UInt64) : Nat := ((((((a.toNat * 2 ^ 64 + b.toNat) * 2 ^ 64 + c.toNat) * 2 ^ 64 + d.toNat) * 2 ^ 64 + e.toNat) * 2 ^ 64 + f.toNat) * 2 ^ 64 + g.toNat) * 2 ^ 64 + h.toNat

theorem innM_fst (x : UInt64) (y : List UInt64) (i : Nat) (l : List UInt64) (q : Nat) : (innM x y i l (q + 1)).1 =
    (innM x y i l q).1.set (i + (3 - q) + 1) (w64 ((w64 ((x * y.getD (3 - q) 0).toNat + ((innM x y i l q).1.getD (i + (3 - q) + 1) 0).toNat + (0 : UInt64).toNat)).toNat + (innM x y i l q).2.toNat + (0 : UInt64).toNat)) := by
  rw [ma_lo]; rfl
theorem innM_snd (x : UInt64) (y : List UInt64) (i : Nat) (l : List UInt64) (q : Nat) : (innM x y i l (q + 1)).2 =
    mulHi x (y.getD (3 - q) 0) + w64 (((x * y.getD (3 - q) 0).toNat + ((innM x y i l q).1.getD (i + (3 - q) + 1) 0).toNat + (0 : UInt64).toNat) / 2 ^ 64) + w64 (((w64 ((x * y.getD (3 - q) 0).toNat + ((innM x y i l q).1.getD (i + (3 - q) + 1) 0).toNat + (0 : UInt64).toNat)).toNat + (innM x y i l q).2.toNat + (0 : UInt64).toNat) / 2 ^ 64) := by
  rw [ma_hi]; rfl

structure Row (z : Nat) (a b c d a' b' c' d' r : UInt64) : Prop where
  val : ((a'.toNat * 2 ^ 64 + b'.toNat) * 2 ^ 64 + c'.toNat) * 2 ^ 64 + d'.toNat + r.toNat * 2 ^ 256 = z + (((a.toNat * 2 ^ 64 + b.toNat) * 2 ^ 64 + c.toNat) * 2 ^ 64 + d.toNat)

theorem carry_ok (x y l c : UInt64) : (w64 ((x.toNat * y.toNat + l.toNat + c.toNat) / 2 ^ 64)).toNat = (x.toNat * y.toNat + l.toNat + c.toNat) / 2 ^ 64 := by
  have h := mul_lt x y
  have hl := l.toNat_lt; have hc := c.toNat_lt
  rw [Bl]
  generalize x.toNat * y.toNat = p at h ⊢
  omega

def rowF (x y0 y1 y2 y3 a b c d : UInt64) : UInt64 × UInt64 × UInt64 × UInt64 × UInt64 :=
  let t3 := x.toNat * y3.toNat + d.toNat + (0 : UInt64).toNat
  let t2 := x.toNat * y2.toNat + c.toNat + (w64 (t3 / 2 ^ 64)).toNat
  let t1 := x.toNat * y1.toNat + b.toNat + (w64 (t2 / 2 ^ 64)).toNat
  let t0 := x.toNat * y0.toNat + a.toNat + (w64 (t1 / 2 ^ 64)).toNat
  (w64 t0, w64 t1, w64 t2, w64 t3, w64 (t0 / 2 ^ 64))

theorem row_core (x y0 y1 y2 y3 a b c d : UInt64) (t3 t2 t1 t0 : Nat) (h3 : t3 = x.toNat * y3.toNat + d.toNat + (0 : UInt64).toNat) (h2 : t2 = x.toNat * y2.toNat + c.toNat + (w64 (t3 / 2 ^ 64)).toNat)
    (h1 : t1 = x.toNat * y1.toNat + b.toNat + (w64 (t2 / 2 ^ 64)).toNat) (h0 : t0 = x.toNat * y0.toNat + a.toNat + (w64 (t1 / 2 ^ 64)).toNat) :
    Row (x.toNat * wv [y0, y1, y2, y3]) a b c d (w64 t0) (w64 t1) (w64 t2) (w64 t3) (w64 (t0 / 2 ^ 64)) := by
  have k3 : (w64 (t3 / 2 ^ 64)).toNat = t3 / 2 ^ 64 := by rw [h3]; exact carry_ok _ _ _ _
  have k2 : (w64 (t2 / 2 ^ 64)).toNat = t2 / 2 ^ 64 := by rw [h2]; exact carry_ok _ _ _ _
  have k1 : (w64 (t1 / 2 ^ 64)).toNat = t1 / 2 ^ 64 := by rw [h1]; exact carry_ok _ _ _ _
  have k0 : (w64 (t0 / 2 ^ 64)).toNat = t0 / 2 ^ 64 := by rw [h0]; exact carry_ok _ _ _ _
  rw [k3] at h2; rw [k2] at h1; rw [k1] at h0
  rw [UInt64.toNat_zero, Nat.add_zero] at h3
  constructor
  rw [k0, Bl t0, Bl t1, Bl t2, Bl t3, wv4, dist4]
  exact row_val _ _ _ _ _ _ _ _ _ _ _ _ h3 h2 h1 h0

theorem row_ok (x y0 y1 y2 y3 a b c d : UInt64) {z : Nat} (hz : x.toNat * wv [y0, y1, y2, y3] = z) : ∃ a' b' c' d' r, rowF x y0 y1 y2 y3 a b c d = (a', b', c', d', r) ∧ Row z a b c d a' b' c' d' r := by
  rw [← hz]
  exact ⟨_, _, _, _, _, rfl, row_core x y0 y1 y2 y3 a b c d _ _ _ _ rfl rfl rfl rfl⟩

section
variable (x y0 y1 y2 y3 a b c d h0 h1 h2 h3 k0 k1 k2 : UInt64)
theorem inn3 : innM x [y0, y1, y2, y3] 3 [h0, h1, h2, h3, a, b, c, d] 4 = ([h0, h1, h2, h3, (rowF x y0 y1 y2 y3 a b c d).1, (rowF x y0 y1 y2 y3 a b c d).2.1, (rowF x y0 y1 y2 y3 a b c d).2.2.1, (rowF x y0 y1 y2 y3 a b c d).2.2.2.1], (rowF x y0 y1 y2 y3 a b c d).2.2.2.2) := rfl
theorem inn2 : innM x [y0, y1, y2, y3] 2 [h0, h1, h2, a, b, c, d, k0] 4 = ([h0, h1, h2, (rowF x y0 y1 y2 y3 a b c d).1, (rowF x y0 y1 y2 y3 a b c d).2.1, (rowF x y0 y1 y2 y3 a b c d).2.2.1, (rowF x y0 y1 y2 y3 a b c d).2.2.2.1, k0], (rowF x y0 y1 y2 y3 a b c d).2.2.2.2) := rfl
theorem inn1 : innM x [y0, y1, y2, y3] 1 [h0, h1, a, b, c, d, k0, k1] 4 = ([h0, h1, (rowF x y0 y1 y2 y3 a b c d).1, (rowF x y0 y1 y2 y3 a b c d).2.1, (rowF x y0 y1 y2 y3 a b c d).2.2.1, (rowF x y0 y1 y2 y3 a b c d).2.2.2.1, k0, k1], (rowF x y0 y1 y2 y3 a b c d).2.2.2.2) := rfl
theorem inn0 : innM x [y0, y1, y2, y3] 0 [h0, a, b, c, d, k0, k1, k2] 4 = ([h0, (rowF x y0 y1 y2 y3 a b c d).1, (rowF x y0 y1 y2 y3 a b c d).2.1, (rowF x y0 y1 y2 y3 a b c d).2.2.1, (rowF x y0 y1 y2 y3 a b c d).2.2.2.1, k0, k1, k2], (rowF x y0 y1 y2 y3 a b c d).2.2.2.2) := rfl
end

theorem five (r a b d e : Nat) : (((r * 2 ^ 64 + a) * 2 ^ 64 + b) * 2 ^ 64 + d) * 2 ^ 64 + e = ((a * 2 ^ 64 + b) * 2 ^ 64 + d) * 2 ^ 64 + e + r * 2 ^ 256 := by omega

theorem last4 {Q0 Q1 Q2 Q3 e0 e1 e2 e3 z0 z1 z2 z3 C : Nat} (w0 : Q0 * 2 ^ 64 + e0 = z0 + Q1) (w1 : Q1 * 2 ^ 64 + e1 = z1 + Q2) (w2 : Q2 * 2 ^ 64 + e2 = z2 + Q3) (w3 : Q3 * 2 ^ 64 + e3 = z3 + C) :
    (((Q0 * 2 ^ 64 + e0) * 2 ^ 64 + e1) * 2 ^ 64 + e2) * 2 ^ 64 + e3 = ((z0 * 2 ^ 64 + z1) * 2 ^ 64 + z2) * 2 ^ 64 + z3 + C := by
  rw [w0, Nat.add_mul z0 Q1, Nat.add_assoc _ (Q1 * 2 ^ 64) e1, w1, ← Nat.add_assoc, Nat.add_mul _ Q2, Nat.add_assoc _ (Q2 * 2 ^ 64) e2, w2, ← Nat.add_assoc, Nat.add_mul _ Q3, Nat.add_assoc _ (Q3 * 2 ^ 64) e3, w3, ← Nat.add_assoc]

theorem outM_val (x0 x1 x2 x3 y0 y1 y2 y3 c0 c1 c2 c3 : UInt64) :
    wv (outM [x0, x1, x2, x3] [y0, y1, y2, y3] [0, 0, 0, 0, c0, c1, c2, c3] 4) = wv [x0, x1, x2, x3] * wv [y0, y1, y2, y3] + wv [c0, c1, c2, c3] := by
  have key : ∀ (a b c d e f g h : UInt64), wv [a, b, c, d, e, f, g, h] = wv8 a b c d e f g h := by
    intro a b c d e f g h; simp [wv, wv8]
  obtain ⟨z0, hz0⟩ : ∃ z, x0.toNat * wv [y0, y1, y2, y3] = z := ⟨_, rfl⟩
  obtain ⟨z1, hz1⟩ : ∃ z, x1.toNat * wv [y0, y1, y2, y3] = z := ⟨_, rfl⟩
  obtain ⟨z2, hz2⟩ : ∃ z, x2.toNat * wv [y0, y1, y2, y3] = z := ⟨_, rfl⟩
  obtain ⟨z3, hz3⟩ : ∃ z, x3.toNat * wv [y0, y1, y2, y3] = z := ⟨_, rfl⟩
  obtain ⟨a3, b3, d3, e3, r3, q3, v3⟩ := row_ok x3 y0 y1 y2 y3 c0 c1 c2 c3 hz3
  obtain ⟨a2, b2, d2, e2, r2, q2, v2⟩ := row_ok x2 y0 y1 y2 y3 r3 a3 b3 d3 hz2
  obtain ⟨a1, b1, d1, e1, r1, q1, v1⟩ := row_ok x1 y0 y1 y2 y3 r2 a2 b2 d2 hz1
  obtain ⟨a0, b0, d0, e0, r0, q0, v0⟩ := row_ok x0 y0 y1 y2 y3 r1 a1 b1 d1 hz0
  have o1 : outM [x0, x1, x2, x3] [y0, y1, y2, y3] [0, 0, 0, 0, c0, c1, c2, c3] 1 = [0, 0, 0, r3, a3, b3, d3, e3] := by
    simp only [outM, Nat.sub_zero, List.getD_cons_succ, List.getD_cons_zero, inn3, q3, List.set_cons_succ, List.set_cons_zero, UInt64.zero_add]
  have o2 : outM [x0, x1, x2, x3] [y0, y1, y2, y3] [0, 0, 0, 0, c0, c1, c2, c3] 2 = [0, 0, r2, a2, b2, d2, e2, e3] := by
    rw [outM, o1]
    simp only [Nat.reduceSub, List.getD_cons_succ, List.getD_cons_zero, inn2, q2, List.set_cons_succ, List.set_cons_zero, UInt64.zero_add]
  have o3 : outM [x0, x1, x2, x3] [y0, y1, y2, y3] [0, 0, 0, 0, c0, c1, c2, c3] 3 = [0, r1, a1, b1, d1, e1, e2, e3] := by
    rw [outM, o2]
    simp only [Nat.reduceSub, List.getD_cons_succ, List.getD_cons_zero, inn1, q1, List.set_cons_succ, List.set_cons_zero, UInt64.zero_add]
  have o4 : outM [x0, x1, x2, x3] [y0, y1, y2, y3] [0, 0, 0, 0, c0, c1, c2, c3] 4 = [r0, a0, b0, d0, e0, e1, e2, e3] := by
    rw [outM, o3]
    simp only [Nat.reduceSub, List.getD_cons_succ, List.getD_cons_zero, inn0, q0, List.set_cons_succ, List.set_cons_zero, UInt64.zero_add]
  have hd : wv [x0, x1, x2, x3] * wv [y0, y1, y2, y3] = ((z0 * 2 ^ 64 + z1) * 2 ^ 64 + z2) * 2 ^ 64 + z3 := by
    rw [wv4 x0, ← hz0, ← hz1, ← hz2, ← hz3]
    generalize wv [y0, y1, y2, y3] = Y
    grind
  rw [o4, key, hd, wv4, wv8]
  replace v3 := v3.val; replace v2 := v2.val; replace v1 := v1.val; replace v0 := v0.val
  clear hd q0 q1 q2 q3 o1 o2 o3 o4 key hz0 hz1 hz2 hz3
  obtain ⟨C, hC⟩ : ∃ C, ((c0.toNat * 2 ^ 64 + c1.toNat) * 2 ^ 64 + c2.toNat) * 2 ^ 64 + c3.toNat = C := ⟨_, rfl⟩
  obtain ⟨Q3, hQ3⟩ : ∃ C, ((r3.toNat * 2 ^ 64 + a3.toNat) * 2 ^ 64 + b3.toNat) * 2 ^ 64 + d3.toNat = C := ⟨_, rfl⟩
  obtain ⟨Q2, hQ2⟩ : ∃ C, ((r2.toNat * 2 ^ 64 + a2.toNat) * 2 ^ 64 + b2.toNat) * 2 ^ 64 + d2.toNat = C := ⟨_, rfl⟩
  obtain ⟨Q1, hQ1⟩ : ∃ C, ((r1.toNat * 2 ^ 64 + a1.toNat) * 2 ^ 64 + b1.toNat) * 2 ^ 64 + d1.toNat = C := ⟨_, rfl⟩
  obtain ⟨Q0, hQ0⟩ : ∃ C, ((r0.toNat * 2 ^ 64 + a0.toNat) * 2 ^ 64 + b0.toNat) * 2 ^ 64 + d0.toNat = C := ⟨_, rfl⟩
  rw [hC] at v3 ⊢
  rw [hQ3] at v2
  rw [hQ2] at v1
  rw [hQ1] at v0
  rw [hQ0]
  have w3 := five r3.toNat a3.toNat b3.toNat d3.toNat e3.toNat
  have w2 := five r2.toNat a2.toNat b2.toNat d2.toNat e2.toNat
  have w1 := five r1.toNat a1.toNat b1.toNat d1.toNat e1.toNat
  have w0 := five r0.toNat a0.toNat b0.toNat d0.toNat e0.toNat
  rw [hQ3, v3] at w3
  rw [hQ2, v2] at w2
  rw [hQ1, v1] at w1
  rw [hQ0, v0] at w0
  exact last4 w0 w1 w2 w3

theorem maW_val {x y c : List UInt64} (hx : x.length = 4) (hy : y.length = 4) (hc : c.length = 4) : wv (outM x y ([0, 0, 0, 0] ++ c) 4) = wv x * wv y + wv c := by
  match x, hx, y, hy, c, hc with
  | [_, _, _, _], _, [_, _, _, _], _, [_, _, _, _], _ => exact outM_val _ _ _ _ _ _ _ _ _ _ _ _

end Hw
end

section
namespace Hw
def Prm (p : Nat) : Prop := 2 ≤ p ∧ ∀ m, m ∣ p → m = 1 ∨ m = p
theorem Prm.pos {p : Nat} (h : Prm p) : 0 < p := by have := h.1; omega
theorem Prm.coprime {p a : Nat} (h : Prm p) (ha : ¬ p ∣ a) : Nat.gcd p a = 1 := by
  rcases h.2 _ (Nat.gcd_dvd_left p a) with h1 | h1
  · exact h1
  · exact absurd (h1 ▸ Nat.gcd_dvd_right p a) ha
theorem Prm.dvd_mul {p a b : Nat} (h : Prm p) (hd : p ∣ a * b) : p ∣ a ∨ p ∣ b := by
  by_cases ha : p ∣ a
  · exact .inl ha
  · exact .inr (Nat.Coprime.dvd_of_dvd_mul_left (h.coprime ha) hd)
theorem prm_div : ∀ N, 2 ≤ N → ∃ P, Prm P ∧ P ∣ N ∧ (Prm N ∨ P * P ≤ N) := by
  intro N
  induction N using Nat.strongRecOn with
  | ind N ih =>
    intro hN
    by_cases hp : Prm N
    · exact ⟨N, hp, Nat.dvd_refl N, .inl hp⟩
    · have : ∃ m k, N = m * k ∧ 2 ≤ m ∧ 2 ≤ k ∧ m ≤ k := by
        apply Classical.byContradiction
        intro hno
        apply hp
        refine ⟨hN, fun m hm => ?_⟩
        obtain ⟨k, rfl⟩ := hm
        apply Classical.byContradiction
        intro hc
        have h0 : m ≠ 0 := fun e => by subst e; simp at hN
        have h1 : k ≠ 0 := fun e => by subst e; simp at hN
        have h2 : m ≠ 1 := fun e => hc (.inl e)
        have h3 : k ≠ 1 := fun e => hc (.inr (by subst e; simp))
        rcases Nat.le_total m k with hle | hle
        · exact hno ⟨m, k, rfl, by omega, by omega, hle⟩
        · exact hno ⟨k, m, Nat.mul_comm m k, by omega, by omega, hle⟩
      obtain ⟨m, k, rfl, h1, h2, h3⟩ := this
      have hmk : m < m * k := Nat.lt_of_lt_of_le oM (Nat.mul_le_mul_left m h2)
      obtain ⟨P, g1, g2, g3⟩ := ih m hmk h1
      have hle := Nat.le_of_dvd oM g2
      exact ⟨P, g1, Nat.dvd_trans g2 (Nat.dvd_mul_right m k), .inr (Nat.mul_le_mul hle (Nat.le_trans hle h3))⟩

def noDiv (n : Nat) : Nat → Nat → Bool
  | 0, d => Nat.blt n (d * d)
  | f + 1, d => Nat.blt n (d * d) || (!(Nat.beq (n % d) 0) && noDiv n f (d + 1))
theorem noDiv_ok {n : Nat} : ∀ f d, noDiv n f d = true → ∀ m, d ≤ m → m * m ≤ n → ¬ m ∣ n
  | 0, d, h, m, hm, hmn, _ => by
    have h1 : n < d * d := by simpa [noDiv, Nat.blt_eq] using h
    have := Nat.mul_le_mul hm hm
    omega
  | f + 1, d, h, m, hm, hmn, hd => by
    simp only [noDiv, Bool.or_eq_true, Bool.and_eq_true, Bool.not_eq_true'] at h
    rcases h with h | ⟨h, k⟩
    · have h1 : n < d * d := by simpa [Nat.blt_eq] using h
      have := Nat.mul_le_mul hm hm
      omega
    · rcases Nat.eq_or_lt_of_le hm with rfl | hlt
      · have : n % d = 0 := Nat.mod_eq_zero_of_dvd hd
        rw [this] at h
        simp at h
      · exact noDiv_ok f (d + 1) k m hlt hmn hd
theorem prm_small (n f : Nat) (h2 : 2 ≤ n) (h : noDiv n f 2 = true) : Prm n := by
  obtain ⟨P, g1, g2, g3⟩ := prm_div n h2
  rcases g3 with g3 | g3
  · exact g3
  · exact absurd g2 (noDiv_ok f 2 h P g1.1 g3)

def ch : Nat → Nat → Nat
  | _, 0 => 1
  | 0, _ + 1 => 0
  | n + 1, k + 1 => ch n k + ch n (k + 1)
def bsum (a n : Nat) : Nat → Nat
  | 0 => 0
  | m + 1 => bsum a n m + ch n m * a ^ m
theorem bsum_succ (a n : Nat) : ∀ m, bsum a (n + 1) (m + 1) = a * bsum a n m + bsum a n (m + 1)
  | 0 => by simp [bsum, ch]
  | m + 1 => by
    have ih := bsum_succ a n m
    rw [bsum, ih, bsum.eq_2 a n (m + 1), bsum.eq_2 a n m, ch, Nat.add_mul, Nat.mul_add, Nat.pow_succ]
    have : a * (ch n m * a ^ m) = ch n m * (a ^ m * a) := by rw [Nat.mul_comm a, Nat.mul_assoc]
    omega
theorem ch_zero : ∀ n k, n < k → ch n k = 0
  | 0, 0, h => absurd h dE
  | 0, _ + 1, _ => rfl
  | n + 1, 0, h => absurd h oM
  | n + 1, k + 1, h => by rw [ch, ch_zero n k oM, ch_zero n (k + 1) oM]
theorem ch_self : ∀ n, ch n n = 1
  | 0 => rfl
  | n + 1 => by rw [ch, ch_self n, ch_zero n (n + 1) oM]
theorem bsum_pow (a : Nat) : ∀ n, bsum a n (n + 1) = (a + 1) ^ n
  | 0 => by simp [bsum, ch]
  | n + 1 => by
    rw [bsum_succ, bsum.eq_2 a n (n + 1), ch_zero n (n + 1) oM, bsum_pow a n, Nat.zero_mul, Nat.add_zero, Nat.pow_succ (m := n)]
    generalize (a + 1) ^ n = x
    rw [Nat.mul_add, Nat.mul_one, Nat.mul_comm]; rfl
theorem ch_mul : ∀ n k, (k + 1) * ch (n + 1) (k + 1) = (n + 1) * ch n k
  | 0, 0 => rfl
  | 0, k + 1 => by simp [ch]
  | n + 1, 0 => by
    have h1 := ch_mul n 0
    have e : ch n 0 = 1 := by cases n <;> rfl
    rw [e] at h1
    show (0 + 1) * (ch (n + 1) 0 + ch (n + 1) (0 + 1)) = (n + 1 + 1) * ch (n + 1) 0
    rw [show ch (n + 1) 0 = 1 from rfl]
    omega
  | n + 1, k + 1 => by
    have h1 := ch_mul n k
    have h2 := ch_mul n (k + 1)
    rw [ch.eq_3 (n + 1) (k + 1), Nat.mul_add, h2]
    have e : ch (n + 1) (k + 1) = ch n k + ch n (k + 1) := rfl
    have e1 : (k + 1 + 1) * ch (n + 1) (k + 1) = (k + 1) * ch (n + 1) (k + 1) + ch (n + 1) (k + 1) := by rw [Nat.add_mul]; omega
    rw [e1, h1]
    have e2 : (n + 1 + 1) * ch (n + 1) (k + 1) = (n + 1) * ch (n + 1) (k + 1) + ch (n + 1) (k + 1) := by rw [Nat.add_mul]; omega
    rw [e2]
    have e3 : (n + 1) * ch (n + 1) (k + 1) = (n + 1) * ch n k + (n + 1) * ch n (k + 1) := by rw [e, Nat.mul_add]
    omega
theorem Prm.dvd_ch {p k : Nat} (h : Prm p) (h0 : 0 < k) (hk : k < p) : p ∣ ch p k := by
  obtain ⟨n, rfl⟩ : ∃ n, p = n + 1 := ⟨p - 1, by omega⟩
  obtain ⟨j, rfl⟩ : ∃ j, k = j + 1 := ⟨k - 1, by omega⟩
  have hm : n + 1 ∣ (j + 1) * ch (n + 1) (j + 1) := by rw [ch_mul]; exact Nat.dvd_mul_right _ _
  rcases h.dvd_mul hm with h1 | h1
  · have := Nat.le_of_dvd oM h1; omega
  · exact h1
theorem Prm.bsum {p : Nat} (h : Prm p) (a : Nat) : ∀ m, 1 ≤ m → m ≤ p → bsum a p m % p = 1 % p
  | 0, h1, _ => absurd h1 dE
  | 1, _, _ => by simp [Hw.bsum, ch]
  | m + 2, _, h2 => by
    obtain ⟨c, hc⟩ := h.dvd_ch (k := m + 1) oM oM
    rw [Hw.bsum, hc, Nat.mul_assoc, Nat.add_mul_mod_self_left]
    exact h.bsum a (m + 1) oM oM
theorem Prm.succ_pow {p : Nat} (h : Prm p) (a : Nat) : (a + 1) ^ p % p = (a ^ p + 1) % p := by
  rw [← bsum_pow, Hw.bsum, ch_self, Nat.one_mul, Nat.add_mod, h.bsum a p (by have := h.1; omega) (Nat.le_refl _), ← Nat.add_mod, Nat.add_comm]
theorem Prm.flt {p : Nat} (h : Prm p) : ∀ a, a ^ p % p = a % p
  | 0 => by rw [Nat.zero_pow h.pos]
  | a + 1 => by rw [h.succ_pow, Nat.add_mod, h.flt a, ← Nat.add_mod]
theorem Prm.fermat {p a : Nat} (h : Prm p) (ha : ¬ p ∣ a) : a ^ (p - 1) % p = 1 := by
  have h1 := h.flt a
  have h2 : a ^ p = a * a ^ (p - 1) := by
    obtain ⟨n, rfl⟩ : ∃ n, p = n + 1 := ⟨p - 1, by have := h.1; omega⟩
    rw [Nat.pow_succ, Nat.mul_comm]; rfl
  have hp : 1 ≤ a ^ (p - 1) := Nat.pow_pos (Nat.pos_of_ne_zero fun e => ha (e ▸ Nat.dvd_zero p))
  have h3 : p ∣ a * (a ^ (p - 1) - 1) := by
    rw [Nat.mul_sub, Nat.mul_one, ← h2]
    have hle : a ≤ a ^ p := by rw [h2]; exact Nat.le_mul_of_pos_right a hp
    apply Nat.dvd_of_mod_eq_zero
    exact Nat.sub_mod_eq_zero_of_mod_eq h1
  rcases h.dvd_mul h3 with h4 | h4
  · exact absurd h4 ha
  · obtain ⟨c, hc⟩ := h4
    have : a ^ (p - 1) = 1 + p * c := by omega
    rw [this, Nat.add_mul_mod_self_left, Nat.mod_eq_of_lt h.1]

theorem pow_one_mul {P b m : Nat} (h : b ^ m % P = 1 % P) (k : Nat) : b ^ (m * k) % P = 1 % P := by
  rw [Nat.pow_mul, Nat.pow_mod, h, ← Nat.pow_mod, Nat.one_pow]
theorem pow_gcd {P b : Nat} : ∀ m n, b ^ m % P = 1 % P → b ^ n % P = 1 % P → b ^ (Nat.gcd m n) % P = 1 % P := by
  intro m n
  induction m, n using Nat.gcd.induction with
  | H0 n => intro _ h; rwa [Nat.gcd_zero_left]
  | H1 m n hm ih =>
    intro h1 h2
    rw [Nat.gcd_rec]
    refine ih ?_ h1
    have e : b ^ n = b ^ (m * (n / m)) * b ^ (n % m) := by rw [← Nat.pow_add, Nat.div_add_mod]
    rw [e, Nat.mul_mod, pow_one_mul h1, ← Nat.mul_mod, Nat.one_mul] at h2
    exact h2
theorem ord_dvd {P b q : Nat} (hP : Prm P) (hq : Prm q) (h1 : b ^ q % P = 1 % P) (h2 : b % P ≠ 1 % P) : q ∣ P - 1 := by
  apply Classical.byContradiction
  intro hn
  have hb : ¬ P ∣ b := fun hd => by
    have : P ∣ b ^ q := by
      obtain ⟨n, rfl⟩ : ∃ n, q = n + 1 := ⟨q - 1, by have := hq.1; omega⟩
      rw [Nat.pow_succ]; exact Nat.dvd_trans hd (Nat.dvd_mul_left _ _)
    rw [Nat.mod_eq_zero_of_dvd this, Nat.mod_eq_of_lt hP.1] at h1
    cases h1
  have h3 := hP.fermat hb
  have h4 := pow_gcd q (P - 1) h1 (by rw [h3, Nat.mod_eq_of_lt hP.1])
  rw [hq.coprime hn, Nat.pow_one] at h4
  exact h2 h4

def pwm (n : Nat) : Nat → Nat → Nat → Nat
  | 0, _, _ => 1 % n
  | f + 1, b, e => bif Nat.beq (e % 2) 1 then b * pwm n f (b * b % n) (e / 2) % n else pwm n f (b * b % n) (e / 2)
theorem pwm_eq (n : Nat) : ∀ f b e, e < 2 ^ f → pwm n f b e = b ^ e % n
  | 0, b, e, h => by
    obtain rfl : e = 0 := by simpa using h
    simp [pwm]
  | f + 1, b, e, h => by
    have h1 : e / 2 < 2 ^ f := by rw [Nat.pow_succ] at h; omega
    have ih := pwm_eq n f (b * b % n) (e / 2) h1
    have e1 : (b * b % n) ^ (e / 2) % n = b ^ (2 * (e / 2)) % n := by rw [← Nat.pow_mod, ← Nat.pow_two, ← Nat.pow_mul]
    rw [pwm, ih, e1]
    by_cases h2 : e % 2 = 1
    · rw [h2]
      have : Nat.beq 1 1 = true := rfl
      rw [this, cond_true]
      rw [Nat.mul_mod, Nat.mod_mod, ← Nat.mul_mod, Nat.mul_comm, ← Nat.pow_succ]
      congr 2
      omega
    · have h3 : e % 2 = 0 := by omega
      rw [h3]
      have : Nat.beq 0 1 = false := rfl
      rw [this, cond_false]
      congr 2
      omega

def pockOk (N a q f : Nat) : Bool := Nat.beq ((N - 1) % q) 0 && Nat.beq (pwm N f a (N - 1)) 1 && Nat.beq (Nat.gcd (pwm N f a ((N - 1) / q) + (N - 1)) N) 1 && Nat.blt (N - 1) (2 ^ f)
theorem pock {N a q f : Nat} (hN : 2 ≤ N) (hq : Prm q) (h : pockOk N a q f = true) : ∀ P, Prm P → P ∣ N → q ∣ P - 1 := by
  intro P hP hPN
  simp only [pockOk, Bool.and_eq_true, Nat.blt_eq] at h
  obtain ⟨⟨⟨h1, h2⟩, h3⟩, h4⟩ := h
  have h1 := Nat.eq_of_beq_eq_true h1
  have h2 := Nat.eq_of_beq_eq_true h2
  have h3 := Nat.eq_of_beq_eq_true h3
  rw [pwm_eq N f a _ h4] at h2
  rw [pwm_eq N f a _ (Nat.lt_of_le_of_lt (Nat.div_le_self _ _) h4)] at h3
  have hd : q * ((N - 1) / q) = N - 1 := by have := Nat.div_add_mod (N - 1) q; omega
  have down : ∀ x y, x % N = y % N → x % P = y % P := fun x y e => by
    rw [← Nat.mod_mod_of_dvd x hPN, ← Nat.mod_mod_of_dvd y hPN, e]
  refine ord_dvd (b := a ^ ((N - 1) / q)) hP hq ?_ fun e => ?_
  · rw [← Nat.pow_mul, Nat.mul_comm, hd]
    exact down _ _ (by rw [h2, Nat.mod_eq_of_lt hN])
  · have e1 : P ∣ a ^ ((N - 1) / q) % N + (N - 1) := by
      obtain ⟨c, hc⟩ := hPN
      have hdm := Nat.div_add_mod (a ^ ((N - 1) / q)) N
      apply Nat.dvd_of_mod_eq_zero
      have e2 : (a ^ ((N - 1) / q) % N + (N - 1) + 1) % P = 1 % P := by
        rw [show a ^ ((N - 1) / q) % N + (N - 1) + 1 = a ^ ((N - 1) / q) % N + N by omega]
        rw [Nat.add_mod, Nat.mod_mod_of_dvd _ ⟨c, hc⟩, Nat.mod_eq_zero_of_dvd ⟨c, hc⟩, Nat.add_zero, Nat.mod_mod, e]
      have hP2 := hP.1
      rw [Nat.mod_eq_of_lt hP2, Nat.add_mod, Nat.mod_eq_of_lt hP2] at e2
      have hlt := Nat.mod_lt (a ^ ((N - 1) / q) % N + (N - 1)) hP.pos
      generalize (a ^ ((N - 1) / q) % N + (N - 1)) % P = r at e2 hlt ⊢
      rcases Nat.lt_or_ge (r + 1) P with h5 | h5
      · rw [Nat.mod_eq_of_lt h5] at e2; omega
      · obtain rfl : P = r + 1 := by omega
        rw [Nat.mod_self] at e2; cases e2
    have e2 : P ∣ Nat.gcd (a ^ ((N - 1) / q) % N + (N - 1)) N := Nat.dvd_gcd e1 hPN
    rw [h3] at e2
    have := Nat.le_of_dvd Nat.one_pos e2
    have := hP.1
    omega
theorem prm_of {N F : Nat} (hN : 2 ≤ N) (h : ∀ P, Prm P → P ∣ N → F ∣ P - 1) (hF : N < (F + 1) * (F + 1)) : Prm N := by
  obtain ⟨P, g1, g2, g3⟩ := prm_div N hN
  rcases g3 with g3 | g3
  · exact g3
  · have h1 := Nat.le_of_dvd (by have := g1.1; omega) (h P g1 g2)
    have := g1.1
    have h2 := Nat.mul_le_mul (show F + 1 ≤ P by omega) (show F + 1 ≤ P by omega)
    omega
theorem prm_pock1 {N q : Nat} (a f : Nat) (hq : Prm q) (h : (pockOk N a q f && Nat.blt 1 N && Nat.blt N ((q + 1) * (q + 1))) = true) : Prm N := by
  simp only [Bool.and_eq_true, Nat.blt_eq] at h
  exact prm_of h.1.2 (pock h.1.2 hq h.1.1) h.2
theorem prm_pock2 {N q r : Nat} (a b f : Nat) (hq : Prm q) (hr : Prm r) (h : (pockOk N a q f && pockOk N b r f && Nat.beq (Nat.gcd q r) 1 && Nat.blt 1 N && Nat.blt N ((q * r + 1) * (q * r + 1))) = true) : Prm N := by
  simp only [Bool.and_eq_true, Nat.blt_eq] at h
  exact prm_of h.1.2 (fun P h1 h2 => Nat.Coprime.mul_dvd_of_dvd_of_dvd (Nat.eq_of_beq_eq_true h.1.1.2) (pock h.1.2 hq h.1.1.1.1 P h1 h2) (pock h.1.2 hr h.1.1.1.2 P h1 h2)) h.2
set_option maxRecDepth 100000
theorem prm_430751 : Prm 430751 := prm_small _ 658 dE zK
theorem prm_4153 : Prm 4153 := prm_small _ 66 dE zK
theorem prm_569003 : Prm 569003 := prm_small _ 756 dE zK
theorem prm_8574133 : Prm 8574133 := prm_small _ 2930 dE zK
theorem prm_127 : Prm 127 := prm_small _ 13 dE zK
theorem prm_2773320623 : Prm 2773320623 := prm_pock1 2 256 prm_569003 zK
theorem prm_72106336199 : Prm 72106336199 := prm_pock1 2 256 prm_2773320623 zK
theorem prm_1919519569386763 : Prm 1919519569386763 := prm_pock2 2 2 256 prm_8574133 prm_127 zK
theorem prm_75445702479781427272750846543864801 : Prm 75445702479781427272750846543864801 := prm_pock2 2 2 256 prm_1919519569386763 prm_72106336199 zK
theorem prm_31757755568855353 : Prm 31757755568855353 := prm_pock2 2 2 256 prm_430751 prm_4153 zK
theorem Cw : Prm 74058212732561358302231226437062788676166966415465897661863160754340907 := prm_pock2 2 2 256 prm_75445702479781427272750846543864801 prm_31757755568855353 zK
theorem prm_field : Prm 57896044618658097711785492504343953926634992332820282019728792003956564819949 := prm_pock1 2 256 Cw zK
end Hw
end

section
namespace Hw
open Go

def by8 (x : UInt64) : List UInt8 := [x.toUInt8, (As x 8).toUInt8, (As x 16).toUInt8, (As x 24).toUInt8, (As x 32).toUInt8, (As x 40).toUInt8, (As x 48).toUInt8, (As x 56).toUInt8]
theorem by8_eq (x : UInt64) : by8 x = leb 8 x.toNat := by
  have e : ∀ y : UInt64, y.toUInt8 = UInt8.ofNat y.toNat := fun y => rfl
  simp only [by8, leb, e, A7, Nat.div_div_eq_div_mul]
def set8 (l : List UInt8) (o : Nat) (x : UInt64) : List UInt8 :=
  (((((((l.set o x.toUInt8).set (o + 1) (As x 8).toUInt8).set (o + 2) (As x 16).toUInt8).set (o + 3) (As x 24).toUInt8).set (o + 4) (As x 32).toUInt8).set (o + 5) (As x 40).toUInt8).set (o + 6) (As x 48).toUInt8).set (o + 7) (As x 56).toUInt8
theorem set8_at (p : List UInt8) (x : UInt64) (a b c d e f g h : UInt8) (r : List UInt8) : set8 (p ++ a :: b :: c :: d :: e :: f :: g :: h :: r) p.length x = p ++ by8 x ++ r := by
  induction p with
  | nil => rfl
  | cons y p ih =>
    simp only [List.cons_append, List.length_cons]
    rw [← ih]
    simp only [set8, show p.length + 1 + 1 = (p.length + 1) + 1 from rfl, show p.length + 1 + 2 = (p.length + 2) + 1 from rfl, show p.length + 1 + 3 = (p.length + 3) + 1 from rfl, show p.length + 1 + 4 = (p.length + 4) + 1 from rfl, show p.length + 1 + 5 = (p.length + 5) + 1 from rfl, show p.length + 1 + 6 = (p.length + 6) + 1 from rfl, show p.length + 1 + 7 = (p.length + 7) + 1 from rfl, List.set_cons_succ]
theorem by8_length (x : UInt64) : (by8 x).length = 8 := rfl
theorem set8_1 (x : UInt64) : set8 (List.replicate 32 0) 0 x = by8 x ++ List.replicate 24 0 := set8_at [] x 0 0 0 0 0 0 0 0 (List.replicate 24 0)
theorem set8_2 (x y : UInt64) : set8 (by8 x ++ List.replicate 24 0) 8 y = by8 x ++ by8 y ++ List.replicate 16 0 := set8_at (by8 x) y 0 0 0 0 0 0 0 0 (List.replicate 16 0)
theorem set8_3 (x y z : UInt64) : set8 (by8 x ++ by8 y ++ List.replicate 16 0) 16 z = by8 x ++ by8 y ++ by8 z ++ List.replicate 8 0 := set8_at (by8 x ++ by8 y) z 0 0 0 0 0 0 0 0 (List.replicate 8 0)
theorem set8_4 (x y z w : UInt64) : set8 (by8 x ++ by8 y ++ by8 z ++ List.replicate 8 0) 24 w = by8 x ++ by8 y ++ by8 z ++ by8 w := by
  have h := set8_at (by8 x ++ by8 y ++ by8 z) w 0 0 0 0 0 0 0 0 []
  rw [List.append_nil] at h
  exact h
theorem by8_store (w : W5) : by8 (w.a ||| A2 w.b 51) ++ by8 (As w.b 13 ||| A2 w.c 38) ++ by8 (As w.c 26 ||| A2 w.d 25) ++ by8 (As w.d 39 ||| A2 w.e 12) = stB5 w := by
  simp only [by8_eq, stB5]
def qw (a : List UInt8) (i : Nat) : UInt64 :=
  (a.getD (0 + 8 * i * 1 + 0) 0).toUInt64 ||| A2 (a.getD (0 + 8 * i * 1 + 1) 0).toUInt64 8 ||| A2 (a.getD (0 + 8 * i * 1 + 2) 0).toUInt64 16 ||| A2 (a.getD (0 + 8 * i * 1 + 3) 0).toUInt64 24 ||| A2 (a.getD (0 + 8 * i * 1 + 4) 0).toUInt64 32 ||| A2 (a.getD (0 + 8 * i * 1 + 5) 0).toUInt64 40 ||| A2 (a.getD (0 + 8 * i * 1 + 6) 0).toUInt64 48 ||| A2 (a.getD (0 + 8 * i * 1 + 7) 0).toUInt64 56
def qtA (a : List UInt8) : Nat → List UInt64
  | 0 => List.replicate 4 0
  | i + 1 => (qtA a i).set i (qw a i)
theorem qtA_length (a : List UInt8) : ∀ i, (qtA a i).length = 4
  | 0 => rfl
  | i + 1 => by rw [qtA, List.length_set, qtA_length a i]
theorem or_byte {x : UInt64} {b : UInt8} {k : Nat} (hk : k ≤ 56) (hx : x.toNat < 2 ^ k) : (x ||| A2 b.toUInt64 k).toNat = x.toNat + 2 ^ k * b.toNat ∧ x.toNat + 2 ^ k * b.toNat < 2 ^ (k + 8) := by
  have hb := b.toNat_lt
  have h1 : 2 ^ k * b.toNat < 2 ^ 64 := by
    have h2 : 2 ^ k * b.toNat < 2 ^ k * 2 ^ 8 := Nat.mul_lt_mul_of_pos_left hb (Nat.pow_pos dE)
    rw [← Nat.pow_add] at h2
    exact Nat.lt_of_lt_of_le h2 (Nat.pow_le_pow_right dE oM)
  have e : (A2 b.toUInt64 k).toNat = 2 ^ k * b.toNat := by rw [Cf, UInt8.toNat_toUInt64, Nat.mul_comm, Nat.mod_eq_of_lt h1]
  refine ⟨by rw [or_add hx e, e], ?_⟩
  have h3 : 2 ^ k * b.toNat ≤ 2 ^ k * 255 := Nat.mul_le_mul_left _ oM
  rw [Nat.pow_add]
  omega
theorem word8 (b0 b1 b2 b3 b4 b5 b6 b7 : UInt8) : (b0.toUInt64 ||| A2 b1.toUInt64 8 ||| A2 b2.toUInt64 16 ||| A2 b3.toUInt64 24 ||| A2 b4.toUInt64 32 ||| A2 b5.toUInt64 40 ||| A2 b6.toUInt64 48 ||| A2 b7.toUInt64 56).toNat =
    b0.toNat + 2 ^ 8 * b1.toNat + 2 ^ 16 * b2.toNat + 2 ^ 24 * b3.toNat + 2 ^ 32 * b4.toNat + 2 ^ 40 * b5.toNat + 2 ^ 48 * b6.toNat + 2 ^ 56 * b7.toNat := by
  have h0 : b0.toUInt64.toNat < 2 ^ 8 := by rw [UInt8.toNat_toUInt64]; exact b0.toNat_lt
  obtain ⟨e1, l1⟩ := or_byte (b := b1) dE h0
  obtain ⟨e2, l2⟩ := or_byte (b := b2) (k := 16) dE (by rw [e1]; exact l1)
  obtain ⟨e3, l3⟩ := or_byte (b := b3) (k := 24) dE (by rw [e2]; exact l2)
  obtain ⟨e4, l4⟩ := or_byte (b := b4) (k := 32) dE (by rw [e3]; exact l3)
  obtain ⟨e5, l5⟩ := or_byte (b := b5) (k := 40) dE (by rw [e4]; exact l4)
  obtain ⟨e6, l6⟩ := or_byte (b := b6) (k := 48) dE (by rw [e5]; exact l5)
  obtain ⟨e7, l7⟩ := or_byte (b := b7) (k := 56) dE (by rw [e6]; exact l6)
  rw [e7, e6, e5, e4, e3, e2, e1, UInt8.toNat_toUInt64]
theorem qw_exp (a0 a1 a2 a3 a4 a5 a6 a7 a8 a9 a10 a11 a12 a13 a14 a15 a16 a17 a18 a19 a20 a21 a22 a23 a24 a25 a26 a27 a28 a29 a30 a31 : UInt8) (l : List UInt8) (hl : l = [a0, a1, a2, a3, a4, a5, a6, a7, a8, a9, a10, a11, a12, a13, a14, a15, a16, a17, a18, a19, a20, a21, a22, a23, a24, a25, a26, a27, a28, a29, a30, a31]) :
    (qw l 0).toNat + 18446744073709551616 * (qw l 1).toNat + 340282366920938463463374607431768211456 * (qw l 2).toNat + 6277101735386680763835789423207666416102355444464034512896 * (qw l 3).toNat = le l := by
  subst hl
  have h0 := word8 a0 a1 a2 a3 a4 a5 a6 a7
  have h1 := word8 a8 a9 a10 a11 a12 a13 a14 a15
  have h2 := word8 a16 a17 a18 a19 a20 a21 a22 a23
  have h3 := word8 a24 a25 a26 a27 a28 a29 a30 a31
  have k0 := h0
  simp only [qw, List.getD_cons_succ, List.getD_cons_zero, Nat.mul_zero, Nat.zero_add, Nat.add_zero, Nat.mul_one, Nat.reduceMul, Nat.reduceAdd, h0, h1, h2, h3, le]
  omega
theorem qw_le {a : List UInt8} (h : a.length = 32) : (qw a 0).toNat + 18446744073709551616 * (qw a 1).toNat + 340282366920938463463374607431768211456 * (qw a 2).toNat + 6277101735386680763835789423207666416102355444464034512896 * (qw a 3).toNat = le a := by
  obtain ⟨f, hf⟩ : ∃ f : Nat → UInt8, a = (List.range 32).map f := ⟨fun i => a.getD i 0, by
    apply List.ext_getElem (by simp [h])
    intro i h1 h2
    simp [List.getD, h1]⟩
  exact qw_exp (f 0) (f 1) (f 2) (f 3) (f 4) (f 5) (f 6) (f 7) (f 8) (f 9) (f 10) (f 11) (f 12) (f 13) (f 14) (f 15) (f 16) (f 17) (f 18) (f 19) (f 20) (f 21) (f 22) (f 23) (f 24) (f 25) (f 26) (f 27) (f 28) (f 29) (f 30) (f 31) a hf
def ldN (a : List UInt8) : W5 := ldF (qw a 0) (qw a 1) (qw a 2) (qw a 3)
theorem ldN_v {a : List UInt8} (h : a.length = 32) : (ldN a).v = le a := by rw [ldN, ldF_v, qw_le h]
theorem ldN_lt (a : List UInt8) : (ldN a).lt 2251799813685248 4503599627370496 := ldF_lt _ _ _ _
theorem W5.l_length (w : W5) : w.l.length = 5 := rfl
def addF (x y : W5) : W5 := ⟨x.a + y.a, x.b + y.b, x.c + y.c, x.d + y.d, x.e + y.e⟩
def subF (x y : W5) : W5 := ⟨x.a + (9007199254740916 - y.a), x.b + (9007199254740988 - y.b), x.c + (9007199254740988 - y.c), x.d + (9007199254740988 - y.d), x.e + (9007199254740988 - y.e)⟩
theorem addF_v {x y : W5} (hx : x.lt 2251799813685248 4503599627370496) (hy : y.lt 2251799813685248 4503599627370496) : (addF x y).v = x.v + y.v := by
  obtain ⟨h1, h2, h3, h4, h5⟩ := hx
  obtain ⟨g1, g2, g3, g4, g5⟩ := hy
  have e : ∀ {u v : UInt64}, u.toNat < 4503599627370496 → v.toNat < 4503599627370496 → (u + v).toNat = u.toNat + v.toNat := fun h g => by rw [UInt64.toNat_add]; omega
  simp only [W5.v, addF]
  rw [e oM oM, e oM oM, e oM oM, e oM oM, e h5 g5]
  omega
theorem subF_v {x y : W5} (hx : x.lt 2251799813685248 4503599627370496) (hy : y.lt 2251799813685248 4503599627370496) : (subF x y).v + y.v = x.v + 4 * PF := by
  obtain ⟨h1, h2, h3, h4, h5⟩ := hx
  obtain ⟨g1, g2, g3, g4, g5⟩ := hy
  have e : ∀ {u v : UInt64}, u.toNat < 4503599627370496 → v.toNat < 4503599627370496 → (u + (9007199254740988 - v)).toNat = u.toNat + (9007199254740988 - v.toNat) := fun h g => by
    rw [UInt64.toNat_add, UInt64.toNat_sub, show (9007199254740988 : UInt64).toNat = 9007199254740988 from rfl]; omega
  have e0 : ∀ {u v : UInt64}, u.toNat < 2251799813685248 → v.toNat < 2251799813685248 → (u + (9007199254740916 - v)).toNat = u.toNat + (9007199254740916 - v.toNat) := fun h g => by
    rw [UInt64.toNat_add, UInt64.toNat_sub, show (9007199254740916 : UInt64).toNat = 9007199254740916 from rfl]; omega
  simp only [W5.v, subF, PF]
  rw [e0 h1 g1, e oM oM, e oM oM, e oM oM, e h5 g5]
  omega
def q4 (a b c d : UInt64) : Nat := a.toNat + 18446744073709551616 * b.toNat + 340282366920938463463374607431768211456 * c.toNat + 6277101735386680763835789423207666416102355444464034512896 * d.toNat
theorem q4_shift (a b c d : UInt64) : q4 (A2 a 1) (A2 b 1 ||| As a 63) (A2 c 1 ||| As b 63) (A2 d 1 ||| As c 63) = 2 * q4 a b c d % 115792089237316195423570985008687907853269984665640564039457584007913129639936 := by
  have h1 := mid_word a b 1 dE
  have h2 := mid_word b c 1 dE
  have h3 := mid_word c d 1 dE
  have := a.toNat_lt; have := b.toNat_lt; have := c.toNat_lt; have := d.toNat_lt
  simp only [q4]
  rw [UInt64.or_comm (A2 b 1), UInt64.or_comm (A2 c 1), UInt64.or_comm (A2 d 1), show (As a 63 ||| A2 b 1).toNat = _ from h1, show (As b 63 ||| A2 c 1).toNat = _ from h2, show (As c 63 ||| A2 d 1).toNat = _ from h3, Cf]
  omega
theorem q4_top (a b c d : UInt64) : (As d 63).toNat = q4 a b c d / 57896044618658097711785492504343953926634992332820282019728792003956564819968 := by
  have := a.toNat_lt; have := b.toNat_lt; have := c.toNat_lt; have := d.toNat_lt
  rw [A7, q4]
  omega
end Hw
end

section
namespace Ed
open Hw Go

theorem PF_prm : Prm PF := prm_field
instance : NeZero PF := ⟨by decide⟩
abbrev Fp := Fin PF
def fe (n : Nat) : Fp := Fin.ofNat PF n
theorem fe_val (n : Nat) : (fe n).val = n % PF := rfl
theorem fe_of (a : Fp) : fe a.val = a := Fin.ext (by rw [fe_val]; exact Nat.mod_eq_of_lt a.isLt)
theorem fe_add (m n : Nat) : fe (m + n) = fe m + fe n := Fin.ext (by rw [fe_val, Fin.val_add, fe_val, fe_val, ← Nat.add_mod])
theorem fe_mul (m n : Nat) : fe (m * n) = fe m * fe n := Fin.ext (by rw [fe_val, Fin.val_mul, fe_val, fe_val, ← Nat.mul_mod])
theorem fe_eq {m n : Nat} : fe m = fe n ↔ m % PF = n % PF := ⟨fun h => congrArg Fin.val h, fun h => Fin.ext h⟩
def C0 (a : Fp) (e : Nat) : Fp := fe (pwm PF 256 a.val e)
theorem fpow_val (a : Fp) {e : Nat} (h : e < 2 ^ 256) : (C0 a e).val = a.val ^ e % PF := by rw [C0, fe_val, pwm_eq PF 256 a.val e h, Nat.mod_mod]
theorem fpow_zero (a : Fp) : C0 a 0 = 1 := Fin.ext (by rw [fpow_val a dE]; rfl)
theorem fpow_two {a : Fp} {e : Nat} (h : 2 * e < 2 ^ 256) : C0 a (2 * e) = C0 a e * C0 a e := Fin.ext (by
  rw [fpow_val a h, Fin.val_mul, fpow_val a oM, ← Nat.mul_mod, ← Nat.pow_add, Nat.two_mul])
theorem fpow_succ {a : Fp} {e : Nat} (h : e + 1 < 2 ^ 256) : C0 a (e + 1) = C0 a e * a := Fin.ext (by
  rw [fpow_val a h, Fin.val_mul, fpow_val a oM, Nat.pow_succ, Nat.mul_mod (a.val ^ e % PF), Nat.mod_mod, ← Nat.mul_mod])
theorem fpow_add {a : Fp} {m n : Nat} (h : m + n < 2 ^ 256) : C0 a (m + n) = C0 a m * C0 a n := Fin.ext (by
  rw [fpow_val a h, Fin.val_mul, fpow_val a oM, fpow_val a oM, ← Nat.mul_mod, ← Nat.pow_add])
theorem fpow_mul {a : Fp} {m n : Nat} (hm : m < 2 ^ 256) (hn : n < 2 ^ 256) (h : m * n < 2 ^ 256) : C0 (C0 a m) n = C0 a (m * n) := Fin.ext (by
  rw [fpow_val _ hn, fpow_val a hm, fpow_val a h, ← Nat.pow_mod, ← Nat.pow_mul])
theorem mulpow {a b : Fp} {n : Nat} (hn : n < 2 ^ 256) : C0 (a * b) n = C0 a n * C0 b n := Fin.ext (by
  rw [fpow_val _ hn, Fin.val_mul, Fin.val_mul, fpow_val a hn, fpow_val b hn, ← Nat.mul_mod, ← Nat.pow_mod, Nat.mul_pow])
theorem ferm {a : Fp} (h : a ≠ 0) : C0 a (PF - 1) = 1 := Fin.ext (by
  rw [fpow_val a dE]
  exact PF_prm.fermat fun hd => h (Fin.ext (Nat.eq_zero_of_dvd_of_lt hd a.isLt)))
def finv (a : Fp) : Fp := C0 a (PF - 2)
theorem finv_mul {a : Fp} (h : a ≠ 0) : a * finv a = 1 := by
  have h1 := ferm h
  rw [show PF - 1 = (PF - 2) + 1 from by decide, fpow_succ dE] at h1
  rw [finv]; grind
theorem finv_zero : finv 0 = 0 := by kernel_rfl
def fD : Fp := fe 37095705934669439343138083508754565189542113879843219016388785533085940283555
def fI : Fp := fe 19681161376707505956807079304988542015446066515923890162744021073123829784752
theorem half {z : Fp} (h : z ≠ 0) : C0 (z * z) ((PF - 1) / 2) = 1 := by
  rw [show z * z = C0 z 2 from by rw [show (2 : Nat) = 2 * 1 from rfl, fpow_two dE, show (1 : Nat) = 0 + 1 from rfl, fpow_succ dE, fpow_zero]; grind, fpow_mul dE dE dE]
  exact ferm h
theorem fD_half : (decide (C0 fD ((PF - 1) / 2) = 1)) = false := by kernel_rfl
theorem fI_sq : fI * fI = -1 := by kernel_rfl
theorem fone : (1 : Fp) ≠ 0 := by
  intro h
  have := congrArg Fin.val h
  revert this
  decide
theorem ftwo : (1 : Fp) + 1 ≠ 0 := by
  intro h
  have := congrArg Fin.val h
  revert this
  decide
def cv : Cv Fp where
  d := fD
  i := fI
  inv := finv
  one_ne := fone
  two_ne := ftwo
  mul_inv := fun _ h => finv_mul h
  inv_zero := finv_zero
  i_sq := fI_sq
  nsq := fun z h => by
    by_cases hz : z = 0
    · rw [hz] at h
      have := congrArg Fin.val h
      revert this
      decide
    · have h1 := half hz
      rw [h] at h1
      have := fD_half
      rw [h1] at this
      simp at this

def fb (x : Fp) : List UInt8 := leb 32 x.val
theorem Aq (x : Fp) : (fb x).length = 32 := Aj _ _
theorem le_fb (x : Fp) : le (fb x) = x.val := by rw [fb, le_leb]; exact Nat.mod_eq_of_lt (Nat.lt_trans x.isLt dE)
theorem fe_fb (x : Fp) : fe (le (fb x)) = x := by rw [le_fb, fe_of]
theorem fb_inj {x y : Fp} : fb x = fb y ↔ x = y := ⟨fun h => by rw [← fe_fb x, h, fe_fb], fun h => by rw [h]⟩
theorem fb_fe (n : Nat) : fb (fe n) = leb 32 (n % PF) := rfl
theorem mulF_fe {a b : W5} (ha : a.fit) (hb : b.fit) : fe (mulF a b).v = fe a.v * fe b.v := by rw [← fe_mul]; exact fe_eq.2 (mulF_v ha hb)
theorem fe_four : fe (4 * PF) = 0 := by kernel_rfl
theorem subF_fe {x y : W5} (hx : x.lt 2251799813685248 4503599627370496) (hy : y.lt 2251799813685248 4503599627370496) : fe (subF x y).v = fe x.v - fe y.v := by
  have h := congrArg fe (subF_v hx hy)
  rw [fe_add, fe_add, fe_four] at h
  grind
theorem fe_small (n : UInt64) : fb (fe n.toNat) = leb 32 n.toNat := by
  have := n.toNat_lt
  rw [fb_fe, Nat.mod_eq_of_lt (Nat.lt_trans this dE)]
theorem addF_fe {a b : List UInt8} (ha : a.length = 32) (hb : b.length = 32) : fe (addF (ldN a) (ldN b)).v = fe (le a) + fe (le b) := by rw [addF_v (ldN_lt a) (ldN_lt b), ldN_v ha, ldN_v hb, fe_add]
theorem subL_fe {a b : List UInt8} (ha : a.length = 32) (hb : b.length = 32) : fe (subF (ldN a) (ldN b)).v = fe (le a) - fe (le b) := by rw [subF_fe (ldN_lt a) (ldN_lt b), ldN_v ha, ldN_v hb]
theorem mulL_fe {a b : List UInt8} (ha : a.length = 32) (hb : b.length = 32) : fe (mulF (ldN a) (ldN b)).v = fe (le a) * fe (le b) := by rw [mulF_fe (ldN_lt a).fit (ldN_lt b).fit, ldN_v ha, ldN_v hb]
structure PowI (E : Nat) (X : Fp) (k : Nat) (p : W5) (a b c d : UInt64) : Prop where
  le : k ≤ 256
  fit : p.fit
  val : fe p.v = C0 X (E / 2 ^ (256 - k))
  q : q4 a b c d = E * 2 ^ k % 2 ^ 256
theorem PowI.first {e : List UInt8} (h : e.length = 32) (X : Fp) : PowI (Hw.le e) X 0 ⟨1, 0, 0, 0, 0⟩ (qw e 0) (qw e 1) (qw e 2) (qw e 3) := by
  have hl := le_lt e
  rw [h] at hl
  refine ⟨by decide, ⟨by decide, by decide, by decide, by decide, by decide⟩, ?_, ?_⟩
  · rw [show 256 - 0 = 256 from rfl, Nat.div_eq_of_lt (Nat.lt_of_lt_of_le hl dE), fpow_zero]; rfl
  · rw [q4, qw_le h, Nat.pow_zero, Nat.mul_one, Nat.mod_eq_of_lt (Nat.lt_of_lt_of_le hl dE)]
theorem top_bit (E k : Nat) (hk : k < 256) : E * 2 ^ k % 2 ^ 256 / 2 ^ 255 = E / 2 ^ (255 - k) % 2 := by
  have e : (2 : Nat) ^ 256 = 2 ^ k * (2 ^ (255 - k) * 2) := by rw [← Nat.pow_succ, ← Nat.pow_add]; congr 1; omega
  have e2 : (2 : Nat) ^ 255 = 2 ^ k * 2 ^ (255 - k) := by rw [← Nat.pow_add]; congr 1; omega
  rw [e, e2, Nat.mul_comm E, Nat.mul_mod_mul_left, ← Nat.div_div_eq_div_mul, Nat.mul_div_cancel_left _ (Nat.pow_pos dE)]
  rw [Nat.mod_mul_right_div_self]
theorem next_div (E k : Nat) (hk : k < 256) : E / 2 ^ (256 - (k + 1)) = 2 * (E / 2 ^ (256 - k)) + E / 2 ^ (255 - k) % 2 := by
  rw [show 256 - (k + 1) = 255 - k by omega, show 256 - k = (255 - k) + 1 by omega, Nat.pow_succ, ← Nat.div_div_eq_div_mul]
  omega
section
variable {E : Nat} {X : Fp} {k : Nat} {p x : W5} {a b c d : UInt64}
theorem PowI.bit (h : PowI E X k p a b c d) (hk : k < 256) : (As d 63).toNat = E / 2 ^ (255 - k) % 2 := by
  rw [q4_top a b c d, h.q, ← top_bit E k hk]
theorem PowI.q' (h : PowI E X k p a b c d) : q4 (A2 a 1) (A2 b 1 ||| As a 63) (A2 c 1 ||| As b 63) (A2 d 1 ||| As c 63) = E * 2 ^ (k + 1) % 2 ^ 256 := by
  have e : E * 2 ^ (k + 1) = 2 * (E * 2 ^ k) := by rw [Nat.pow_succ, ← Nat.mul_assoc, Nat.mul_comm]
  rw [q4_shift, h.q, e]
  generalize E * 2 ^ k = m
  omega
theorem mulF_fit (p x : W5) : (mulF p x).fit := (carF_small _).fit
theorem PowI.even (h : PowI E X k p a b c d) (hE : E < 2 ^ 256) (hk : k < 256) (hb : ¬ (As d 63).toNat = 1) : PowI E X (k + 1) (mulF p p) (A2 a 1) (A2 b 1 ||| As a 63) (A2 c 1 ||| As b 63) (A2 d 1 ||| As c 63) := by
  have h1 := h.bit hk
  have h2 : E / 2 ^ (256 - (k + 1)) ≤ E := Nat.div_le_self _ _
  refine ⟨hk, mulF_fit _ _, ?_, h.q'⟩
  rw [next_div E k hk] at h2 ⊢
  rw [show E / 2 ^ (255 - k) % 2 = 0 by omega] at h2 ⊢
  rw [mulF_fe h.fit h.fit, h.val, Nat.add_zero, fpow_two oM]
theorem PowI.odd (h : PowI E X k p a b c d) (hE : E < 2 ^ 256) (hk : k < 256) (hx : x.fit) (hX : fe x.v = X) (hb : (As d 63).toNat = 1) : PowI E X (k + 1) (mulF (mulF p p) x) (A2 a 1) (A2 b 1 ||| As a 63) (A2 c 1 ||| As b 63) (A2 d 1 ||| As c 63) := by
  have h1 := h.bit hk
  have h2 : E / 2 ^ (256 - (k + 1)) ≤ E := Nat.div_le_self _ _
  refine ⟨hk, mulF_fit _ _, ?_, h.q'⟩
  rw [next_div E k hk] at h2 ⊢
  rw [show E / 2 ^ (255 - k) % 2 = 1 by omega] at h2 ⊢
  rw [mulF_fe (mulF_fit _ _) hx, mulF_fe h.fit h.fit, h.val, hX, fpow_succ oM, fpow_two oM]
theorem PowI.last (h : PowI E X 256 p a b c d) : fe p.v = C0 X E := by have := h.val; rwa [Nat.sub_self, Nat.pow_zero, Nat.div_one] at this
end
def onesB (f l : UInt8) : List UInt8 := ((List.replicate 32 255).set 0 f).set 31 l
theorem onesB_length (f l : UInt8) : (onesB f l).length = 32 := by simp [onesB]
theorem ones_step {k : Nat} (h : k < 32) : (List.replicate k (255 : UInt8) ++ List.replicate (32 - k) 0).set k 255 = List.replicate (k + 1) 255 ++ List.replicate (32 - (k + 1)) 0 := by
  rw [show 32 - k = (32 - (k + 1)) + 1 by omega, List.replicate_succ, List.set_append_right _ _ sP]
  simp [List.replicate_succ']
theorem ones_inv : Hw.le (onesB 235 127) = PF - 2 := by kernel_rfl
theorem ones_root : Hw.le (onesB 254 15) = (PF + 3) / 8 := by kernel_rfl
theorem ones_unit : Hw.le (onesB 251 31) = (PF - 1) / 4 := by kernel_rfl
def fRoot1 (X : Fp) : Fp := if C0 X ((PF + 3) / 8) * C0 X ((PF + 3) / 8) = X then C0 X ((PF + 3) / 8) else C0 X ((PF + 3) / 8) * C0 (fe 2) ((PF - 1) / 4)
def fRoot (X : Fp) : Fp × Bool := if fRoot1 X * fRoot1 X = X then ((if (fRoot1 X).val % 2 = 1 then -fRoot1 X else fRoot1 X), true) else (0, false)
theorem fb_zero : fb 0 = List.replicate 32 0 := by kernel_rfl
theorem fb_head (x : Fp) : (fb x).getD 0 0 = UInt8.ofNat x.val := rfl
theorem odd_byte (x : Fp) : decide ((((fb x).getD 0 0 &&& 1).toNat : Int) = 1) = decide (x.val % 2 = 1) := by
  have e : ((fb x).getD 0 0 &&& 1).toNat = x.val % 2 := by
    rw [fb_head, UInt8.toNat_and, show (1 : UInt8).toNat = 2 ^ 1 - 1 from rfl, Nat.and_two_pow_sub_one_eq_mod, UInt8.toNat_ofNat']
    omega
  rw [e]
  congr 1
  exact propext ⟨fun h => by omega, fun h => by omega⟩
theorem fb_dec (x y : Fp) : decide (fb x = fb y) = decide (x = y) := by
  rw [Bool.eq_iff_iff]; simp [fb_inj]
end Ed
end

section
namespace Hw
open Go Go.RowKit

theorem add8_eq (x y : UInt8) : IntKind.u8.wrap ((x.toNat : Int) + y.toNat) = ((x + y).toNat : Int) := by
  have := x.toNat_lt; have := y.toNat_lt
  rw [IntKind.wrap_u8, UInt8.toNat_add]; omega
theorem res_none {C : Cx} {fn : Func} {s : St} (hr : fn.results = #[]) : Res C fn s (.tuple #[]) := by
  intro a w r
  simp [results, hr]
section
variable {C : Cx} {ops : Array Oper} {rest : List (Nat × Oper)} {sl : List (Nat × Value)} {hp : List Blk} {Q : St → Prop} {c d : Nat} {ty : TypeId} {pos : String} {af : Array Edge} {g : Option (Nat × Bool)}
variable {xT yT : TypeId} {x y : Operand} {a b : Int} {p q : UInt8}
theorem Tr.add_u8 (hg : Am ops sl g = true) (hk : okD c d C.N = true) (hx : Ah sl x = some (u8 p)) (hy : Ah sl y = some (u8 q))
    (k : Tr C ops rest ⟨(d, u8 (p + q)) :: sl, hp⟩ Q) : Tr C ops ((c, ⟨some d, .binOp .add xT x y yT, ty, pos, af, g⟩) :: rest) ⟨sl, hp⟩ Q :=
  .bin hg hk hx hy (fun w => by simp only [binOp, Op.intArith, add8_eq]; rfl) k
variable {lo hi : Operand} {o i0 len : Nat} {E : TypeId}
theorem Tr.sliceArrLH {kl kh : IntKind} {l h : Int} {bb : Nat} (i j : Nat) (hg : Am ops sl g = true) (hk : okD c d C.N = true) (hx : Ah sl x = some (ptr bb o)) (hlo : Ah sl lo = some (.int kl l)) (hhi : Ah sl hi = some (.int kh h)) (hi' : l = i) (hj : h = j) (hij : i ≤ j) (hjl : j ≤ len) (hil : i < len) (hu : C.P.underlying xT = some (.array len E)) {sz : Nat} (hs : Sz C.P E sz)
    (k : Tr C ops rest ⟨(d, .slice (some ⟨bb, o + i * sz, none⟩) (j - i) (len - i)) :: sl, hp⟩ Q) : Tr C ops ((c, ⟨some d, .slice xT x (some lo) (some hi) none, ty, pos, af, g⟩) :: rest) ⟨sl, hp⟩ Q :=
  .pv hg hk ⟨by simpa [Known, Op.operands] using known3 hx hlo hhi, fun ρ hfi w => by
    have h1 := hfi x (by simp [Op.operands]); rw [hx] at h1
    have h2 := hfi lo (by simp [Op.operands]); rw [hlo] at h2
    have h3 := hfi hi (by simp [Op.operands]); rw [hhi] at h3
    simp only [Option.some.injEq] at h1 h2 h3
    subst hi'; subst hj
    have e : ¬ (len = i) := by omega
    have e1 : i ≤ len := by omega
    simp [execOp, Instr.sliceAt, ← h1, ← h2, ← h3, run_underlying hu, Instr.sureAddr, Instr.sliceBounds, Instr.sliceBound, asIntOf, Da hs, B3, e, e1, hij, hjl]⟩ k
theorem Tr.fieldN {fs : Array Field} {f n : Nat} {fd : Field} {td : TypeDesc} {cs : List Value} (r : List Value) (hg : Am ops sl g = true) (hk : okD c d C.N = true) (hx : Ah sl x = some (agg cs)) (hu : C.P.underlying xT = some (.struct fs)) (hf : fs[f]? = some fd) (hft : C.P.underlying fd.type = some td) (hp' : Ct td = false) (hs : Sz C.P fd.type n) (hr : (cs.drop fd.offset).take n = r)
    (k : Tr C ops rest ⟨(d, agg r) :: sl, hp⟩ Q) : Tr C ops ((c, ⟨some d, .field xT x f, ty, pos, af, g⟩) :: rest) ⟨sl, hp⟩ Q :=
  .pv hg hk ⟨known1 hx, fun ρ hfi w => by
    have h1 := hfi x (by simp [Op.operands]); rw [hx] at h1
    simp only [Option.some.injEq] at h1
    have h2 := C9 (w := w) hft hp' hs hr
    simp [execOp, Instr.field, ← h1, run_underlying hu, hf, agg, asAgg, h2]⟩ k
end
end Hw
end

section
namespace Hw
open Go Go.RowKit
section
variable {C : Cx} {fn : Func} {s : St}
end

def AccO (s : Sl) (bl : List Blk) (cells : List Value) (E : TypeId) (n : Nat) : Prop :=
  (s = Sl.nil ∧ bl = [] ∧ cells = [] ∧ n = 0) ∨ ∃ q o c m pre post, s = ⟨some ⟨q, o, none⟩, n, c⟩ ∧ n ≤ c ∧ cells.length = n ∧ pre.length = o ∧ (post = [] ∨ n = c) ∧ o + c ≤ m ∧ bl = [⟨q, pre ++ cells ++ post, E, m⟩]
section
variable {s : Sl} {bl : List Blk} {cells : List Value} {E : TypeId} {n : Nat}
theorem AccO.none : AccO Sl.nil [] [] E 0 := .inl ⟨rfl, rfl, rfl, rfl⟩
theorem AccO.num (h : AccO s bl cells E n) : s.n = n := by rcases h with ⟨rfl, _, _, rfl⟩ | ⟨q, o, c, m, pre, post, rfl, _⟩ <;> rfl
theorem AccO.len (h : AccO s bl cells E n) : cells.length = n := by rcases h with ⟨_, _, rfl, rfl⟩ | ⟨q, o, c, m, pre, post, _, _, h, _⟩; rfl; exact h
theorem AccO.cap (h : AccO s bl cells E n) : s.n ≤ s.c := by rcases h with ⟨rfl, _⟩ | ⟨q, o, c, m, pre, post, rfl, h, _⟩; exact Nat.le_refl _; exact h
theorem AccO.nilc (h : AccO s bl cells E n) (hp : s.p = .none) : s.c = 0 := by rcases h with ⟨rfl, _⟩ | ⟨q, o, c, m, pre, post, rfl, _⟩; rfl; cases hp
theorem AccO.see (h : AccO s bl cells E n) {w : World} (hw : Lies bl w) : SeesP w s.p cells := by
  rcases h with ⟨_, _, rfl, _⟩ | ⟨q, o, c, m, pre, post, rfl, _, h3, h4, _, _, rfl⟩
  · exact SeesP.nil
  · refine SeesP.of fun j v hj => ?_
    refine (hw _ (List.mem_singleton.2 rfl)).cell (o := o + j) (v := v) ?_
    show (pre ++ cells ++ post)[o + j]? = some v
    have hlt := (List.getElem?_eq_some_iff.1 hj).1
    rw [List.append_assoc, List.getElem?_append_right oM, h4, Nat.add_sub_cancel_left, List.getElem?_append_left hlt]
    exact hj
theorem AccO.pos (h : AccO s bl cells E n) (hn : 0 < n) : ∃ q o c m pre post, s = ⟨some ⟨q, o, .none⟩, n, c⟩ ∧ n ≤ c ∧ cells.length = n ∧ pre.length = o ∧ (post = [] ∨ n = c) ∧ o + c ≤ m ∧ bl = [⟨q, pre ++ cells ++ post, E, m⟩] := by
  rcases h with ⟨_, _, _, rfl⟩ | h
  · exact absurd hn dE
  · exact h
theorem Acc.off {c : Nat} (h : Acc s bl cells E n 1) : AccO s bl cells E n := by
  rcases h with ⟨rfl, rfl, rfl, rfl⟩ | ⟨q, c, rfl, h1, h2, rfl⟩
  · exact .inl ⟨rfl, rfl, rfl, rfl⟩
  · exact .inr ⟨q, 0, c, c * 1, [], [], rfl, h1, by omega, rfl, .inl rfl, by omega, by simp⟩
end
section
variable {C : Cx} {ops : Array Oper} {rest : List (Nat × Oper)} {sl : List (Nat × Value)} {hp hp' : List Blk} {Q : St → Prop} {c d : Nat} {ty : TypeId} {pos : String} {af : Array Edge} {g : Option (Nat × Bool)}
theorem Tr.appendO {x y : Operand} {s : Sl} {bl : List Blk} {n m by' c2 : Nat} {T tx E E2 : TypeId} {z : Value} {olds : List Value} {p : Option Addr} (news : List Value) (hg : Am ops sl g = true) (hc : Nat.beq c 4 = true) (hd : Nat.blt d C.N = true)
    (hx : Ah sl x = some s.v) (hy : Ah sl y = some (.slice p m c2)) (hu : C.P.underlying T = some (.slice E)) (hut : C.P.underlying tx = some (.slice E2)) (hs : Sz C.P E 1) (hz : Zr C.P E z) (hb : By C.P E by') (hzc : z.cells.size = 1)
    (hacc : AccO s bl olds E n) (hp1 : hp.Perm (bl ++ hp')) (hsee : ∀ w, HRep C hp w → SeesP w p news) (hm0 : 0 < m) (hpn : p = none → m = 0) (hcell : ∀ u ∈ news, isCell u = true)
    (hbig : n + m ≤ 1000000) (hfit : (n + m) * by' ≤ 140737488355328) (hnl : news.length = m)
    (k : ∀ s' bl', AccO s' bl' (olds ++ news) E (n + m) → Tr C ops rest ⟨(d, s'.v) :: sl, bl' ++ hp'⟩ Q) :
    Tr C ops ((c, ⟨some d, .call { callee := .builtin .append, args := #[x, y], argTypes := #[T, tx] }, ty, pos, af, g⟩) :: rest) ⟨sl, hp⟩ Q := by
  rcases hacc with ⟨rfl, rfl, rfl, rfl⟩ | ⟨b, o, cap, cm, pre, post, rfl, hnc, hol, hpre, hpo, hcm, rfl⟩
  · exact Tr.appendAcc news hg hc hd hx hy hu hut hs hz hb hzc Acc.none hp1 hsee hpn hcell hbig hfit oM (fun s' bl' h => k s' bl' (Acc.off (c := 0) h))
  · refine Tr.act (ρ := Sl × List Blk) (fun r => AccO r.1 r.2 (olds ++ news) E (n + m)) (fun r => r.1.v) (fun r => r.2 ++ hp') (nbeq' hc) (A8 hg) (C6 (nblt hd))
      ⟨by simpa [Known, Op.operands, Call.operands] using known2 hx hy, fun a w hf hh => ?_⟩ (fun r hr => k r.1 r.2 hr)
    have h1 := hf x (by simp [Op.operands, Call.operands]); rw [hx] at h1
    have h2 := hf y (by simp [Op.operands, Call.operands]); rw [hy] at h2
    simp only [Option.some.injEq, Sl.v] at h1 h2
    have hh' := hh.perm hp1
    obtain ⟨full, fr, hbk⟩ := hh'.cells _ List.mem_cons_self
    have hlt := (hh'.cells _ List.mem_cons_self).lt
    have hsz := hs
    unfold Sz at hs; unfold Zr at hz; unfold By at hb
    cases hi : C.P.info? E with
    | none => rw [hi] at hs; simp at hs
    | some i =>
      rw [hi] at hs hz hb
      simp only [Option.map_some, Option.some.injEq, Option.bind_some] at hs hz hb
      have hS : Src C.P i.size tx (.slice p m c2) m news w := Src.ofP hut (hsee w hh) hpn (by rw [hs, hnl, Nat.mul_one]) hcell
      unfold Oper.wp
      rcases Nat.lt_or_ge cap (n + m) with hr | hr
      · have hold : (Builtin.firstCells i.size n (.slice (some ⟨b, o, none⟩) n cap)).run C.P w.drew = .ok olds.toArray w.drew := by
          refine run_firstCells_some w.drew i.size n ⟨b, o, none⟩ n cap olds (by rw [hs]; omega) (fun j u hj => ?_)
          rw [B3]
          refine (hh'.cells _ List.mem_cons_self).cell (o := o + j) (v := u) ?_
          show (pre ++ olds ++ post)[o + j]? = some u
          have hlt2 := (List.getElem?_eq_some_iff.1 hj).1
          rw [List.append_assoc, List.getElem?_append_right oM, hpre, Nat.add_sub_cancel_left, List.getElem?_append_left hlt2]
          exact hj
        have hrun := run_append_grow_src (P := C.P) w T tx ty E i z hu hi hz (some ⟨b, o, none⟩) n cap olds hold _ m news hS hr oM (growslice_fits hr (by rw [hb]; exact hfit))
        have hge := grownCap_ge w (n + m) cap E
        have hex : (execOp a.eval ⟨some d, .call { callee := .builtin .append, args := #[x, y], argTypes := #[T, tx] }, ty, pos, af, g⟩).run C.P w = .ok (.value (.slice (some ⟨w.heap.size, 0, none⟩) (n + m) (grownCap w (n + m) cap E))) (w.drew.alloc (.cells ((olds ++ news).toArray ++ Builtin.zeroCells z.cells (grownCap w (n + m) cap E - (n + m))) E)) := by
          simp [execOp, resolve, invoke, builtin, ← h1, ← h2, hrun]
        rw [hex]
        have hnd : (hp'.map (·.n)).Nodup := by
          have := hh'.nodup
          simp only [List.cons_append, List.nil_append, List.map_cons, List.nodup_cons] at this
          exact this.2
        refine ⟨(⟨some ⟨w.heap.size, 0, none⟩, n + m, grownCap w (n + m) cap E⟩, [⟨w.heap.size, olds ++ news, E, grownCap w (n + m) cap E⟩]), .inr ⟨w.heap.size, 0, grownCap w (n + m) cap E, grownCap w (n + m) cap E, [], [], rfl, hge, by simp [hol, hnl], rfl, .inl rfl, by omega, by simp⟩, rfl, ?_⟩
        refine HRep.grown (out := [_]) (hh'.sub (fun x hx => List.mem_append_right _ hx) hnd) (Ret.pushD _ _ _ _ ?_ ?_)
        · have e : ∀ k, (Builtin.zeroCells z.cells k).size = k := fun k => by simp [Builtin.zeroCells, hzc]
          rw [Array.size_append, e, List.size_toArray, List.length_append]
          omega
        · simp
      · have hpo : post = [] := by
          rcases hpo with h | h
          · exact h
          · omega
        subst hpo
        have hsz2 := hbk.size
        simp only at hsz2
        have hst := run_storeCells (P := C.P) (b := b) (o := o + n) news 0 w full hbk.heap oM (by rw [hbk.size]; exact hbk.free) hcell
        simp only [Nat.add_zero] at hst
        have hap : (Builtin.append_ #[T, tx] ty #[.slice (some ⟨b, o, none⟩) n cap, .slice p m c2]).run C.P w = .ok (.slice (some ⟨b, o, none⟩) (n + m) cap) (setBlk w b (C8 full (o + n) news) E fr) := by
          have hc1 : n * i.size = n := by rw [hs, Nat.mul_one]
          rcases hS.kind with ⟨e', hk⟩ | hk <;> simp [Builtin.append_, run_underlying hu, run_underlying hk, Go.sizeOf, typeInfo, hi, hS.len, hr, hS.cells, B3, hst, hc1]
        have hex : (execOp a.eval ⟨some d, .call { callee := .builtin .append, args := #[x, y], argTypes := #[T, tx] }, ty, pos, af, g⟩).run C.P w = .ok (.value (.slice (some ⟨b, o, none⟩) (n + m) cap)) (setBlk w b (C8 full (o + n) news) E fr) := by
          simp [execOp, resolve, invoke, builtin, ← h1, ← h2, hap]
        rw [hex]
        refine ⟨(⟨some ⟨b, o, none⟩, n + m, cap⟩, [⟨b, pre ++ (olds ++ news) ++ [], E, cm⟩]), .inr ⟨b, o, cap, cm, pre, [], rfl, hr, by simp [hol, hnl], hpre, .inl rfl, hcm, rfl⟩, rfl, ?_⟩
        refine hh'.upd (.head (cs := pre ++ olds ++ [])) hlt (by rw [putAll_size]; exact hsz2) ?_ hbk.free
        refine prefix_iff.2 fun j u hj => ?_
        rw [Array.getElem?_toList, putAll_get _ _ _ _ oM]
        have hpl := hbk.pre
        simp only [List.append_nil] at hj hpl
        rcases Nat.lt_or_ge j (o + n) with hjn | hjn
        · rw [if_neg oM]
          rw [← List.append_assoc, List.getElem?_append_left (by simp [hpre, hol]; omega)] at hj
          simpa using prefix_iff.1 hpl j u hj
        · rw [← List.append_assoc, List.getElem?_append_right (by simp [hpre, hol]; omega)] at hj
          have e : j - (pre ++ olds).length = j - (o + n) := by simp [hpre, hol]
          rw [e] at hj
          have hlt3 : j - (o + n) < news.length := (List.getElem?_eq_some_iff.1 hj).1
          rw [if_pos oM]
          exact hj
theorem Tr.extractB {x : Operand} {vs : Array Value} {i : Nat} {b : Bool} (hg : Am ops sl g = true) (hk : okD c d C.N = true) (hx : Ah sl x = some (.tuple vs)) (hv : vs[i]? = some (.bool b))
    (kt : b = true → Tr C ops rest ⟨(d, .bool true) :: sl, hp⟩ Q) (kf : b = false → Tr C ops rest ⟨(d, .bool false) :: sl, hp⟩ Q) : Tr C ops ((c, ⟨some d, .extract x i, ty, pos, af, g⟩) :: rest) ⟨sl, hp⟩ Q := by
  cases b
  · exact Tr.eX hg hk hx hv (kf rfl)
  · exact Tr.eX hg hk hx hv (kt rfl)
end
end Hw
end

section
namespace Go.Proofs.YtpacobmjjjillaaGreat
open Go Hw

theorem scalar_modulus  : Meets Tryz.prog 167 [] [] (fun _ => True) (fun v out => v = agg (Af modW) ∧ out = []) := by
 intro W hW
 refine Ab Tryz.func167 J 2 Tryz.ntmps167 J (.sr (.alloc (cs := (Af (List.replicate 4 0))) J Zr157 J ?_))
 intro n0 hn0 hf0
 refine .nsr (.build (cs := Af modW) J J J (fun w => by kernel_rfl) ?_)
 refine .sA J J J J zB Sz157 (by (simp [modW_length]; done)) Z0 sP zU ?_
 refine .na (.ret (An ?_))
 refine ⟨_, [], Ao J J Y157 J Sz157 Z0 (by simp [modW_length]), sP, sP, ?_, rfl⟩
 rfl

theorem scalar_doubled (w : List UInt64) (b : UInt64) (hw : w.length = 4) : Meets Tryz.prog 216 [agg (Af w), u64 b] [] (fun _ => True) (fun v out => v = agg (Af (dblW w b)) ∧ out = []) := by
 intro W hW
 refine Ab Tryz.func216 J 32 Tryz.ntmps216 J (.sr (.boxA J J ?_))
 intro n2 hn2 hf2
 refine .alloc (cs := (Af (List.replicate 4 0))) J Zr157 J ?_
 intro n4 hn4 hf4
 refine .nsr (.i1 J J J J Y157 Ap 0 J dE (.load1 J J J Y22 J Z1 (by exact A3 oM) ?_))
 refine .shl_u64 J J J J 1 J dE (.i1 J J J J Y157 Ap 1 J dE (.load1 J J J Y22 J Z1 (by exact A3 oM) ?_))
 refine .shr_u64 J J J J 63 J dE (.or_u64 J J J J (.i1 J J J J Y157 Ap 1 J dE (.load1 J J J Y22 J Z1 (by exact A3 oM) ?_)))
 refine .shl_u64 J J J J 1 J dE (.i1 J J J J Y157 Ap 2 J dE (.load1 J J J Y22 J Z1 (by exact A3 oM) ?_))
 refine .shr_u64 J J J J 63 J dE (.or_u64 J J J J (.i1 J J J J Y157 Ap 2 J dE (.load1 J J J Y22 J Z1 (by exact A3 oM) ?_)))
 refine .shl_u64 J J J J 1 J dE (.i1 J J J J Y157 Ap 3 J dE (.load1 J J J Y22 J Z1 (by exact A3 oM) ?_))
 refine .shr_u64 J J J J 63 J dE (.or_u64 J J J J (.i1 J J J J Y157 Ap 3 J dE (.load1 J J J Y22 J Z1 (by exact A3 oM) ?_)))
 refine .shl_u64 J J J J 1 J dE (.m J J J (.or_u64 J J J J (.build (cs := Af (dblW w b)) J J J (fun w => by kernel_rfl) ?_)))
 refine .sA J J J J zB Sz157 (by (simp [dblW_length]; done)) Z0 sP zU ?_
 refine .na (.ret (An ?_))
 refine ⟨_, [], Ao J J Y157 J Sz157 Z0 (by simp [dblW_length]), sP, sP, ?_, rfl⟩
 rfl

theorem scalar_load (a : List UInt8) (ha : a.length = 32) : Meets Tryz.prog 162 [agg (Aa a)] [] (fun _ => True) (fun v out => v = agg (Af (ldW a 32)) ∧ out = []) := by
 intro W hW
 refine Ab Tryz.func162 J 24 Tryz.ntmps162 J (.sr (.boxA J J ?_))
 intro n1 hn1 hf1
 refine .alloc (cs := (Af (List.replicate 4 0))) J Zr157 J ?_
 intro n2 hn2 hf2
 refine .nsr (.alloc (cs := (Af (List.replicate 4 0))) J Zr157 J ?_)
 intro n3 hn3 hf3
 refine .na (.seq (.sr (.m J J J (.na (.block (.loop (ι := Nat) (fun k => ⟨[(1, ptr n1 0), (2, ptr n2 0), (3, ptr n3 0), (5, i64 (k : Int))], [⟨n3, Af (ldW a k), 157, 4⟩, ⟨n2, Af (List.replicate 4 0), 157, 4⟩, ⟨n1, Aa a, 77, (Aa a).length⟩]⟩) (fun k => k ≤ 32) (fun k => 32 - k) (0) ?_ ?_ ?_))))))
 · omega
 · exact Ac (wk1 rfl (wk1 rfl (wk1 rfl (wk1 rfl wk0)))) (wh1 Z0 (wh1 Z1 (wh1 Z2 wh0))) nD
 ·
  rintro k hi
  have hlk := ldW_length a k
  refine .sr (.lss J J J J J (.na (.seq (.condP J (fun hc0 => ?_) (fun hc0 => ?_)))))
  ·
   refine .skip (Ae (.seq (.block (.sr (.m J J J (.a J J J (.na (.draw [(0, 0), (0, 1), (0, 2), (0, 3), (0, 4), (1, 5), (0, 6), (0, 7), (0, 8), (0, 9), (1, 10), (0, 11), (0, 12), (0, 13), (4, 14)] Ar zK (.m J J J (.quo_i64 J J J J oM (.m J J J (.quo_i64 J J J J oM (.i1 J J J J Y157 Ap (k / 8) oM oM (.load1 J J J Y22 J Z0 (by exact A3 oM) ?_))))))))))))))
   refine .shl_u64 J J J J 8 J dE (.m J J J (.sub_i64 J J J J oM (.i1 J J J J Y77 Sz5 (31 - k) oM oM (.load1 J J J Y5 J Z2 zG ?_))))
   refine .conv J J J Y5 Y22 (Cu _) (.or_u64 J J J J (.i1 J J J J Y157 Ap (k / 8) oM oM (.s1 J J J J J Ap Z0 (by (simp [ldW_length]; omega)) (by exact A9 _ _ _) zU ?_)))
   refine .nil (Bj (Ae (.region (.aI J J J J oM (.m J J J (.na ?_))))))
   exact ⟨k + 1, by omega, by omega, Ac (wk1 rfl (wk1 rfl (wk1 rfl (wk1 rfl wk0)))) (wh1 Z0 (wh1 Z1 (wh1 Z2 wh0))) nD⟩
  ·
   obtain rfl : k = 32 := by omega
   refine .exit (A1 (A1 (B5 (Ae (.sr (.lA J J J Y157 J Sz157 Z0 (by (simp [ldW_length]; done)) ?_))))))
   refine .sA J J J J zB Sz157 (by (simp [ldW_length]; done)) Z1 sP zV ?_
   refine .na (.ret (An ?_))
   refine ⟨_, [], Ao J J Y157 J Sz157 Z1 (by simp [ldW_length]), sP, sP, ?_, rfl⟩
   rfl

theorem scalar_store (w : List UInt64) (hw : w.length = 4) : Meets Tryz.prog 218 [agg (Af w)] [] (fun _ => True) (fun v out => v = agg (Aa (stB w 32)) ∧ out = []) := by
 intro W hW
 refine Ab Tryz.func218 J 23 Tryz.ntmps218 J (.sr (.boxA J J ?_))
 intro n1 hn1 hf1
 refine .alloc (cs := (Aa (List.replicate 32 0))) J Bs J ?_
 intro n2 hn2 hf2
 refine .nsr (.alloc (cs := (Aa (List.replicate 32 0))) J Bs J ?_)
 intro n3 hn3 hf3
 refine .na (.seq (.sr (.m J J J (.na (.block (.loop (ι := Nat) (fun k => ⟨[(1, ptr n1 0), (2, ptr n2 0), (3, ptr n3 0), (5, i64 (k : Int))], [⟨n3, Aa (stB w k), 77, 32⟩, ⟨n2, Aa (List.replicate 32 0), 77, 32⟩, ⟨n1, Af w, 157, (Af w).length⟩]⟩) (fun k => k ≤ 32) (fun k => 32 - k) (0) ?_ ?_ ?_))))))
 · omega
 · exact Ac (wk1 rfl (wk1 rfl (wk1 rfl (wk1 rfl wk0)))) (wh1 Z0 (wh1 Z1 (wh1 Z2 wh0))) nD
 ·
  rintro k hi
  have hlk := stB_length w k
  refine .sr (.lss J J J J J (.na (.seq (.condP J (fun hc0 => ?_) (fun hc0 => ?_)))))
  ·
   refine .skip (Ae (.seq (.block (.sr (.m J J J (.a J J J (.na (.region (.m J J J (.sub_i64 J J J J oM (.m J J J (.quo_i64 J J J J oM (.i1 J J J J Y157 Ap (k / 8) oM oM (.load1 J J J Y22 J Z2 (by exact A3 oM) ?_))))))))))))))
   refine .m J J J (.rem_i64 J J J J oM (.mul_i64 J J J J oM (.sub_i64 J J J J oM (.shr_u64 J J J J (56 - 8 * (k % 8)) oM oM (.conv J J J Y22 Y5 (Cm _) (.i1 J J J J Y77 Sz5 (31 - k) oM oM (.s1 J J J J J Sz5 Z0 (by (simp [stB_length]; omega)) (by exact Bb _ _ _) zU ?_)))))))
   refine .nil (Bj (Ae (.region (.aI J J J J oM (.m J J J (.na ?_))))))
   exact ⟨k + 1, by omega, by omega, Ac (wk1 rfl (wk1 rfl (wk1 rfl (wk1 rfl wk0)))) (wh1 Z0 (wh1 Z1 (wh1 Z2 wh0))) nD⟩
  ·
   obtain rfl : k = 32 := by omega
   refine .exit (A1 (A1 (B5 (Ae (.sr (.lA J J J Y77 J Ad Z0 (by (simp [stB_length]; done)) ?_))))))
   refine .sA J J J J zB Ad (by (simp [stB_length]; done)) Z1 sP zV ?_
   refine .na (.ret (An ?_))
   refine ⟨_, [], Ao J J Y77 J Ad Z1 (by simp [stB_length]), sP, sP, ?_, rfl⟩
   rfl

theorem sub64_run (x y b : UInt64) (hb : b.toNat ≤ 1) (w : World) : (callFunc 241 [u64 x, u64 y, u64 b].toArray).run Tryz.prog w = .ok (.value (.tuple #[u64 (w64 (x.toNat + 2 ^ 64 - y.toNat - b.toNat)), u64 (if x.toNat < y.toNat + b.toNat then 1 else 0)])) w := by
  rw [run_callFunc_extern Tryz.func241 zK zK zK (e := sub64E) zK]
  have h : (sub64E [u64 x, u64 y, u64 b].toArray).run Tryz.prog w = .ok (.tuple #[.int .u64 (((x.toNat + 18446744073709551616 - y.toNat - b.toNat) % 18446744073709551616 : Nat) : Int), .int .u64 ((if x.toNat < y.toNat + b.toNat then 1 else 0 : Nat) : Int)]) w := by
    have : b.toNat = 0 ∨ b.toNat = 1 := by omega
    rcases this with h | h <;> simp only [u64, h] <;> rfl
  rw [h]
  simp only [Result.andThen, u64, Bl]
  congr 5
  split <;> rfl
theorem add64_run (x y b : UInt64) (hb : b.toNat ≤ 1) (w : World) : (callFunc 164 [u64 x, u64 y, u64 b].toArray).run Tryz.prog w = .ok (.value (.tuple #[u64 (w64 (x.toNat + y.toNat + b.toNat)), u64 (w64 ((x.toNat + y.toNat + b.toNat) / 2 ^ 64))])) w := by
  rw [run_callFunc_extern Tryz.func164 zK zK zK (e := add64Entry) zK]
  have hx := x.toNat_lt; have hy := y.toNat_lt
  have h := run_add64 (P := Tryz.prog) (x.toNat : Int) y.toNat b.toNat oM oM oM oM w
  have e : [u64 x, u64 y, u64 b].toArray = #[.int .u64 x.toNat, .int .u64 y.toNat, .int .u64 b.toNat] := rfl
  have e1 : ((x.toNat : Int) + y.toNat + b.toNat) % 18446744073709551616 = ((w64 (x.toNat + y.toNat + b.toNat)).toNat : Int) := by rw [Bl]; omega
  have e2 : ((x.toNat : Int) + y.toNat + b.toNat) / 18446744073709551616 = ((w64 ((x.toNat + y.toNat + b.toNat) / 2 ^ 64)).toNat : Int) := by rw [Bl]; omega
  rw [e, h, e1, e2]
  rfl

theorem isNaN_u64 (x : UInt64) : Meets Tryz.prog 144 [u64 x] [] (fun _ => True) (fun v out => v = .bool false ∧ out = []) := by
 intro W hW
 refine Ab Tryz.func144 J 6 Tryz.ntmps144 J (.sr (.a J J J (.nsr (.m J J J (.m J J J (.nei J J J J (show (!decide _) = false from congrArg not (decide_eq_true (rfl))) (.a J J J (.na (.ret (An ?_))))))))))
 refine ⟨_, [], Ag J J, sP, sP, ?_, rfl⟩
 rfl

theorem cmp_u64 (x y : UInt64) : Meets Tryz.prog 82 [u64 x, u64 y] [] (fun _ => True) (fun v out => v = i64 (cmp1 x y) ∧ out = []) := by
 intro W hW
 refine Ab Tryz.func82 J 20 Tryz.ntmps82 J (.sr (.a J J J (.nsr (.m J J J (.cV J J J J Body144 (isNaN_u64 _) tV (.a J J J (.nsr (.m J J J (.cV J J J J Body144 (isNaN_u64 _) tV (.a J J J (.na (.seq (.sr (.m J J J (.na (.cond_f J (rfl) (.skip (Ae (.seq (.sr (.m J J J (.na (.cond_f J (rfl) (.skip (Ae (.seq (.sr (.m J J J (.m J J J (.lss J J J J J (.na (.condP J (fun hc3 => ?_) (fun hc3 => ?_)))))))))))))))))))))))))))))))))
 ·
  refine .sr (.a J J J (.na (.ret (Bg (An ?_)))))
  refine ⟨_, [], Ag J J, sP, sP, ?_, rfl⟩
  unfold cmp1
  rw [if_pos oM]
 ·
  refine .skip (Ae (.seq (.sr (.m J J J (.m J J J (.gtr J J J J J (.na (.condP J (fun hc4 => ?_) (fun hc4 => ?_)))))))))
  ·
   refine .sr (.a J J J (.na (.ret (Bg (An ?_)))))
   refine ⟨_, [], Ag J J, sP, sP, ?_, rfl⟩
   unfold cmp1
   rw [if_neg oM, if_pos oM]
  ·
   refine .skip (Ae (.sr (.a J J J (.na (.ret (An ?_))))))
   refine ⟨_, [], Ag J J, sP, sP, ?_, rfl⟩
   unfold cmp1
   rw [if_neg oM, if_neg oM]

theorem cmpFunc_u64 (b1 o1 c1 b2 o2 c2 n : Nat) (xs ys : List UInt64) (hx : xs.length = n) (hy : ys.length = n) (hn : n ≤ 1000000) : Meets Tryz.prog 219 [.slice (some ⟨b1, o1, none⟩) n c1, .slice (some ⟨b2, o2, none⟩) n c2, .func (.func 82) #[] #[]] [] (fun W => Cc W b1 o1 (Af xs) ∧ Cc W b2 o2 (Af ys)) (fun v out => v = i64 (cmpW xs ys) ∧ out = []) := by
 intro W hW
 refine Ab Tryz.func219 J 39 Tryz.ntmps219 J (.sr (.a J J J (.na (.seq (.sr (.m J J J (.lenSl J J J Y159 (.m J J J (.na (.block (.loop (ι := Nat) (fun k => ⟨[(0, .slice (some ⟨b1, o1, none⟩) n c1), (1, .slice (some ⟨b2, o2, none⟩) n c2), (2, .func (.func 82) #[] #[]), (11, .slice (some ⟨b1, o1, none⟩) n c1), (12, i64 (n : Int)), (13, i64 (k : Int))], []⟩) (fun k => k ≤ n ∧ ∀ j, j < k → xs.getD j 0 = ys.getD j 0) (fun k => n - k) (0) ?_ ?_ ?_)))))))))))
 · exact ⟨by omega, fun j hj => by omega⟩
 · exact Ac (wk1 rfl (wk1 rfl (wk1 rfl (wk1 rfl (wk1 rfl (wk1 rfl wk0)))))) wh0 nD
 ·
  rintro k ⟨hk, hi⟩
  refine .sr (.lss J J J J J (.na (.seq (.condP J (fun hc0 => ?_) (fun hc0 => ?_)))))
  ·
   refine .skip (Ae (.seq (.block (.sr (.m J J J (.idxSlO J J J J Y159 Ap _ J oM (.loadE J J J Y22 J sP (hW.1 _ _ (A3 oM)) (.a J J J (.a J J J (.na (.seq (.sr (.m J J J (.m J J J (.lenSl J J J Y159 (.geq J J J J J (.na (.cond_f J (by simp; omega) ?_))))))))))))))))))
   refine .skip (Ae (.sr (.m J J J (.m J J J (.idxSlO J J J J Y159 Ap _ J oM (.loadE J J J Y22 J sP (hW.2 _ _ (A3 oM)) (.a J J J (.nsr (.m J J J (.m J J J (.m J J J (.cV J J J J Body82 (cmp_u64 _ _) tV (.a J J J (.nsr (.m J J J (.nei J J J J J (.na (.condNP J (fun hc2 => ?_) (fun hc2 => ?_)))))))))))))))))))
   ·
    refine .sr (.m J J J (.a J J J (.na (.ret (bl_r (Bg (Bg (bl_r (Bg (An ?_))))))))))
    refine ⟨_, [], Ag J J, sP, sP, ?_, rfl⟩
    exact congrArg i64 (cmpW_at _ _ _ hi oM oM hc2).symm
   ·
    refine .skip (Bj (Ae (.region (.aI J J J J oM (.m J J J (.na ?_))))))
    exact ⟨k + 1, ⟨by omega, fun j hj => if h : j < k then hi j h else (show j = k by omega) ▸ cmp1_eq hc2⟩, by omega, Ac (wk1 rfl (wk1 rfl (wk1 rfl (wk1 rfl (wk1 rfl (wk1 rfl wk0)))))) wh0 nD⟩
  ·
   obtain rfl : k = n := by omega
   refine .exit (A1 (A1 (B5 (Ae (.seq (.sr (.m J J J (.lenSl J J J Y159 (.m J J J (.lenSl J J J Y159 (.lss J J J J J (.na (.cond_f J sP (.skip (Ae (.sr (.a J J J (.na (.ret (An ?_))))))))))))))))))))
   refine ⟨_, [], Ag J J, sP, sP, ?_, rfl⟩
   exact congrArg i64 (cmpW_all _ _ oM (by rw [hx]; exact hi)).symm

theorem scalar_below (w m : List UInt64) (hw : w.length = 4) (hm : m.length = 4) : Meets Tryz.prog 166 [agg (Af w), agg (Af m)] [] (fun _ => True) (fun v out => v = .bool (decide (wv w < wv m)) ∧ out = []) := by
 intro W hW
 refine Ab Tryz.func166 J 9 Tryz.ntmps166 J (.sr (.boxA J J ?_))
 intro n2 hn2 hf2
 refine .boxA J J ?_
 intro n3 hn3 hf3
 refine .a J J J (.na (.seq (.draw [(0, 0), (0, 1), (3, 2), (0, 3), (0, 4)] Ar zK (.sliceArr J J J Y157 Ap (.sliceArr J J J Y157 Ap (.cV J J J J Body219 (cmpFunc_u64 _ _ _ _ _ _ 4 w m hw hm oM) (fun W h => ⟨Ak h Z1, Ak h Z0⟩) ?_))))))
 refine .lss J J J J J (.a J J J (.na (.ret (An ?_))))
 refine ⟨_, [], Ag J J, sP, sP, ?_, rfl⟩
 exact congrArg Value.bool (by simp only [cmpW_lt hw hm])

theorem scalar_minus (w m : List UInt64) (hw : w.length = 4) (hm : m.length = 4) : Meets Tryz.prog 217 [agg (Af w), agg (Af m)] [] (fun _ => True) (fun v out => v = agg (Af (mnsW w m 4).1) ∧ out = []) := by
 intro W hW
 refine Ab Tryz.func217 J 25 Tryz.ntmps217 J (.sr (.boxA J J ?_))
 intro n2 hn2 hf2
 refine .boxA J J ?_
 intro n3 hn3 hf3
 refine .alloc (cs := (Af (List.replicate 4 0))) J Zr157 J ?_
 intro n4 hn4 hf4
 refine .nsr (.a J J (show Ah _ _ = some (u64 0) from rfl) (.na (.seq (.sr (.a J J J (.na (.block (.loop (ι := Nat) (fun k => ⟨[(2, ptr n2 0), (3, ptr n3 0), (4, ptr n4 0), (5, u64 (mnsW w m k).2), (6, i64 (3 - (k : Int)))], [⟨n4, Af (List.replicate 4 0), 157, 4⟩, ⟨n3, Af m, 157, (Af m).length⟩, ⟨n2, Af (mnsW w m k).1, 157, (Af w).length⟩]⟩) (fun k => k ≤ 4) (fun k => 4 - k) (0) ?_ ?_ ?_))))))))
 · omega
 · exact Ac (wk1 rfl (wk1 rfl (wk1 rfl (wk1 rfl (wk1 rfl wk0))))) (wh1 Z0 (wh1 Z1 (wh1 Z2 wh0))) nD
 ·
  rintro k hi
  have hl := mnsW_length w m k
  refine .seq (.sr (.m J J J (.geq J J J J J (.na (.condP J (fun hc0 => ?_) (fun hc0 => ?_))))))
  ·
   have hk4 : k < 4 := by omega
   refine .skip (Ae (.seq (.block (.draw [(0, 0), (0, 1), (0, 2), (1, 3), (0, 4), (0, 5), (1, 6), (0, 7), (0, 8), (0, 9), (0, 10), (0, 11), (0, 12), (4, 13), (0, 14)] Ar zK (.m J J J (.m J J J (.i1 J J J J Y157 Ap (3 - k) oM oM (.load1 J J J Y22 J Z2 (by exact A3 oM) ?_))))))))
   refine .m J J J (.i1 J J J J Y157 Ap (3 - k) oM oM (.load1 J J J Y22 J Z1 (by exact A3 oM) ?_))
   refine .m J J J (.ext J J J J (sub64_run _ _ _ (mnsW_borrow w m k)) (.m J J J (.eX J J J J (.eX J J J J (.i1 J J J J Y157 Ap (3 - k) oM oM (.s1 J J J J J Ap Z2 (by (simp [mnsW_length, hw]; omega)) (by exact A9 _ _ _) (by exact upd2) ?_))))))
   refine .a J J J (.nil (Bj (Ae (.region (.m J J J (.sub_i64 J J J J oM (.a J J J (.na ?_))))))))
   exact ⟨k + 1, by omega, by omega, Ac (wk1 rfl (wk1 rfl (wk1 rfl (wk1 rfl (wk1 (by rw [show (3 - ((k + 1 : Nat) : Int)) = 3 - (k : Int) - 1 by omega]; rfl) wk0))))) (wh1 Z0 (wh1 Z1 (wh1 Z2 wh0))) nD⟩
  ·
   obtain rfl : k = 4 := by omega
   refine .exit (A1 (A1 (B5 (Ae (.sr (.lA J J J Y157 J Sz157 Z2 (by (simp [mnsW_length, hw]; done)) ?_))))))
   refine .sA J J J J zB Sz157 (by (simp [mnsW_length, hw]; done)) Z0 sP zU ?_
   refine .na (.ret (An ?_))
   refine ⟨_, [], Ao J J Y157 J Sz157 Z0 (by simp [mnsW_length, hw]), sP, sP, ?_, rfl⟩
   rfl

theorem mul64_ok (x y : UInt64) : Meets Tryz.prog 163 [u64 x, u64 y] [] (fun _ => True) (fun v out => v = .tuple #[u64 (mulHi x y), u64 (x * y)] ∧ out = []) := by
 intro W hW
 refine Ab Tryz.func163 J 51 Tryz.ntmps163 J (.sr (.a J J (show Ah _ _ = some (u64 0) from rfl) (.a J J (show Ah _ _ = some (u64 0) from rfl) (.nsr (.m J J J (.and_u64 J J J (show Ah _ _ = some (u64 4294967295) from rfl) (.a J J J (.nsr (.m J J J (.shr_u64 J J J J 32 J dE (.a J J J (.nsr (.m J J J (.and_u64 J J J (show Ah _ _ = some (u64 4294967295) from rfl) (.a J J J (.nsr (.m J J J (.shr_u64 J J J J 32 J dE (.a J J J (.nsr (.m J J J (.m J J J (.mul_u64 J J J J (.a J J J (.nsr (.m J J J (.m J J J (.mul_u64 J J J J (.m J J J (.shr_u64 J J J J 32 J dE (.add_u64 J J J J (.a J J J (.nsr (.m J J J (.and_u64 J J J (show Ah _ _ = some (u64 4294967295) from rfl) (.a J J J (.nsr (.m J J J (.shr_u64 J J J J 32 J dE (.a J J J (.nsr (.m J J J (.m J J J (.m J J J (.mul_u64 J J J J (.add_u64 J J J J (.a J J J (.nsr (.m J J J (.m J J J (.mul_u64 J J J J (.m J J J (.add_u64 J J J J (.m J J J (.shr_u64 J J J J 32 J dE (.add_u64 J J J J (.a J J J (.nsr (.m J J J (.m J J J (.mul_u64 J J J J (.a J J J (.na (.ret (An ?_)))))))))))))))))))))))))))))))))))))))))))))))))))))))))))))))))
 refine ⟨_, [], res_tmp2 J J J, sP, sP, ?_, rfl⟩
 rfl

theorem scalar_load_n (a : List UInt8) (ha : a.length = 32) : Meets Tryz.prog 162 [agg (Aa a)] [] (fun _ => True) (fun v out => v = agg (Af (A6 (le a))) ∧ out = []) := by
  rw [← ldW_eq ha]; exact scalar_load a ha
theorem scalar_store_n (n : Nat) : Meets Tryz.prog 218 [agg (Af (A6 n))] [] (fun _ => True) (fun v out => v = agg (Aa (leb 32 n)) ∧ out = []) := by
  rw [← stB_eq n]; exact scalar_store (A6 n) rfl
theorem scalar_modulus_n : Meets Tryz.prog 167 [] [] (fun _ => True) (fun v out => v = agg (Af (A6 L)) ∧ out = []) := by
  rw [← modW_eq]; exact scalar_modulus
theorem scalar_doubled_n (n : Nat) (b : UInt64) (hb : b.toNat ≤ 1) : Meets Tryz.prog 216 [agg (Af (A6 n)), u64 b] [] (fun _ => True) (fun v out => v = agg (Af (A6 (2 * n + b.toNat))) ∧ out = []) := by
  rw [← dblW_eq n b hb]; exact scalar_doubled (A6 n) b rfl
theorem scalar_below_n (n m : Nat) (hn : n < 2 ^ 256) (hm : m < 2 ^ 256) : Meets Tryz.prog 166 [agg (Af (A6 n)), agg (Af (A6 m))] [] (fun _ => True) (fun v out => v = .bool (decide (n < m)) ∧ out = []) := by
  have := scalar_below (A6 n) (A6 m) rfl rfl
  rw [wv_words4, wv_words4, Nat.mod_eq_of_lt hn, Nat.mod_eq_of_lt hm] at this
  exact this
theorem scalar_minus_n (n m : Nat) (hn : n < 2 ^ 256) (hm : m ≤ n) : Meets Tryz.prog 217 [agg (Af (A6 n)), agg (Af (A6 m))] [] (fun _ => True) (fun v out => v = agg (Af (A6 (n - m))) ∧ out = []) := by
  have := scalar_minus (A6 n) (A6 m) rfl rfl
  rw [mnsW_eq rfl rfl, wv_words4, wv_words4, Nat.mod_eq_of_lt hn, Nat.mod_eq_of_lt (Nat.lt_of_le_of_lt hm hn)] at this
  have e : A6 (n + 2 ^ 256 - m) = A6 (n - m) := by rw [← words4_mod, show (n + 2 ^ 256 - m) % 2 ^ 256 = (n - m) % 2 ^ 256 by omega, words4_mod]
  rw [← e, ← words4_mod n, Nat.mod_eq_of_lt hn]
  exact this
theorem bit_le (x : UInt64) (n : Nat) : (As x n &&& 1).toNat = x.toNat / 2 ^ n % 2 := by
  rw [UInt64.toNat_and, A7]
  exact Nat.and_two_pow_sub_one_eq_mod _ 1
theorem words4_start (xs : List UInt64) : A6 (wv (List.take 0 xs) % L) = List.replicate 4 0 := by
  rw [List.take_zero]; decide
theorem res_bd (m : Nat) (x : UInt64) (n : Nat) (h : m < L) : 2 * m + (As x n &&& 1).toNat < 2 ^ 256 := by
  have hL : L < 2 ^ 254 := by decide
  rw [bit_le]; omega

theorem scalar_residue (b o c n : Nat) (xs : List UInt64) (hx : xs.length = n) (hn : n ≤ 1000000) : Meets Tryz.prog 165 [.slice (some ⟨b, o, none⟩) n c] [] (fun W => Cc W b o (Af xs)) (fun v out => v = agg (Aa (leb 32 (wv xs % L))) ∧ out = []) := by
 intro W hW
 have hL : L < 2 ^ 256 := by decide
 refine Ab Tryz.func165 J 35 Tryz.ntmps165 J (.sr (.alloc (cs := (Aa (List.replicate 32 0))) J Bs J ?_))
 intro n2 hn2 hf2
 refine .nsr (.alloc (cs := (Af (List.replicate 4 0))) J Zr157 J ?_)
 intro n3 hn3 hf3
 refine .nsr (.cV J J J J Body167 (scalar_modulus_n) tV (.alloc (cs := (Af (List.replicate 4 0))) J Zr157 J ?_))
 intro n4 hn4 hf4
 refine .sA J J J J zB Sz157 (by (simp [Bd]; done)) Z0 sP zU ?_
 refine .na (.seq (.sr (.m J J J (.lenSl J J J Y159 (.m J J J (.na (.block (.loop (ι := Nat) (fun k => ⟨[(2, ptr n2 0), (3, ptr n3 0), (4, ptr n4 0), (9, .slice (some ⟨b, o, none⟩) n c), (10, i64 (n : Int)), (11, i64 (k : Int))], [⟨n4, Af (A6 L), 157, 4⟩, ⟨n3, Af (A6 (wv (xs.take k) % L)), 157, 4⟩, ⟨n2, Aa (List.replicate 32 0), 77, 32⟩]⟩) (fun k => k ≤ n) (fun k => n - k) (0) ?_ ?_ ?_))))))))
 · omega
 · exact Ac (wk1 rfl (wk1 rfl (wk1 rfl (wk1 rfl (wk1 rfl (wk1 rfl wk0)))))) (wh1 Z0 (wh1 (by rw [words4_start]; exact mem1) (wh1 Z2 wh0))) nD
 ·
  rintro k hi
  refine .sr (.lss J J J J J (.na (.seq (.condP J (fun hc0 => ?_) (fun hc0 => ?_)))))
  ·
   refine .skip (Ae (.seq (.block (.sr (.idxSlO J J J J Y159 Ap _ J oM (.loadE J J J Y22 J sP (hW _ _ (A3 oM)) (.a J J J (.nsr (.a J J J (.na (.block (.loop (ι := Nat) (fun t => ⟨[(2, ptr n2 0), (3, ptr n3 0), (4, ptr n4 0), (6, u64 (xs.getD k 0)), (7, i64 (63 - (t : Int))), (9, .slice (some ⟨b, o, none⟩) n c), (10, i64 (n : Int)), (11, i64 (k : Int))], [⟨n4, Af (A6 L), 157, 4⟩, ⟨n3, Af (A6 ((wv (xs.take k) * 2 ^ (t) + (xs.getD k 0).toNat / 2 ^ (64 - (t))) % L)), 157, 4⟩, ⟨n2, Aa (List.replicate 32 0), 77, 32⟩]⟩) (fun t => t ≤ 64) (fun t => 64 - t) (0) ?_ ?_ ?_))))))))))))
   · omega
   · exact Ac (wk1 rfl (wk1 rfl (wk1 rfl (wk1 rfl (wk1 rfl (wk1 rfl (wk1 rfl (wk1 rfl wk0)))))))) (wh1 Z0 (wh1 (by rw [Nat.pow_zero, Nat.mul_one, Nat.div_eq_of_lt (UInt64.toNat_lt _), Nat.add_zero]; exact mem1) (wh1 Z2 wh0))) nD
   ·
    rintro t hi
    refine .seq (.sr (.m J J J (.geq J J J J J (.na (.condP J (fun hc1 => ?_) (fun hc1 => ?_))))))
    ·
     have ht : t < 64 := by omega
     have hmL : (wv (xs.take k) * 2 ^ t + (xs.getD k 0).toNat / 2 ^ (64 - t)) % L < L := Nat.mod_lt _ dE
     refine .skip (Ae (.join (ι := Unit) (fun _u => ⟨[(2, ptr n2 0), (3, ptr n3 0), (4, ptr n4 0), (6, u64 (xs.getD k 0)), (7, i64 (63 - (t : Int))), (9, .slice (some ⟨b, o, none⟩) n c), (10, i64 (n : Int)), (11, i64 (k : Int))], [⟨n4, Af (A6 L), 157, 4⟩, ⟨n3, Af (A6 ((wv (xs.take k) * 2 ^ (t + 1) + (xs.getD k 0).toNat / 2 ^ (64 - (t + 1))) % L)), 157, 4⟩, ⟨n2, Aa (List.replicate 32 0), 77, 32⟩]⟩) (fun _u => True) ?_ ?_))
     ·
      refine .block (.seq (.draw [(1, 0), (0, 1), (0, 2), (0, 3), (0, 4), (3, 5), (4, 6)] Ar zK (.lA J J J Y157 J Sz157 Z1 (by (simp [Bd]; done)) ?_)))
      refine .m J J J (.m J J J (.shr_u64 J J J J (63 - t) oM oM (.and_u64 J J J (show Ah _ _ = some (u64 1) from rfl) (.cV J J J J Body216 (scalar_doubled_n _ _ (by rw [bit_le]; omega)) tV ?_))))
      refine .sA J J J J zB Sz157 (by (simp [Bd]; done)) Z1 (by (simp [Bd]; done)) zV ?_
      refine .nsr (.lA J J J Y157 J Sz157 Z1 (by (simp [Bd]; done)) ?_)
      refine .lA J J J Y157 J Sz157 Z0 (by (simp [Bd]; done)) ?_
      refine .cV J J J J Body166 (scalar_below_n _ _ (res_bd _ _ _ hmL) hL) tV (.not J J J (.na (.condNP J (fun hc2 => ?_) (fun hc2 => ?_))))
      ·
       refine .region (.lA J J J Y157 J Sz157 Z1 (by (simp [Bd]; done)) ?_)
       refine .lA J J J Y157 J Sz157 Z0 (by (simp [Bd]; done)) ?_
       refine .cV J J J J Body217 (scalar_minus_n _ _ (res_bd _ _ _ hmL) (Nat.le_of_not_lt hc2)) tV (.sA J J J J zB Sz157 (by (simp [Bd]; done)) Z1 (by (simp [Bd]; done)) zV ?_)
       refine .nil (Bj (Ae ?_))
       have hst := res_step (wv (xs.take k)) (xs.getD k 0).toNat t (UInt64.toNat_lt _) ht
       simp only [] at hst
       refine ⟨(), trivial, Ac (wk1 J (wk1 J (wk1 J (wk1 J (wk1 J (wk1 J (wk1 J (wk1 J wk0)))))))) (wh1 Z0 (wh1 (by rw [show 64 - (t + 1) = 63 - t by omega, ← hst, ← bit_le]; simp only [hc2, if_true, if_false]; exact mem1) (wh1 Z2 wh0))) nD⟩
      ·
       refine .skip (Bj (Ae ?_))
       have hst := res_step (wv (xs.take k)) (xs.getD k 0).toNat t (UInt64.toNat_lt _) ht
       simp only [] at hst
       refine ⟨(), trivial, Ac (wk1 J (wk1 J (wk1 J (wk1 J (wk1 J (wk1 J (wk1 J (wk1 J wk0)))))))) (wh1 Z0 (wh1 (by rw [show 64 - (t + 1) = 63 - t by omega, ← hst, ← bit_le]; simp only [hc2, if_true, if_false]; exact mem1) (wh1 Z2 wh0))) nD⟩
     ·
      intro _u hj
      skip
      refine .region (.m J J J (.sub_i64 J J J J oM (.a J J J (.na ?_))))
      exact ⟨t + 1, by omega, by omega, Ac (wk1 rfl (wk1 rfl (wk1 rfl (wk1 rfl (wk1 (by rw [show (63 - ((t + 1 : Nat) : Int)) = 63 - (t : Int) - 1 by omega]; rfl) (wk1 rfl (wk1 rfl (wk1 rfl wk0)))))))) (wh1 Z0 (wh1 Z1 (wh1 Z2 wh0))) nD⟩
    ·
     obtain rfl : t = 64 := by omega
     refine .exit (A1 (A1 (B5 (Bj (Ae (.region (.aI J J J J oM (.m J J J (.na ?_)))))))))
     exact ⟨k + 1, by omega, by omega, Ac (wk1 rfl (wk1 rfl (wk1 rfl (wk1 rfl (wk1 rfl (wk1 rfl wk0)))))) (wh1 Z0 (wh1 (by rw [wv_take_succ xs k oM, show (64 - 64 : Nat) = 0 from rfl, Nat.pow_zero, Nat.div_one]; exact mem1) (wh1 Z2 wh0))) nD⟩
  ·
   obtain rfl : k = n := by omega
   refine .exit (A1 (A1 (B5 (Ae (.sr (.lA J J J Y157 J Sz157 Z1 (by (simp [Bd]; done)) ?_))))))
   refine .cV J J J J Body218 (scalar_store_n _) tV (.sA J J J J zB Ad (by (simp [Aj]; done)) Z2 sP (by exact upd2) ?_)
   refine .na (.ret (An ?_))
   refine ⟨_, [], Ao J J Y77 J Ad Z2 (by simp [Aj]), sP, sP, ?_, rfl⟩
   rw [List.take_of_length_le oM]

end Go.Proofs.YtpacobmjjjillaaGreat
end

section
namespace Go.Proofs.YtpacobmjjjillaaGreat
open Go Hw

theorem scalar_muladd (a b c : List UInt8) (ha : a.length = 32) (hb : b.length = 32) (hc : c.length = 32) : Meets Tryz.prog 106 [agg (Aa a), agg (Aa b), agg (Aa c)] [] (fun _ => True) (fun v out => v = agg (Aa (leb 32 ((le a * le b + le c) % L))) ∧ out = []) := by
 intro W hW
 refine Ab Tryz.func106 J 80 Tryz.ntmps106 J (.sr (.boxA J J ?_))
 intro n3 hn3 hf3
 refine .boxA J J ?_
 intro n4 hn4 hf4
 refine .boxA J J ?_
 intro n5 hn5 hf5
 refine .alloc (cs := (Aa (List.replicate 32 0))) J Bs J ?_
 intro n6 hn6 hf6
 refine .na (.seq (.draw [(1, 0), (1, 2), (1, 4), (3, 1), (3, 3), (3, 5), (2, 6), (2, 7), (2, 8), (4, 9), (4, 10), (4, 11)] Ar zK (.lA J J J Y77 J Ad Z3 (by (simp [ha]; done)) ?_)))
 refine .lA J J J Y77 J Ad Z2 (by (simp [hb]; done)) ?_
 refine .lA J J J Y77 J Ad Z1 (by (simp [hc]; done)) ?_
 refine .cV J J J J Body162 (scalar_load_n _ (by simp [ha])) tV ?_
 refine .cV J J J J Body162 (scalar_load_n _ (by simp [hb])) tV ?_
 refine .cV J J J J Body162 (scalar_load_n _ (by simp [hc])) tV ?_
 refine .alloc (cs := (Af (List.replicate 4 0))) J Zr157 J ?_
 intro n7 hn7 hf7
 refine .alloc (cs := (Af (List.replicate 4 0))) J Zr157 J ?_
 intro n8 hn8 hf8
 refine .alloc (cs := (Af (List.replicate 4 0))) J Zr157 J ?_
 intro n9 hn9 hf9
 refine .sA J J J J zB Sz157 (by (simp [Bd]; done)) Z2 sP (by exact upd2) ?_
 refine .sA J J J J zB Sz157 (by (simp [Bd]; done)) Z1 sP zV ?_
 refine .sA J J J J zB Sz157 (by (simp [Bd]; done)) Z0 sP zU ?_
 refine .nsr (.alloc (cs := (Af (List.replicate 8 0))) J Zr135 J ?_)
 intro n10 hn10 hf10
 refine .na (.seq (.draw [(0, 0), (0, 1), (4, 2)] Ar zK (.sliceArrLo 4 J J J J J dE Dc Ap (.sliceArr J J J Y157 Ap (.copy1 (vs := Af (A6 (le c))) (cs' := Af ([0, 0, 0, 0] ++ A6 (le c))) J J J J J Y159 Ap Z1 (by exact rfl) (by simp [Bd]) zB Z0 (by simp [Bd]) (by exact rfl) zU ?_)))))
 refine .na (.seq (.sr (.a J J J (.na (.block (.loop (ι := Nat) (fun p => ⟨[(6, ptr n6 0), (7, ptr n7 0), (8, ptr n8 0), (10, ptr n10 0), (11, i64 (3 - (p : Int)))], [⟨n10, Af (outM (A6 (le a)) (A6 (le b)) ([0, 0, 0, 0] ++ A6 (le c)) (p)), 135, 8⟩, ⟨n8, Af (A6 (le b)), 157, 4⟩, ⟨n7, Af (A6 (le a)), 157, 4⟩, ⟨n6, Aa (List.replicate 32 0), 77, 32⟩]⟩) (fun p => p ≤ 4) (fun p => 4 - p) (0) ?_ ?_ ?_))))))
 · omega
 · exact Ac (wk1 rfl (wk1 rfl (wk1 rfl (wk1 rfl (wk1 rfl wk0))))) (wh1 Z0 (wh1 Z2 (wh1 Z3 (wh1 Z4 wh0)))) nD
 ·
  rintro p hp4
  have hol := outM_length (A6 (le a)) (A6 (le b)) ([0, 0, 0, 0] ++ A6 (le c)) p
  refine .seq (.sr (.m J J J (.geq J J J J J (.na (.condP J (fun hc0 => ?_) (fun hc0 => ?_))))))
  ·
   have hp : p < 4 := by omega
   refine .skip (Ae (.seq (.block (.sr (.a J J (show Ah _ _ = some (u64 0) from rfl) (.na (.seq (.sr (.a J J J (.na (.block (.loop (ι := Nat) (fun q => ⟨[(6, ptr n6 0), (7, ptr n7 0), (8, ptr n8 0), (10, ptr n10 0), (11, i64 (3 - (p : Int))), (12, u64 (innM ((A6 (le a)).getD (3 - p) 0) (A6 (le b)) (3 - p) (outM (A6 (le a)) (A6 (le b)) ([0, 0, 0, 0] ++ A6 (le c)) (p)) (q)).2), (13, i64 (3 - (q : Int)))], [⟨n10, Af (innM ((A6 (le a)).getD (3 - p) 0) (A6 (le b)) (3 - p) (outM (A6 (le a)) (A6 (le b)) ([0, 0, 0, 0] ++ A6 (le c)) (p)) (q)).1, 135, 8⟩, ⟨n8, Af (A6 (le b)), 157, 4⟩, ⟨n7, Af (A6 (le a)), 157, 4⟩, ⟨n6, Aa (List.replicate 32 0), 77, 32⟩]⟩) (fun q => q ≤ 4) (fun q => 4 - q) (0) ?_ ?_ ?_))))))))))))
   · omega
   · exact Ac (wk1 rfl (wk1 rfl (wk1 rfl (wk1 rfl (wk1 rfl (wk1 rfl (wk1 rfl wk0))))))) (wh1 Z0 (wh1 Z1 (wh1 Z2 (wh1 Z3 wh0)))) nD
   ·
    rintro q hq4
    have hil := innM_length ((A6 (le a)).getD (3 - p) 0) (A6 (le b)) (3 - p) (outM (A6 (le a)) (A6 (le b)) ([0, 0, 0, 0] ++ A6 (le c)) (p)) q
    refine .seq (.sr (.m J J J (.geq J J J J J (.na (.condP J (fun hc1 => ?_) (fun hc1 => ?_))))))
    ·
     have hq : q < 4 := by omega
     refine .skip (Ae (.seq (.block (.seq (.draw [(0, 0), (0, 1), (1, 2), (0, 3), (0, 4), (1, 5), (3, 6), (0, 7), (0, 8), (0, 9), (0, 10), (0, 11)] Ar zK (.m J J J (.i1 J J J J Y157 Ap (3 - p) oM oM (.load1 J J J Y22 J Z2 (by exact A3 (by (simp [Bd]; omega))) ?_))))))))
     refine .m J J J (.i1 J J J J Y157 Ap (3 - q) oM oM (.load1 J J J Y22 J Z1 (by exact A3 (by (simp [Bd]; omega))) ?_))
     refine .cV J J J J Body163 (mul64_ok _ _) tV (.m J J J (.eX J J J J (.eX J J J J (.a J J J (.a J J J (.nsr (.m J J J (.m J J J (.m J J J (.aI J J J J oM (.aI J J J J oM (.i1 J J J J Dc Ap (3 - p + (3 - q) + 1) oM oM (.load1 J J J Y22 J Z0 (by exact A3 (by (simp [Bd, innM_length, outM_length]; omega))) ?_)))))))))))))
     refine .ext J J J J (add64_run _ _ 0 dE) (.m J J J (.eX J J J J (.eX J J J J (.a J J J (.a J J J (.nsr (.m J J J (.m J J J (.add_u64 J J J J (.a J J J (.nsr (.m J J J (.m J J J (.aI J J J J oM (.aI J J J J oM (.m J J J (.m J J J (.ext J J J J (add64_run _ _ 0 dE) (.m J J J (.eX J J J J (.eX J J J J (.i1 J J J J Dc Ap (3 - p + (3 - q) + 1) oM oM (.s1 J J J J J Ap Z0 (by (simp [Bd, innM_length, outM_length]; omega)) (by exact A9 _ _ _) zU ?_)))))))))))))))))))))))
     refine .a J J J (.na (.region (.m J J J (.m J J J (.add_u64 J J J J (.a J J J (.nil (Bj (Ae (.region (.m J J J (.sub_i64 J J J J oM (.a J J J (.na ?_))))))))))))))
     exact ⟨q + 1, by omega, by omega, Ac (wk1 rfl (wk1 rfl (wk1 rfl (wk1 rfl (wk1 rfl (wk1 (by rw [innM_snd]; rfl) (wk1 (by rw [show (3 - ((q + 1 : Nat) : Int)) = 3 - (q : Int) - 1 by omega]; rfl) wk0))))))) (wh1 (by rw [innM_fst]; exact Bo) (wh1 Z1 (wh1 Z2 (wh1 Z3 wh0)))) nD⟩
    ·
     obtain rfl : q = 4 := by omega
     refine .exit (A1 (A1 (B5 (Ae (.region (.m J J J (.i1 J J J J Dc Ap (3 - p) oM oM (.load1 J J J Y22 J Z0 (by exact A3 (by (simp [Bd, innM_length, outM_length]; omega))) ?_))))))))
     refine .m J J J (.add_u64 J J J J (.i1 J J J J Dc Ap (3 - p) oM oM (.s1 J J J J J Ap Z0 (by (simp [Bd, innM_length, outM_length]; omega)) (by exact A9 _ _ _) zU ?_)))
     refine .nil (Bj (Ae (.region (.m J J J (.sub_i64 J J J J oM (.a J J J (.na ?_)))))))
     exact ⟨p + 1, by omega, by omega, Ac (wk1 rfl (wk1 rfl (wk1 rfl (wk1 rfl (wk1 (by rw [show (3 - ((p + 1 : Nat) : Int)) = 3 - (p : Int) - 1 by omega]; rfl) wk0))))) (wh1 Z0 (wh1 Z1 (wh1 Z2 (wh1 Z3 wh0)))) nD⟩
  ·
   obtain rfl : p = 4 := by omega
   refine .exit (A1 (A1 (B5 (Ae (.sr (.sliceArr J J J Dc Ap (.cV J J J J Body165 (scalar_residue _ _ _ 8 (outM (A6 (le a)) (A6 (le b)) ([0, 0, 0, 0] ++ A6 (le c)) (4)) (by simp [Bd, outM_length]) oM) (fun W h => Ak h Z0) ?_)))))))
   refine .sA J J J J zB Ad (by (simp [Aj]; done)) Z3 sP (by exact upd3) ?_
   refine .na (.ret (An ?_))
   refine ⟨_, [], Ao J J Y77 J Ad Z3 (by simp [Aj]), sP, sP, ?_, rfl⟩
   rw [maW_val rfl rfl rfl, wv_words4, wv_words4, wv_words4, Nat.mod_eq_of_lt (le32 ha), Nat.mod_eq_of_lt (le32 hb), Nat.mod_eq_of_lt (le32 hc)]

end Go.Proofs.YtpacobmjjjillaaGreat
end
